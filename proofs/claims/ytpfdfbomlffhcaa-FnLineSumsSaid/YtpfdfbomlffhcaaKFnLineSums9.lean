-- Merged by a program of this session (wip/tool/pack.py) out of its own texts for this claim.
import Derived.Test.YtpfdfbomlffhcaaKFnLineSums0
import Derived.Test.YtpfdfbomlffhcaaKFnLineSums1
import Derived.Test.YtpfdfbomlffhcaaKFnLineSums2
import Derived.Test.YtpfdfbomlffhcaaKFnLineSums5
import Derived.Test.YtpfdfbomlffhcaaKFnLineSums6
import Derived.Test.YtpfdfbomlffhcaaKFnLineSums7
import Derived.Test.YtpfdfbomlffhcaaKFnLineSums8
namespace Go.Proofs.Ytpfdfbomlffhcaa.QZ
open Go.RowKit Go.Proofs.YtpfdfbomlffhcaaW.PrintWords Go.Proofs.YtpfdfbomlffhcaaW.PrintLast Go.Proofs.YtpfdfbomlffhcaaW.PrintMore
attribute [local go_sem] max2_int min2_int max_two min_two max_three min_three max_four min_four   -- for this text's walks alone
set_option linter.unusedVariables false
set_option linter.unusedSimpArgs false
def laws_FnLineSums.T12 : Bool × List (List Nat × List Nat) := (true, [([], []), ([0], [0]), ([1], [1]), ([], []), ([3], [3]), ([4], [4]), ([2, 5], [2, 5]), ([], []), ([7], [7]), ([8, 5], [8]), ([6, 9], [6, 9]), ([], []), ([11], [11]), ([12], [12]), ([10, 13], [10, 13]), ([14, 9, 0, 1, 2, 3, 4, 5, 6, 7, 8, 9, 10, 11, 12, 13, 14], [14])])
def laws_FnLineSums.B12 : List Nat := [0, 1, 3, 0, 8, 24, 63, 0, 128, 440, 1023, 0, 2048, 6144, 16383, 32767]
theorem laws_FnLineSums.tab12 : rtab .any (opsOf Try.f6 12) = laws_FnLineSums.T12 := by kernel_rfl
theorem laws_FnLineSums.bits12 : waitsOk laws_FnLineSums.T12.2 laws_FnLineSums.B12 = true := by kernel_rfl
def laws_FnLineSums.T14 : Bool × List (List Nat × List Nat) := (true, [([], []), ([], []), ([1], [1]), ([0, 2], [0, 2]), ([3], [3]), ([4], [4]), ([5, 4], [4, 5]), ([6, 4], [4, 6]), ([4], [4]), ([8, 4], [4, 8]), ([7, 9, 4], [4, 7, 9]), ([4, 10], [4, 10]), ([11, 4], [11]), ([12], [12]), ([12], [12]), ([14, 12], [12, 14]), ([13, 15, 12], [12, 13, 15]), ([12, 16], [12, 16]), ([17, 12], [17]), ([18], [18]), ([19, 18], [18, 19]), ([20, 18], [18, 20]), ([21, 18, 18], [18, 21]), ([22], [22]), ([23, 22], [22, 23]), ([22], [22]), ([22], [22]), ([25, 26, 22, 22], [22, 25, 26]), ([24, 27, 22], [22, 24, 27]), ([22, 28, 18], [18, 22, 28]), ([18, 29], [18, 29]), ([30, 27, 0, 1, 2, 3, 4, 5, 6, 7, 8, 9, 10, 11, 12, 13, 14, 15, 16, 17, 18, 19, 20, 21, 22, 23, 24, 25, 26, 27, 28, 29, 30], [30])])
def laws_FnLineSums.B14 : List Nat := [0, 0, 2, 7, 15, 31, 63, 127, 31, 287, 1023, 2047, 4095, 8191, 8191, 24575, 65535, 131071, 262143, 524287, 1048575, 2097151, 4194303, 8388607, 16777215, 8388607, 8388607, 109051903, 268435455, 536870911, 1073741823, 2147483647]
theorem laws_FnLineSums.tab14 : rtab .any (opsOf Try.f6 14) = laws_FnLineSums.T14 := by kernel_rfl
theorem laws_FnLineSums.bits14 : waitsOk laws_FnLineSums.T14.2 laws_FnLineSums.B14 = true := by kernel_rfl
set_option maxHeartbeats 8000000 in
set_option maxRecDepth 100000 in
theorem laws_FnLineSums.calls (k : Nat) (A0 : Option Addr) (c0 : Nat) (l0 : List Int) (r : Bool) (w : World) (hr0 : Kd.C (Kd.int .u8) w A0 l0.length l0) (hc0 : l0.length ≤ c0) (h : laws_FnLineSums.f k l0 = some r) :
    Calls Try.prog 6 #[.slice A0 l0.length c0] w fun e w' => e = .returned (.bool r) ∧ Below w.heap.size w w' := by
  have hu26 := Try.underlying26; have hu37 := Try.underlying37; have HR0 := Aside0.mk hr0; have HC0 := Aside0.mk hc0; clear hr0 hc0; have HB := Aside0.mk (Below.refl w.heap.size w); have H : (if (l0.length : Int) > 1048576 then (some true) else ((spec_DrawLinePost.f k l0).bind fun bt317 => ((spec_LinePost.f k bt317.1 bt317.2.1 bt317.2.2.1 bt317.2.2.2.1 bt317.2.2.2.2.1 bt317.2.2.2.2.2.1 bt317.2.2.2.2.2.2.1 bt317.2.2.2.2.2.2.2.1 bt317.2.2.2.2.2.2.2.2.1 bt317.2.2.2.2.2.2.2.2.2).bind fun bt328 => ((impl_LinePost.f k bt317.1 bt317.2.1 bt317.2.2.1 bt317.2.2.2.1 bt317.2.2.2.2.1 bt317.2.2.2.2.2.1 bt317.2.2.2.2.2.2.1 bt317.2.2.2.2.2.2.2.1 bt317.2.2.2.2.2.2.2.2.1 bt317.2.2.2.2.2.2.2.2.2).bind fun bt340 => (if bt340.2.2.2.2.2.2.2.2.2.2 = bt328.2.2.2.2.2.2.2.2.2.2 then (if bt328.2.2.2.2.2.2.2.2.2.2 = 0 then (if (wrap64 (bt340.2.2.2.2.2.2.2.2.1 + bt340.2.2.2.2.2.2.2.2.2.1)) = bt317.2.2.2.2.2.2.2.2.2 then (if bt340.2.2.2.2.2.2.2.2.1 < 0 then (laws_FnLineSums.j0 k bt317.2.2.2.2.2.2.2.2.1 true bt317.1 bt317.2.1 bt317.2.2.1 bt317.2.2.2.1 bt317.2.2.2.2.1 bt317.2.2.2.2.2.1 bt317.2.2.2.2.2.2.1 bt317.2.2.2.2.2.2.2.1 bt340.1 bt340.2.1 bt340.2.2.1 bt340.2.2.2.1 bt340.2.2.2.2.1 bt340.2.2.2.2.2.1 bt340.2.2.2.2.2.2.1 bt340.2.2.2.2.2.2.2.1 bt340.2.2.2.2.2.2.2.2.1 bt340.2.2.2.2.2.2.2.2.2.1 bt340.2.2.2.2.2.2.2.2.2.2) else (if bt340.2.2.2.2.2.2.2.2.2.1 < 0 then (laws_FnLineSums.j0 k bt317.2.2.2.2.2.2.2.2.1 true bt317.1 bt317.2.1 bt317.2.2.1 bt317.2.2.2.1 bt317.2.2.2.2.1 bt317.2.2.2.2.2.1 bt317.2.2.2.2.2.2.1 bt317.2.2.2.2.2.2.2.1 bt340.1 bt340.2.1 bt340.2.2.1 bt340.2.2.2.1 bt340.2.2.2.2.1 bt340.2.2.2.2.2.1 bt340.2.2.2.2.2.2.1 bt340.2.2.2.2.2.2.2.1 bt340.2.2.2.2.2.2.2.2.1 bt340.2.2.2.2.2.2.2.2.2.1 bt340.2.2.2.2.2.2.2.2.2.2) else ((impl_LineRight.f k bt340.1 bt340.2.1 bt340.2.2.1 bt340.2.2.2.1 bt340.2.2.2.2.1 bt340.2.2.2.2.2.1 bt340.2.2.2.2.2.2.1 bt340.2.2.2.2.2.2.2.1).bind fun t352 => (laws_FnLineSums.j0 k bt317.2.2.2.2.2.2.2.2.1 (!t352) bt317.1 bt317.2.1 bt317.2.2.1 bt317.2.2.2.1 bt317.2.2.2.2.1 bt317.2.2.2.2.2.1 bt317.2.2.2.2.2.2.1 bt317.2.2.2.2.2.2.2.1 bt340.1 bt340.2.1 bt340.2.2.1 bt340.2.2.2.1 bt340.2.2.2.2.1 bt340.2.2.2.2.2.1 bt340.2.2.2.2.2.2.1 bt340.2.2.2.2.2.2.2.1 bt340.2.2.2.2.2.2.2.2.1 bt340.2.2.2.2.2.2.2.2.2.1 bt340.2.2.2.2.2.2.2.2.2.2)))) else (laws_FnLineSums.j0 k bt317.2.2.2.2.2.2.2.2.1 true bt317.1 bt317.2.1 bt317.2.2.1 bt317.2.2.2.1 bt317.2.2.2.2.1 bt317.2.2.2.2.2.1 bt317.2.2.2.2.2.2.1 bt317.2.2.2.2.2.2.2.1 bt340.1 bt340.2.1 bt340.2.2.1 bt340.2.2.2.1 bt340.2.2.2.2.1 bt340.2.2.2.2.2.1 bt340.2.2.2.2.2.2.1 bt340.2.2.2.2.2.2.2.1 bt340.2.2.2.2.2.2.2.2.1 bt340.2.2.2.2.2.2.2.2.2.1 bt340.2.2.2.2.2.2.2.2.2.2)) else (some true)) else (some false)))))) = some r := h; clear h
  by_cases c2 : (l0.length : Int) > 1048576
  · rw [if_pos c2] at H; have c2b0 : decide (1048576 < (l0.length : Int)) = true := decide_eq_true c2; have c2b1 : decide (1048576 < l0.length) = true := decide_eq_true (by omega); clear c2; obtain rfl := Option.some.inj H
    go_enter Try.func6, Try.ntmps6
    go_wp2
    go_ret
    exact ⟨ff, bs HB⟩
  · rw [if_neg c2] at H; have c2b0 : decide (1048576 < (l0.length : Int)) = false := decide_eq_false c2; have c2b1 : decide (1048576 < l0.length) = false := decide_eq_false (by omega); clear c2; replace H := Option.bind_eq_some_iff.mp H; obtain ⟨⟨t317, t318, t319, t320, t321, t322, t323, t324, t325, t326⟩, A30, H⟩ := H; replace H : ((spec_LinePost.f k t317 t318 t319 t320 t321 t322 t323 t324 t325 t326).bind fun bt328 => ((impl_LinePost.f k t317 t318 t319 t320 t321 t322 t323 t324 t325 t326).bind fun bt340 => (if bt340.2.2.2.2.2.2.2.2.2.2 = bt328.2.2.2.2.2.2.2.2.2.2 then (if bt328.2.2.2.2.2.2.2.2.2.2 = 0 then (if (wrap64 (bt340.2.2.2.2.2.2.2.2.1 + bt340.2.2.2.2.2.2.2.2.2.1)) = t326 then (if bt340.2.2.2.2.2.2.2.2.1 < 0 then (laws_FnLineSums.j0 k t325 true t317 t318 t319 t320 t321 t322 t323 t324 bt340.1 bt340.2.1 bt340.2.2.1 bt340.2.2.2.1 bt340.2.2.2.2.1 bt340.2.2.2.2.2.1 bt340.2.2.2.2.2.2.1 bt340.2.2.2.2.2.2.2.1 bt340.2.2.2.2.2.2.2.2.1 bt340.2.2.2.2.2.2.2.2.2.1 bt340.2.2.2.2.2.2.2.2.2.2) else (if bt340.2.2.2.2.2.2.2.2.2.1 < 0 then (laws_FnLineSums.j0 k t325 true t317 t318 t319 t320 t321 t322 t323 t324 bt340.1 bt340.2.1 bt340.2.2.1 bt340.2.2.2.1 bt340.2.2.2.2.1 bt340.2.2.2.2.2.1 bt340.2.2.2.2.2.2.1 bt340.2.2.2.2.2.2.2.1 bt340.2.2.2.2.2.2.2.2.1 bt340.2.2.2.2.2.2.2.2.2.1 bt340.2.2.2.2.2.2.2.2.2.2) else ((impl_LineRight.f k bt340.1 bt340.2.1 bt340.2.2.1 bt340.2.2.2.1 bt340.2.2.2.2.1 bt340.2.2.2.2.2.1 bt340.2.2.2.2.2.2.1 bt340.2.2.2.2.2.2.2.1).bind fun t352 => (laws_FnLineSums.j0 k t325 (!t352) t317 t318 t319 t320 t321 t322 t323 t324 bt340.1 bt340.2.1 bt340.2.2.1 bt340.2.2.2.1 bt340.2.2.2.2.1 bt340.2.2.2.2.2.1 bt340.2.2.2.2.2.2.1 bt340.2.2.2.2.2.2.2.1 bt340.2.2.2.2.2.2.2.2.1 bt340.2.2.2.2.2.2.2.2.2.1 bt340.2.2.2.2.2.2.2.2.2.2)))) else (laws_FnLineSums.j0 k t325 true t317 t318 t319 t320 t321 t322 t323 t324 bt340.1 bt340.2.1 bt340.2.2.1 bt340.2.2.2.1 bt340.2.2.2.2.1 bt340.2.2.2.2.2.1 bt340.2.2.2.2.2.2.1 bt340.2.2.2.2.2.2.2.1 bt340.2.2.2.2.2.2.2.2.1 bt340.2.2.2.2.2.2.2.2.2.1 bt340.2.2.2.2.2.2.2.2.2.2)) else (some true)) else (some false)))) = some r := H; have A3 := Aside0.mk A30; clear A30
    go_enter Try.func6, Try.ntmps6
    try go_wp2_with (fail)
    go_at_call 24; (with_reducible refine (spec_DrawLinePost.calls k _ _ l0 t317 t318 t319 t320 t321 t322 t323 t324 t325 t326 _ ?side1 HC0.out A3.out).mono ?_); (case side1 => repeat (first | exact HR0.out | (with_reducible refine Kd.C_alloc ?_ _) | (with_reducible refine Kd.C_drewN ?_ _) | (with_reducible refine Kd.C_drew ?_))); rintro e w4 ⟨rfl, hb⟩; replace HB := Aside0.mk (below_step (bs HB) hb); (try clear hb); (try clear hb2); (try clear hk); (try clear hi); replace H := Option.bind_eq_some_iff.mp H; obtain ⟨⟨t328, t329, t330, t331, t332, t333, t334, t335, t336, t337, t338⟩, A50, H⟩ := H; replace H : ((impl_LinePost.f k t317 t318 t319 t320 t321 t322 t323 t324 t325 t326).bind fun bt340 => (if bt340.2.2.2.2.2.2.2.2.2.2 = t338 then (if t338 = 0 then (if (wrap64 (bt340.2.2.2.2.2.2.2.2.1 + bt340.2.2.2.2.2.2.2.2.2.1)) = t326 then (if bt340.2.2.2.2.2.2.2.2.1 < 0 then (laws_FnLineSums.j0 k t325 true t317 t318 t319 t320 t321 t322 t323 t324 bt340.1 bt340.2.1 bt340.2.2.1 bt340.2.2.2.1 bt340.2.2.2.2.1 bt340.2.2.2.2.2.1 bt340.2.2.2.2.2.2.1 bt340.2.2.2.2.2.2.2.1 bt340.2.2.2.2.2.2.2.2.1 bt340.2.2.2.2.2.2.2.2.2.1 bt340.2.2.2.2.2.2.2.2.2.2) else (if bt340.2.2.2.2.2.2.2.2.2.1 < 0 then (laws_FnLineSums.j0 k t325 true t317 t318 t319 t320 t321 t322 t323 t324 bt340.1 bt340.2.1 bt340.2.2.1 bt340.2.2.2.1 bt340.2.2.2.2.1 bt340.2.2.2.2.2.1 bt340.2.2.2.2.2.2.1 bt340.2.2.2.2.2.2.2.1 bt340.2.2.2.2.2.2.2.2.1 bt340.2.2.2.2.2.2.2.2.2.1 bt340.2.2.2.2.2.2.2.2.2.2) else ((impl_LineRight.f k bt340.1 bt340.2.1 bt340.2.2.1 bt340.2.2.2.1 bt340.2.2.2.2.1 bt340.2.2.2.2.2.1 bt340.2.2.2.2.2.2.1 bt340.2.2.2.2.2.2.2.1).bind fun t352 => (laws_FnLineSums.j0 k t325 (!t352) t317 t318 t319 t320 t321 t322 t323 t324 bt340.1 bt340.2.1 bt340.2.2.1 bt340.2.2.2.1 bt340.2.2.2.2.1 bt340.2.2.2.2.2.1 bt340.2.2.2.2.2.2.1 bt340.2.2.2.2.2.2.2.1 bt340.2.2.2.2.2.2.2.2.1 bt340.2.2.2.2.2.2.2.2.2.1 bt340.2.2.2.2.2.2.2.2.2.2)))) else (laws_FnLineSums.j0 k t325 true t317 t318 t319 t320 t321 t322 t323 t324 bt340.1 bt340.2.1 bt340.2.2.1 bt340.2.2.2.1 bt340.2.2.2.2.1 bt340.2.2.2.2.2.1 bt340.2.2.2.2.2.2.1 bt340.2.2.2.2.2.2.2.1 bt340.2.2.2.2.2.2.2.2.1 bt340.2.2.2.2.2.2.2.2.2.1 bt340.2.2.2.2.2.2.2.2.2.2)) else (some true)) else (some false))) = some r := H; have A5 := Aside0.mk A50; clear A50
    try go_wp2_with (first | ((with_reducible refine gate_dst (N := 3) rfl ?_); refine bx 3 (cs := #[.string (⟨#[]⟩ : ByteArray), .string (⟨#[]⟩ : ByteArray), .int .i64 0, .string (⟨#[]⟩ : ByteArray), .int .i64 0, .int .i64 0, .int .i64 0, .int .i64 0]) (t := 26) ?_; intro gb327 hg w6 hbox hb; have BK327 := Aside0.mk (hbox); have GW327 := Aside0.mk ((gs hg (bs HB))); have GE327 := Aside0.mk ((gs hg (bs HB))); replace HB := Aside0.mk (below_step (bs HB) hb); clear hb hbox hg; obtain ⟨hcz7_0, hcz7_1, hcz7_2, hcz7_3, hcz7_4, hcz7_5, hcz7_6, hcz7_7, hfz7_0, hfz7_1, hfz7_2, hfz7_3, hfz7_4, hfz7_5, hfz7_6, hfz7_7⟩ := cf8 BK327))
    go_at_call 21; (with_reducible refine (spec_LinePost.calls k t317 t318 t319 t320 t321 t322 t323 t324 t325 t326 t328 t329 t330 t331 t332 t333 t334 t335 t336 t337 t338 _ A5.out).mono ?_); rintro e w8 ⟨rfl, hb⟩; replace BK327 := Aside0.mk (blk_below (g := gb327) (o := .cells #[.string t317, .string t318, .int .i64 t319, .string t320, .int .i64 t321, .int .i64 t322, .int .i64 t323, .int .i64 t324] 26 (0, 0)) (kp BK327) hb); replace HB := Aside0.mk (below_step (bs HB) hb); (try clear hb); (try clear hb2); (try clear hk); (try clear hi); replace H := Option.bind_eq_some_iff.mp H; obtain ⟨⟨t340, t341, t342, t343, t344, t345, t346, t347, t348, t349, t350⟩, A90, H⟩ := H; replace H : (if t350 = t338 then (if t338 = 0 then (if (wrap64 (t348 + t349)) = t326 then (if t348 < 0 then (laws_FnLineSums.j0 k t325 true t317 t318 t319 t320 t321 t322 t323 t324 t340 t341 t342 t343 t344 t345 t346 t347 t348 t349 t350) else (if t349 < 0 then (laws_FnLineSums.j0 k t325 true t317 t318 t319 t320 t321 t322 t323 t324 t340 t341 t342 t343 t344 t345 t346 t347 t348 t349 t350) else ((impl_LineRight.f k t340 t341 t342 t343 t344 t345 t346 t347).bind fun t352 => (laws_FnLineSums.j0 k t325 (!t352) t317 t318 t319 t320 t321 t322 t323 t324 t340 t341 t342 t343 t344 t345 t346 t347 t348 t349 t350)))) else (laws_FnLineSums.j0 k t325 true t317 t318 t319 t320 t321 t322 t323 t324 t340 t341 t342 t343 t344 t345 t346 t347 t348 t349 t350)) else (some true)) else (some false)) = some r := H; have A9 := Aside0.mk A90; clear A90
    try go_wp2_with (first | ((with_reducible refine gate_dst (N := 6) rfl ?_); refine bx 6 (cs := #[.string (⟨#[]⟩ : ByteArray), .string (⟨#[]⟩ : ByteArray), .int .i64 0, .string (⟨#[]⟩ : ByteArray), .int .i64 0, .int .i64 0, .int .i64 0, .int .i64 0, .int .i64 0, .int .i64 0, .int .i64 0]) (t := 37) ?_; intro gb339 hg w10 hbox hb; have BK339 := Aside0.mk (hbox); have GW339 := Aside0.mk ((gs hg (bs HB))); have GE339 := Aside0.mk ((gs hg (bs HB))); replace HB := Aside0.mk (below_step (bs HB) hb); have NB327_339 := Aside0.mk ((gn hg (ks BK327))); have NB339_327 := Aside0.mk ((gm hg (ks BK327))); replace BK327 := Aside0.mk (blk_below (ks BK327) hb); clear hb hbox hg; have hnb11 := NB339_327.out; have hnc11 := NB327_339.out; obtain ⟨hcz12_0, hcz12_1, hcz12_2, hcz12_3, hcz12_4, hcz12_5, hcz12_6, hcz12_7, hcz12_8, hcz12_9, hcz12_10, hfz12_0, hfz12_1, hfz12_2, hfz12_3, hfz12_4, hfz12_5, hfz12_6, hfz12_7, hfz12_8, hfz12_9, hfz12_10⟩ := cf11 BK339; obtain ⟨hcz13_0, hcz13_1, hcz13_2, hcz13_3, hcz13_4, hcz13_5, hcz13_6, hcz13_7, hfz13_0, hfz13_1, hfz13_2, hfz13_3, hfz13_4, hfz13_5, hfz13_6, hfz13_7⟩ := cf8 BK327))
    go_at_call 22; (with_reducible refine (impl_LinePost.calls k t317 t318 t319 t320 t321 t322 t323 t324 t325 t326 t340 t341 t342 t343 t344 t345 t346 t347 t348 t349 t350 _ A9.out).mono ?_); rintro e w14 ⟨rfl, hb⟩; replace BK327 := Aside0.mk (blk_below (ks BK327) hb); replace BK339 := Aside0.mk (blk_below (g := gb339) (o := .cells #[.string t328, .string t329, .int .i64 t330, .string t331, .int .i64 t332, .int .i64 t333, .int .i64 t334, .int .i64 t335, .int .i64 t336, .int .i64 t337, .int .i64 t338] 37 (0, 0)) (kp BK339) hb); replace HB := Aside0.mk (below_step (bs HB) hb); (try clear hb); (try clear hb2); (try clear hk); (try clear hi)
    by_cases c15 : t350 = t338
    · rw [if_pos c15] at H; have c15b0 : (t350 == t338) = true := beq_iff_eq.mpr c15; have c15b1 : (t350 != t338) = false := bne_eq_false_iff_eq.mpr c15; clear c15
      by_cases c16 : t338 = 0
      · rw [if_pos c16] at H; have c16b0 : (t338 == 0) = true := beq_iff_eq.mpr c16; have c16b1 : (t338 != 0) = false := bne_eq_false_iff_eq.mpr c16; clear c16; have HC17 := Aside0.mk H; clear H
        go_upto_region 10 with (first | ((with_reducible refine gate_dst (N := 7) rfl ?_); refine bx 7 (cs := #[.string (⟨#[]⟩ : ByteArray), .string (⟨#[]⟩ : ByteArray), .int .i64 0, .string (⟨#[]⟩ : ByteArray), .int .i64 0, .int .i64 0, .int .i64 0, .int .i64 0, .int .i64 0, .int .i64 0, .int .i64 0]) (t := 37) ?_; intro gb351 hg w18 hbox hb; have BK351 := Aside0.mk (hbox); have GW351 := Aside0.mk ((gs hg (bs HB))); have GE351 := Aside0.mk ((gs hg (bs HB))); replace HB := Aside0.mk (below_step (bs HB) hb); have NB327_351 := Aside0.mk ((gn hg (ks BK327))); have NB351_327 := Aside0.mk ((gm hg (ks BK327))); replace BK327 := Aside0.mk (blk_below (ks BK327) hb); have NB339_351 := Aside0.mk ((gn hg (ks BK339))); have NB351_339 := Aside0.mk ((gm hg (ks BK339))); replace BK339 := Aside0.mk (blk_below (ks BK339) hb); clear hb hbox hg; have hnb19 := NB351_327.out; have hnc19 := NB327_351.out; have hnb20 := NB351_339.out; have hnc20 := NB339_351.out; obtain ⟨hcz21_0, hcz21_1, hcz21_2, hcz21_3, hcz21_4, hcz21_5, hcz21_6, hcz21_7, hcz21_8, hcz21_9, hcz21_10, hfz21_0, hfz21_1, hfz21_2, hfz21_3, hfz21_4, hfz21_5, hfz21_6, hfz21_7, hfz21_8, hfz21_9, hfz21_10⟩ := cf11 BK351; have hnb22 := NB339_327.out; have hnc22 := NB327_339.out; obtain ⟨hcz23_0, hcz23_1, hcz23_2, hcz23_3, hcz23_4, hcz23_5, hcz23_6, hcz23_7, hcz23_8, hcz23_9, hcz23_10, hfz23_0, hfz23_1, hfz23_2, hfz23_3, hfz23_4, hfz23_5, hfz23_6, hfz23_7, hfz23_8, hfz23_9, hfz23_10⟩ := cf11 BK339))
        (try simp only [Act.put, List.setIfInBounds_toArray, List.set_cons_zero, List.set_cons_succ])
        go_cut [57] (fun v57 wc => ∃ (kq : Nat) (x57_16 : Bool), v57 = .bool x57_16 ∧ Aside0 (laws_FnLineSums.j0 kq t325 x57_16 t317 t318 t319 t320 t321 t322 t323 t324 t340 t341 t342 t343 t344 t345 t346 t347 t348 t349 t350 = some r) ∧ Aside0 (kq ≤ k) ∧ Aside0 (wc.heap[gb327]? = some (.cells #[.string t317, .string t318, .int .i64 t319, .string t320, .int .i64 t321, .int .i64 t322, .int .i64 t323, .int .i64 t324] 26 (0, 0))) ∧ Aside0 (wc.heap[gb339]? = some (.cells #[.string t328, .string t329, .int .i64 t330, .string t331, .int .i64 t332, .int .i64 t333, .int .i64 t334, .int .i64 t335, .int .i64 t336, .int .i64 t337, .int .i64 t338] 37 (0, 0))) ∧ Aside0 (wc.heap[gb351]? = some (.cells #[.string t340, .string t341, .int .i64 t342, .string t343, .int .i64 t344, .int .i64 t345, .int .i64 t346, .int .i64 t347, .int .i64 t348, .int .i64 t349, .int .i64 t350] 37 (0, 0))) ∧ Aside0 (Below w.heap.size w wc))
        case first =>
          have H := HC17.out; clear HC17
          by_cases c24 : (wrap64 (t348 + t349)) = t326
          · rw [if_pos c24] at H; have c24b0 : ((wrap64 (t348 + t349)) == t326) = true := beq_iff_eq.mpr c24; have c24b1 : ((wrap64 (t348 + t349)) != t326) = false := bne_eq_false_iff_eq.mpr c24; clear c24
            (first | rw [c24b0] | (simp only [i64_w, i32_w]; rw [c24b0]) | skip)
            by_cases c25 : t348 < 0
            · rw [if_pos c25] at H; have c25b0 : decide (t348 < 0) = true := decide_eq_true c25; clear c25; have H' := Aside0.mk H; clear H; have hnb26 := NB351_327.out; have hnc26 := NB327_351.out; have hnb27 := NB351_339.out; have hnc27 := NB339_351.out; obtain ⟨hcz28_0, hcz28_1, hcz28_2, hcz28_3, hcz28_4, hcz28_5, hcz28_6, hcz28_7, hcz28_8, hcz28_9, hcz28_10, hfz28_0, hfz28_1, hfz28_2, hfz28_3, hfz28_4, hfz28_5, hfz28_6, hfz28_7, hfz28_8, hfz28_9, hfz28_10⟩ := cf11 BK351
              go_wp2
              go_meet
              case rel => exact ⟨_, (true), fg, H', ⟨fl⟩, ⟨ks BK327⟩, ⟨ks BK339⟩, ⟨kp BK351⟩, ⟨bs HB⟩⟩
            · rw [if_neg c25] at H; have c25b0 : decide (t348 < 0) = false := decide_eq_false c25; clear c25
              by_cases c29 : t349 < 0
              · rw [if_pos c29] at H; have c29b0 : decide (t349 < 0) = true := decide_eq_true c29; clear c29; have H' := Aside0.mk H; clear H; have hnb30 := NB351_327.out; have hnc30 := NB327_351.out; have hnb31 := NB351_339.out; have hnc31 := NB339_351.out; obtain ⟨hcz32_0, hcz32_1, hcz32_2, hcz32_3, hcz32_4, hcz32_5, hcz32_6, hcz32_7, hcz32_8, hcz32_9, hcz32_10, hfz32_0, hfz32_1, hfz32_2, hfz32_3, hfz32_4, hfz32_5, hfz32_6, hfz32_7, hfz32_8, hfz32_9, hfz32_10⟩ := cf11 BK351
                go_wp2
                go_meet
                case rel => exact ⟨_, (true), fg, H', ⟨fl⟩, ⟨ks BK327⟩, ⟨ks BK339⟩, ⟨kp BK351⟩, ⟨bs HB⟩⟩
              · rw [if_neg c29] at H; have c29b0 : decide (t349 < 0) = false := decide_eq_false c29; clear c29; replace H := Option.bind_eq_some_iff.mp H; obtain ⟨t352, A330, H⟩ := H; replace H : (laws_FnLineSums.j0 k t325 (!t352) t317 t318 t319 t320 t321 t322 t323 t324 t340 t341 t342 t343 t344 t345 t346 t347 t348 t349 t350) = some r := H; have A33 := Aside0.mk A330; clear A330; have H' := Aside0.mk H; clear H; have hnb34 := NB351_327.out; have hnc34 := NB327_351.out; have hnb35 := NB351_339.out; have hnc35 := NB339_351.out; obtain ⟨hcz36_0, hcz36_1, hcz36_2, hcz36_3, hcz36_4, hcz36_5, hcz36_6, hcz36_7, hcz36_8, hcz36_9, hcz36_10, hfz36_0, hfz36_1, hfz36_2, hfz36_3, hfz36_4, hfz36_5, hfz36_6, hfz36_7, hfz36_8, hfz36_9, hfz36_10⟩ := cf11 BK351
                go_wp2_with (first | (go_at_call 25; (with_reducible refine (impl_LineRight.calls k t340 t341 t342 t343 t344 t345 t346 t347 t352 _ A33.out).mono ?_); rintro e w37 ⟨rfl, hb⟩; replace BK327 := Aside0.mk (blk_below (ks BK327) hb); replace BK339 := Aside0.mk (blk_below (ks BK339) hb); replace BK351 := Aside0.mk (blk_below (g := gb351) (o := .cells #[.string t340, .string t341, .int .i64 t342, .string t343, .int .i64 t344, .int .i64 t345, .int .i64 t346, .int .i64 t347, .int .i64 t348, .int .i64 t349, .int .i64 t350] 37 (0, 0)) (kp BK351) hb); replace HB := Aside0.mk (below_step (bs HB) hb); (try clear hb); (try clear hb2); (try clear hk); (try clear hi)))
                go_meet
                case rel => exact ⟨_, (!t352), fg, H', ⟨fl⟩, ⟨ks BK327⟩, ⟨ks BK339⟩, ⟨ks BK351⟩, ⟨bs HB⟩⟩
          · rw [if_neg c24] at H; have c24b0 : ((wrap64 (t348 + t349)) == t326) = false := beq_eq_false_iff_ne.mpr c24; have c24b1 : ((wrap64 (t348 + t349)) != t326) = true := bne_iff_ne.mpr c24
            (first | rw [c24b0] | (simp only [i64_w, i32_w]; rw [c24b0]) | skip)
            have H' := Aside0.mk H; clear H; have hnb38 := NB351_327.out; have hnc38 := NB327_351.out; have hnb39 := NB351_339.out; have hnc39 := NB339_351.out; obtain ⟨hcz40_0, hcz40_1, hcz40_2, hcz40_3, hcz40_4, hcz40_5, hcz40_6, hcz40_7, hcz40_8, hcz40_9, hcz40_10, hfz40_0, hfz40_1, hfz40_2, hfz40_3, hfz40_4, hfz40_5, hfz40_6, hfz40_7, hfz40_8, hfz40_9, hfz40_10⟩ := cf11 BK351
            go_wp2
            go_meet
            case rel => exact ⟨_, (true), fg, H', ⟨fl⟩, ⟨ks BK327⟩, ⟨ks BK339⟩, ⟨kp BK351⟩, ⟨bs HB⟩⟩
        case rest =>
          clear HC17
          try clear c1
          try clear c2
          try clear c2b0
          try clear c2b1
          try clear p2
          try clear c3
          try clear c6
          try clear p6
          try clear c11
          try clear c15
          try clear c15b0
          try clear c15b1
          try clear c16
          try clear c16b0
          try clear c16b1
          try clear c19
          try clear c20
          try clear c22
          try clear c24
          try clear c24b0
          try clear c24b1
          try clear c25
          try clear c25b0
          try clear c26
          try clear c27
          try clear c29
          try clear c29b0
          try clear c30
          try clear c31
          try clear c34
          try clear c35
          try clear c38
          try clear c39
          try clear hcz12_0
          try clear hcz12_1
          try clear hcz12_10
          try clear hcz12_2
          try clear hcz12_3
          try clear hcz12_4
          try clear hcz12_5
          try clear hcz12_6
          try clear hcz12_7
          try clear hcz12_8
          try clear hcz12_9
          try clear hcz13_0
          try clear hcz13_1
          try clear hcz13_2
          try clear hcz13_3
          try clear hcz13_4
          try clear hcz13_5
          try clear hcz13_6
          try clear hcz13_7
          try clear hcz21_0
          try clear hcz21_1
          try clear hcz21_10
          try clear hcz21_2
          try clear hcz21_3
          try clear hcz21_4
          try clear hcz21_5
          try clear hcz21_6
          try clear hcz21_7
          try clear hcz21_8
          try clear hcz21_9
          try clear hcz23_0
          try clear hcz23_1
          try clear hcz23_10
          try clear hcz23_2
          try clear hcz23_3
          try clear hcz23_4
          try clear hcz23_5
          try clear hcz23_6
          try clear hcz23_7
          try clear hcz23_8
          try clear hcz23_9
          try clear hcz28_0
          try clear hcz28_1
          try clear hcz28_10
          try clear hcz28_2
          try clear hcz28_3
          try clear hcz28_4
          try clear hcz28_5
          try clear hcz28_6
          try clear hcz28_7
          try clear hcz28_8
          try clear hcz28_9
          try clear hcz32_0
          try clear hcz32_1
          try clear hcz32_10
          try clear hcz32_2
          try clear hcz32_3
          try clear hcz32_4
          try clear hcz32_5
          try clear hcz32_6
          try clear hcz32_7
          try clear hcz32_8
          try clear hcz32_9
          try clear hcz36_0
          try clear hcz36_1
          try clear hcz36_10
          try clear hcz36_2
          try clear hcz36_3
          try clear hcz36_4
          try clear hcz36_5
          try clear hcz36_6
          try clear hcz36_7
          try clear hcz36_8
          try clear hcz36_9
          try clear hcz40_0
          try clear hcz40_1
          try clear hcz40_10
          try clear hcz40_2
          try clear hcz40_3
          try clear hcz40_4
          try clear hcz40_5
          try clear hcz40_6
          try clear hcz40_7
          try clear hcz40_8
          try clear hcz40_9
          try clear hcz7_0
          try clear hcz7_1
          try clear hcz7_2
          try clear hcz7_3
          try clear hcz7_4
          try clear hcz7_5
          try clear hcz7_6
          try clear hcz7_7
          try clear hfz12_0
          try clear hfz12_1
          try clear hfz12_10
          try clear hfz12_2
          try clear hfz12_3
          try clear hfz12_4
          try clear hfz12_5
          try clear hfz12_6
          try clear hfz12_7
          try clear hfz12_8
          try clear hfz12_9
          try clear hfz13_0
          try clear hfz13_1
          try clear hfz13_2
          try clear hfz13_3
          try clear hfz13_4
          try clear hfz13_5
          try clear hfz13_6
          try clear hfz13_7
          try clear hfz21_0
          try clear hfz21_1
          try clear hfz21_10
          try clear hfz21_2
          try clear hfz21_3
          try clear hfz21_4
          try clear hfz21_5
          try clear hfz21_6
          try clear hfz21_7
          try clear hfz21_8
          try clear hfz21_9
          try clear hfz23_0
          try clear hfz23_1
          try clear hfz23_10
          try clear hfz23_2
          try clear hfz23_3
          try clear hfz23_4
          try clear hfz23_5
          try clear hfz23_6
          try clear hfz23_7
          try clear hfz23_8
          try clear hfz23_9
          try clear hfz28_0
          try clear hfz28_1
          try clear hfz28_10
          try clear hfz28_2
          try clear hfz28_3
          try clear hfz28_4
          try clear hfz28_5
          try clear hfz28_6
          try clear hfz28_7
          try clear hfz28_8
          try clear hfz28_9
          try clear hfz32_0
          try clear hfz32_1
          try clear hfz32_10
          try clear hfz32_2
          try clear hfz32_3
          try clear hfz32_4
          try clear hfz32_5
          try clear hfz32_6
          try clear hfz32_7
          try clear hfz32_8
          try clear hfz32_9
          try clear hfz36_0
          try clear hfz36_1
          try clear hfz36_10
          try clear hfz36_2
          try clear hfz36_3
          try clear hfz36_4
          try clear hfz36_5
          try clear hfz36_6
          try clear hfz36_7
          try clear hfz36_8
          try clear hfz36_9
          try clear hfz40_0
          try clear hfz40_1
          try clear hfz40_10
          try clear hfz40_2
          try clear hfz40_3
          try clear hfz40_4
          try clear hfz40_5
          try clear hfz40_6
          try clear hfz40_7
          try clear hfz40_8
          try clear hfz40_9
          try clear hfz7_0
          try clear hfz7_1
          try clear hfz7_2
          try clear hfz7_3
          try clear hfz7_4
          try clear hfz7_5
          try clear hfz7_6
          try clear hfz7_7
          obtain ⟨kq, x57_16, rfl, HA, HJ16, BK327, BK339, BK351, HB⟩ := hcut
          cases kq with
          | zero => exact absurd HA.out (by simp [laws_FnLineSums.j0])
          | succ kj16 =>
            have H := HA.out; clear HA; simp only [laws_FnLineSums.j0] at H
            by_cases c41 : x57_16 = true
            · subst c41
              have H1 : (some false) = some r := by rw [if_pos rfl] at H; exact H
              clear H; have H := H1; clear H1; obtain rfl := Option.some.inj H
              go_wp2
              go_ret
              exact ⟨ff, bs HB⟩
            · replace c41 := Bool.eq_false_iff.mpr c41; subst c41
              have H1 : ((impl_LineTransit.f kj16 t340 t341 t342 t343 t344 t345 t346 t347).bind fun t353 => ((impl_LineOpen.f kj16 t340 t341 t342 t343 t344 t345 t346 t347).bind fun t354 => (if (wrap64 ((wrap64 ((wrap64 (t346 + t353)) + t354)) + t347)) = t321 then (if t344 = t321 then (if (wrap64 ((wrap64 ((wrap64 ((wrap64 ((wrap64 (t346 - t323)) + t345)) - t322)) + t347)) - t324)) = t348 then (if t349 = 0 then (some true) else ((laws_lwMost.f t317 t318 t319 t320 t321 t322 t323 t324 t325).bind fun t355 => (some (t348 == t355)))) else (some false)) else (some false)) else (some false)))) = some r := by rw [if_neg (show ¬ (false = true) by decide)] at H; exact H
              clear H; have H := H1; clear H1; replace H := Option.bind_eq_some_iff.mp H; obtain ⟨t353, A420, H⟩ := H; replace H : ((impl_LineOpen.f kj16 t340 t341 t342 t343 t344 t345 t346 t347).bind fun t354 => (if (wrap64 ((wrap64 ((wrap64 (t346 + t353)) + t354)) + t347)) = t321 then (if t344 = t321 then (if (wrap64 ((wrap64 ((wrap64 ((wrap64 ((wrap64 (t346 - t323)) + t345)) - t322)) + t347)) - t324)) = t348 then (if t349 = 0 then (some true) else ((laws_lwMost.f t317 t318 t319 t320 t321 t322 t323 t324 t325).bind fun t355 => (some (t348 == t355)))) else (some false)) else (some false)) else (some false))) = some r := H; have A42 := Aside0.mk A420; clear A420; replace H := Option.bind_eq_some_iff.mp H; obtain ⟨t354, A430, H⟩ := H; replace H : (if (wrap64 ((wrap64 ((wrap64 (t346 + t353)) + t354)) + t347)) = t321 then (if t344 = t321 then (if (wrap64 ((wrap64 ((wrap64 ((wrap64 ((wrap64 (t346 - t323)) + t345)) - t322)) + t347)) - t324)) = t348 then (if t349 = 0 then (some true) else ((laws_lwMost.f t317 t318 t319 t320 t321 t322 t323 t324 t325).bind fun t355 => (some (t348 == t355)))) else (some false)) else (some false)) else (some false)) = some r := H; have A43 := Aside0.mk A430; clear A430
              by_cases c44 : (wrap64 ((wrap64 ((wrap64 (t346 + t353)) + t354)) + t347)) = t321
              · rw [if_pos c44] at H; have c44b0 : ((wrap64 ((wrap64 ((wrap64 (t346 + t353)) + t354)) + t347)) == t321) = true := beq_iff_eq.mpr c44; have c44b1 : ((wrap64 ((wrap64 ((wrap64 (t346 + t353)) + t354)) + t347)) != t321) = false := bne_eq_false_iff_eq.mpr c44; clear c44
                by_cases c45 : t344 = t321
                · rw [if_pos c45] at H; have c45b0 : (t344 == t321) = true := beq_iff_eq.mpr c45; have c45b1 : (t344 != t321) = false := bne_eq_false_iff_eq.mpr c45; clear c45
                  by_cases c46 : (wrap64 ((wrap64 ((wrap64 ((wrap64 ((wrap64 (t346 - t323)) + t345)) - t322)) + t347)) - t324)) = t348
                  · rw [if_pos c46] at H; have c46b0 : ((wrap64 ((wrap64 ((wrap64 ((wrap64 ((wrap64 (t346 - t323)) + t345)) - t322)) + t347)) - t324)) == t348) = true := beq_iff_eq.mpr c46; have c46b1 : ((wrap64 ((wrap64 ((wrap64 ((wrap64 ((wrap64 (t346 - t323)) + t345)) - t322)) + t347)) - t324)) != t348) = false := bne_eq_false_iff_eq.mpr c46; clear c46
                    by_cases c47 : t349 = 0
                    · rw [if_pos c47] at H; have c47b0 : (t349 == 0) = true := beq_iff_eq.mpr c47; have c47b1 : (t349 != 0) = false := bne_eq_false_iff_eq.mpr c47; clear c47; obtain rfl := Option.some.inj H
                      try go_wp2
                      replace BK327 := Aside0.mk (blk_drew BK327.out); replace BK339 := Aside0.mk (blk_drew BK339.out); replace BK351 := Aside0.mk (blk_drew BK351.out); replace HB := Aside0.mk (below_drew1 HB.out); refine start_ (n := 16) (S := fun w' => w'.cell? ⟨gb351, 0, none⟩ = some (.string t340) ∧ w'.cell? ⟨gb351, 1, none⟩ = some (.string t341) ∧ w'.cell? ⟨gb351, 2, none⟩ = some (.int .i64 t342) ∧ w'.cell? ⟨gb351, 3, none⟩ = some (.string t343) ∧ w'.cell? ⟨gb351, 4, none⟩ = some (.int .i64 t344) ∧ w'.cell? ⟨gb351, 5, none⟩ = some (.int .i64 t345) ∧ w'.cell? ⟨gb351, 6, none⟩ = some (.int .i64 t346) ∧ w'.cell? ⟨gb351, 7, none⟩ = some (.int .i64 t347) ∧ w'.cell? ⟨gb351, 8, none⟩ = some (.int .i64 t348) ∧ w'.cell? ⟨gb351, 9, none⟩ = some (.int .i64 t349) ∧ w'.cell? ⟨gb351, 10, none⟩ = some (.int .i64 t350)) (ds := []) #[false, false, false, false, false, false, false, false, false, false, false, false, false, false, false, false] (by kernel_rfl) rfl rfl ⟨(blk_cell BK351.out 0).trans rfl, (blk_cell BK351.out 1).trans rfl, (blk_cell BK351.out 2).trans rfl, (blk_cell BK351.out 3).trans rfl, (blk_cell BK351.out 4).trans rfl, (blk_cell BK351.out 5).trans rfl, (blk_cell BK351.out 6).trans rfl, (blk_cell BK351.out 7).trans rfl, (blk_cell BK351.out 8).trans rfl, (blk_cell BK351.out 9).trans rfl, (blk_cell BK351.out 10).trans rfl⟩ (fun hHeld => ?_); refine with_tabW laws_FnLineSums.tab12 laws_FnLineSums.bits12 (fun HT_ HW_ => ?_)
                      generalize wc.drew = w48 at BK327 BK339 BK351 HB hHeld ⊢
                      refine pA 0 58 HT_ ?_; refine pA 1 59 HT_ ?_; refine pA 3 61 HT_ ?_; refine pA 7 65 HT_ ?_; refine pA 11 69 HT_ ?_; refine pA 12 70 HT_ ?_; refine tA 2 60 HT_ HW_ hHeld ?_; refine tA 4 62 HT_ HW_ hHeld ?_; refine tA 8 66 HT_ HW_ hHeld ?_; refine tA 13 71 HT_ HW_ hHeld ?_; refine oA 5 63 HT_ (fun K hK => ?_); refine gA Try.func15 #[.agg #[.string t340, .string t341, .int .i64 t342, .string t343, .int .i64 t344, .int .i64 t345, .int .i64 t346, .int .i64 t347]] ?_; (with_reducible refine (impl_LineTransit.calls kj16 t340 t341 t342 t343 t344 t345 t346 t347 t353 _ A42.out).mono ?_); rintro e w49 ⟨rfl, hb⟩; refine ⟨_, rfl, ?_⟩; replace BK327 := Aside0.mk (blk_below (ks BK327) hb); replace BK339 := Aside0.mk (blk_below (ks BK339) hb); replace BK351 := Aside0.mk (blk_below (ks BK351) hb); replace HB := Aside0.mk (below_step (bs HB) hb); (try clear hb); (try clear hb2); (try clear hk); (try clear hi); refine hK.out _ _ ⟨(blk_cell BK351.out 0).trans rfl, (blk_cell BK351.out 1).trans rfl, (blk_cell BK351.out 2).trans rfl, (blk_cell BK351.out 3).trans rfl, (blk_cell BK351.out 4).trans rfl, (blk_cell BK351.out 5).trans rfl, (blk_cell BK351.out 6).trans rfl, (blk_cell BK351.out 7).trans rfl, (blk_cell BK351.out 8).trans rfl, (blk_cell BK351.out 9).trans rfl, (blk_cell BK351.out 10).trans rfl⟩ (fun hHeld => ?_); clear hK K; refine nA 63 ?_; refine pA 6 64 HT_ ?_; refine oA 9 67 HT_ (fun K hK => ?_); refine gA Try.func26 #[.agg #[.string t340, .string t341, .int .i64 t342, .string t343, .int .i64 t344, .int .i64 t345, .int .i64 t346, .int .i64 t347]] ?_; (with_reducible refine (impl_LineOpen.calls kj16 t340 t341 t342 t343 t344 t345 t346 t347 t354 _ A43.out).mono ?_); rintro e w50 ⟨rfl, hb⟩; refine ⟨_, rfl, ?_⟩; replace BK327 := Aside0.mk (blk_below (ks BK327) hb); replace BK339 := Aside0.mk (blk_below (ks BK339) hb); replace BK351 := Aside0.mk (blk_below (ks BK351) hb); replace HB := Aside0.mk (below_step (bs HB) hb); (try clear hb); (try clear hb2); (try clear hk); (try clear hi); refine hK.out _ _ ⟨(blk_cell BK351.out 0).trans rfl, (blk_cell BK351.out 1).trans rfl, (blk_cell BK351.out 2).trans rfl, (blk_cell BK351.out 3).trans rfl, (blk_cell BK351.out 4).trans rfl, (blk_cell BK351.out 5).trans rfl, (blk_cell BK351.out 6).trans rfl, (blk_cell BK351.out 7).trans rfl, (blk_cell BK351.out 8).trans rfl, (blk_cell BK351.out 9).trans rfl, (blk_cell BK351.out 10).trans rfl⟩ (fun hHeld => ?_); clear hK K; refine nA 67 ?_; refine pA 10 68 HT_ ?_; refine pA 14 72 HT_ ?_; refine pA 15 8 HT_ ?_; refine done_ (done_of HT_.out (by kernel_rfl)) ?_; have hnb51 := NB351_327.out; have hnc51 := NB327_351.out; have hnb52 := NB351_339.out; have hnc52 := NB339_351.out; obtain ⟨hcz53_0, hcz53_1, hcz53_2, hcz53_3, hcz53_4, hcz53_5, hcz53_6, hcz53_7, hcz53_8, hcz53_9, hcz53_10, hfz53_0, hfz53_1, hfz53_2, hfz53_3, hfz53_4, hfz53_5, hfz53_6, hfz53_7, hfz53_8, hfz53_9, hfz53_10⟩ := cf11 BK351; have hnb54 := NB327_339.out; have hnc54 := NB339_327.out; obtain ⟨hcz55_0, hcz55_1, hcz55_2, hcz55_3, hcz55_4, hcz55_5, hcz55_6, hcz55_7, hfz55_0, hfz55_1, hfz55_2, hfz55_3, hfz55_4, hfz55_5, hfz55_6, hfz55_7⟩ := cf8 BK327
                      try go_wp2
                      replace BK327 := Aside0.mk (blk_drew BK327.out); replace BK339 := Aside0.mk (blk_drew BK339.out); replace BK351 := Aside0.mk (blk_drew BK351.out); replace HB := Aside0.mk (below_drew1 HB.out); refine start_ (n := 32) (S := fun w' => w'.cell? ⟨gb327, 0, none⟩ = some (.string t317) ∧ w'.cell? ⟨gb327, 1, none⟩ = some (.string t318) ∧ w'.cell? ⟨gb327, 2, none⟩ = some (.int .i64 t319) ∧ w'.cell? ⟨gb327, 3, none⟩ = some (.string t320) ∧ w'.cell? ⟨gb327, 4, none⟩ = some (.int .i64 t321) ∧ w'.cell? ⟨gb327, 5, none⟩ = some (.int .i64 t322) ∧ w'.cell? ⟨gb327, 6, none⟩ = some (.int .i64 t323) ∧ w'.cell? ⟨gb327, 7, none⟩ = some (.int .i64 t324) ∧ w'.cell? ⟨gb351, 0, none⟩ = some (.string t340) ∧ w'.cell? ⟨gb351, 1, none⟩ = some (.string t341) ∧ w'.cell? ⟨gb351, 2, none⟩ = some (.int .i64 t342) ∧ w'.cell? ⟨gb351, 3, none⟩ = some (.string t343) ∧ w'.cell? ⟨gb351, 4, none⟩ = some (.int .i64 t344) ∧ w'.cell? ⟨gb351, 5, none⟩ = some (.int .i64 t345) ∧ w'.cell? ⟨gb351, 6, none⟩ = some (.int .i64 t346) ∧ w'.cell? ⟨gb351, 7, none⟩ = some (.int .i64 t347) ∧ w'.cell? ⟨gb351, 8, none⟩ = some (.int .i64 t348) ∧ w'.cell? ⟨gb351, 9, none⟩ = some (.int .i64 t349) ∧ w'.cell? ⟨gb351, 10, none⟩ = some (.int .i64 t350)) (ds := []) #[false, false, false, false, false, false, false, false, false, false, false, false, false, false, false, false, false, false, false, false, false, false, false, false, false, false, false, false, false, false, false, false] (by kernel_rfl) rfl rfl ⟨(blk_cell BK327.out 0).trans rfl, (blk_cell BK327.out 1).trans rfl, (blk_cell BK327.out 2).trans rfl, (blk_cell BK327.out 3).trans rfl, (blk_cell BK327.out 4).trans rfl, (blk_cell BK327.out 5).trans rfl, (blk_cell BK327.out 6).trans rfl, (blk_cell BK327.out 7).trans rfl, (blk_cell BK351.out 0).trans rfl, (blk_cell BK351.out 1).trans rfl, (blk_cell BK351.out 2).trans rfl, (blk_cell BK351.out 3).trans rfl, (blk_cell BK351.out 4).trans rfl, (blk_cell BK351.out 5).trans rfl, (blk_cell BK351.out 6).trans rfl, (blk_cell BK351.out 7).trans rfl, (blk_cell BK351.out 8).trans rfl, (blk_cell BK351.out 9).trans rfl, (blk_cell BK351.out 10).trans rfl⟩ (fun hHeld => ?_); refine with_tabW laws_FnLineSums.tab14 laws_FnLineSums.bits14 (fun HT_ HW_ => ?_)
                      generalize w50.drew = w56 at BK327 BK339 BK351 HB hHeld ⊢
                      refine pA 0 93 HT_ ?_; refine pA 1 94 HT_ ?_; refine tA 2 95 HT_ HW_ hHeld ?_; refine pA 3 96 HT_ ?_; refine pA 4 97 HT_ ?_; refine pA 5 98 HT_ ?_; refine pA 6 99 HT_ ?_; refine pA 8 101 HT_ ?_; refine tA 7 100 HT_ HW_ hHeld ?_; refine tA 9 102 HT_ HW_ hHeld ?_; refine pA 10 103 HT_ ?_; refine pA 11 104 HT_ ?_; refine pA 12 105 HT_ ?_; refine pA 13 106 HT_ ?_; refine pA 14 107 HT_ ?_; refine tA 15 108 HT_ HW_ hHeld ?_; refine pA 16 109 HT_ ?_; refine pA 17 110 HT_ ?_; refine pA 18 111 HT_ ?_; refine pA 19 112 HT_ ?_; refine tA 20 113 HT_ HW_ hHeld ?_; refine pA 21 114 HT_ ?_; refine pA 22 115 HT_ ?_; refine pB 23 116 HT_ ?_; refine pB 24 117 HT_ ?_; refine pB 25 118 HT_ ?_; refine pB 26 119 HT_ ?_; refine pB 27 120 HT_ ?_; refine pB 28 121 HT_ ?_; refine pA 29 122 HT_ ?_; refine pA 30 123 HT_ ?_; refine pA 31 2 HT_ ?_; refine done_ (done_of HT_.out (by kernel_rfl)) ?_
                      try go_wp2
                      go_ret
                      exact ⟨ff, bs HB⟩
                    · rw [if_neg c47] at H; have c47b0 : (t349 == 0) = false := beq_eq_false_iff_ne.mpr c47; have c47b1 : (t349 != 0) = true := bne_iff_ne.mpr c47; replace H := Option.bind_eq_some_iff.mp H; obtain ⟨t355, A570, H⟩ := H; replace H : (some (t348 == t355)) = some r := H; have A57 := Aside0.mk A570; clear A570; obtain rfl := Option.some.inj H
                      try go_wp2
                      replace BK327 := Aside0.mk (blk_drew BK327.out); replace BK339 := Aside0.mk (blk_drew BK339.out); replace BK351 := Aside0.mk (blk_drew BK351.out); replace HB := Aside0.mk (below_drew1 HB.out); refine start_ (n := 16) (S := fun w' => w'.cell? ⟨gb351, 0, none⟩ = some (.string t340) ∧ w'.cell? ⟨gb351, 1, none⟩ = some (.string t341) ∧ w'.cell? ⟨gb351, 2, none⟩ = some (.int .i64 t342) ∧ w'.cell? ⟨gb351, 3, none⟩ = some (.string t343) ∧ w'.cell? ⟨gb351, 4, none⟩ = some (.int .i64 t344) ∧ w'.cell? ⟨gb351, 5, none⟩ = some (.int .i64 t345) ∧ w'.cell? ⟨gb351, 6, none⟩ = some (.int .i64 t346) ∧ w'.cell? ⟨gb351, 7, none⟩ = some (.int .i64 t347) ∧ w'.cell? ⟨gb351, 8, none⟩ = some (.int .i64 t348) ∧ w'.cell? ⟨gb351, 9, none⟩ = some (.int .i64 t349) ∧ w'.cell? ⟨gb351, 10, none⟩ = some (.int .i64 t350)) (ds := []) #[false, false, false, false, false, false, false, false, false, false, false, false, false, false, false, false] (by kernel_rfl) rfl rfl ⟨(blk_cell BK351.out 0).trans rfl, (blk_cell BK351.out 1).trans rfl, (blk_cell BK351.out 2).trans rfl, (blk_cell BK351.out 3).trans rfl, (blk_cell BK351.out 4).trans rfl, (blk_cell BK351.out 5).trans rfl, (blk_cell BK351.out 6).trans rfl, (blk_cell BK351.out 7).trans rfl, (blk_cell BK351.out 8).trans rfl, (blk_cell BK351.out 9).trans rfl, (blk_cell BK351.out 10).trans rfl⟩ (fun hHeld => ?_); refine with_tabW laws_FnLineSums.tab12 laws_FnLineSums.bits12 (fun HT_ HW_ => ?_)
                      generalize wc.drew = w58 at BK327 BK339 BK351 HB hHeld ⊢
                      refine pA 0 58 HT_ ?_; refine pA 1 59 HT_ ?_; refine pA 3 61 HT_ ?_; refine pA 7 65 HT_ ?_; refine pA 11 69 HT_ ?_; refine pA 12 70 HT_ ?_; refine tA 2 60 HT_ HW_ hHeld ?_; refine tA 4 62 HT_ HW_ hHeld ?_; refine tA 8 66 HT_ HW_ hHeld ?_; refine tA 13 71 HT_ HW_ hHeld ?_; refine oA 5 63 HT_ (fun K hK => ?_); refine gA Try.func15 #[.agg #[.string t340, .string t341, .int .i64 t342, .string t343, .int .i64 t344, .int .i64 t345, .int .i64 t346, .int .i64 t347]] ?_; (with_reducible refine (impl_LineTransit.calls kj16 t340 t341 t342 t343 t344 t345 t346 t347 t353 _ A42.out).mono ?_); rintro e w59 ⟨rfl, hb⟩; refine ⟨_, rfl, ?_⟩; replace BK327 := Aside0.mk (blk_below (ks BK327) hb); replace BK339 := Aside0.mk (blk_below (ks BK339) hb); replace BK351 := Aside0.mk (blk_below (ks BK351) hb); replace HB := Aside0.mk (below_step (bs HB) hb); (try clear hb); (try clear hb2); (try clear hk); (try clear hi); refine hK.out _ _ ⟨(blk_cell BK351.out 0).trans rfl, (blk_cell BK351.out 1).trans rfl, (blk_cell BK351.out 2).trans rfl, (blk_cell BK351.out 3).trans rfl, (blk_cell BK351.out 4).trans rfl, (blk_cell BK351.out 5).trans rfl, (blk_cell BK351.out 6).trans rfl, (blk_cell BK351.out 7).trans rfl, (blk_cell BK351.out 8).trans rfl, (blk_cell BK351.out 9).trans rfl, (blk_cell BK351.out 10).trans rfl⟩ (fun hHeld => ?_); clear hK K; refine nA 63 ?_; refine pA 6 64 HT_ ?_; refine oA 9 67 HT_ (fun K hK => ?_); refine gA Try.func26 #[.agg #[.string t340, .string t341, .int .i64 t342, .string t343, .int .i64 t344, .int .i64 t345, .int .i64 t346, .int .i64 t347]] ?_; (with_reducible refine (impl_LineOpen.calls kj16 t340 t341 t342 t343 t344 t345 t346 t347 t354 _ A43.out).mono ?_); rintro e w60 ⟨rfl, hb⟩; refine ⟨_, rfl, ?_⟩; replace BK327 := Aside0.mk (blk_below (ks BK327) hb); replace BK339 := Aside0.mk (blk_below (ks BK339) hb); replace BK351 := Aside0.mk (blk_below (ks BK351) hb); replace HB := Aside0.mk (below_step (bs HB) hb); (try clear hb); (try clear hb2); (try clear hk); (try clear hi); refine hK.out _ _ ⟨(blk_cell BK351.out 0).trans rfl, (blk_cell BK351.out 1).trans rfl, (blk_cell BK351.out 2).trans rfl, (blk_cell BK351.out 3).trans rfl, (blk_cell BK351.out 4).trans rfl, (blk_cell BK351.out 5).trans rfl, (blk_cell BK351.out 6).trans rfl, (blk_cell BK351.out 7).trans rfl, (blk_cell BK351.out 8).trans rfl, (blk_cell BK351.out 9).trans rfl, (blk_cell BK351.out 10).trans rfl⟩ (fun hHeld => ?_); clear hK K; refine nA 67 ?_; refine pA 10 68 HT_ ?_; refine pA 14 72 HT_ ?_; refine pA 15 8 HT_ ?_; refine done_ (done_of HT_.out (by kernel_rfl)) ?_; have hnb61 := NB351_327.out; have hnc61 := NB327_351.out; have hnb62 := NB351_339.out; have hnc62 := NB339_351.out; obtain ⟨hcz63_0, hcz63_1, hcz63_2, hcz63_3, hcz63_4, hcz63_5, hcz63_6, hcz63_7, hcz63_8, hcz63_9, hcz63_10, hfz63_0, hfz63_1, hfz63_2, hfz63_3, hfz63_4, hfz63_5, hfz63_6, hfz63_7, hfz63_8, hfz63_9, hfz63_10⟩ := cf11 BK351; have hnb64 := NB327_339.out; have hnc64 := NB339_327.out; obtain ⟨hcz65_0, hcz65_1, hcz65_2, hcz65_3, hcz65_4, hcz65_5, hcz65_6, hcz65_7, hfz65_0, hfz65_1, hfz65_2, hfz65_3, hfz65_4, hfz65_5, hfz65_6, hfz65_7⟩ := cf8 BK327
                      try go_wp2
                      replace BK327 := Aside0.mk (blk_drew BK327.out); replace BK339 := Aside0.mk (blk_drew BK339.out); replace BK351 := Aside0.mk (blk_drew BK351.out); replace HB := Aside0.mk (below_drew1 HB.out); refine start_ (n := 32) (S := fun w' => w'.cell? ⟨gb327, 0, none⟩ = some (.string t317) ∧ w'.cell? ⟨gb327, 1, none⟩ = some (.string t318) ∧ w'.cell? ⟨gb327, 2, none⟩ = some (.int .i64 t319) ∧ w'.cell? ⟨gb327, 3, none⟩ = some (.string t320) ∧ w'.cell? ⟨gb327, 4, none⟩ = some (.int .i64 t321) ∧ w'.cell? ⟨gb327, 5, none⟩ = some (.int .i64 t322) ∧ w'.cell? ⟨gb327, 6, none⟩ = some (.int .i64 t323) ∧ w'.cell? ⟨gb327, 7, none⟩ = some (.int .i64 t324) ∧ w'.cell? ⟨gb351, 0, none⟩ = some (.string t340) ∧ w'.cell? ⟨gb351, 1, none⟩ = some (.string t341) ∧ w'.cell? ⟨gb351, 2, none⟩ = some (.int .i64 t342) ∧ w'.cell? ⟨gb351, 3, none⟩ = some (.string t343) ∧ w'.cell? ⟨gb351, 4, none⟩ = some (.int .i64 t344) ∧ w'.cell? ⟨gb351, 5, none⟩ = some (.int .i64 t345) ∧ w'.cell? ⟨gb351, 6, none⟩ = some (.int .i64 t346) ∧ w'.cell? ⟨gb351, 7, none⟩ = some (.int .i64 t347) ∧ w'.cell? ⟨gb351, 8, none⟩ = some (.int .i64 t348) ∧ w'.cell? ⟨gb351, 9, none⟩ = some (.int .i64 t349) ∧ w'.cell? ⟨gb351, 10, none⟩ = some (.int .i64 t350)) (ds := []) #[false, false, false, false, false, false, false, false, false, false, false, false, false, false, false, false, false, false, false, false, false, false, false, false, false, false, false, false, false, false, false, false] (by kernel_rfl) rfl rfl ⟨(blk_cell BK327.out 0).trans rfl, (blk_cell BK327.out 1).trans rfl, (blk_cell BK327.out 2).trans rfl, (blk_cell BK327.out 3).trans rfl, (blk_cell BK327.out 4).trans rfl, (blk_cell BK327.out 5).trans rfl, (blk_cell BK327.out 6).trans rfl, (blk_cell BK327.out 7).trans rfl, (blk_cell BK351.out 0).trans rfl, (blk_cell BK351.out 1).trans rfl, (blk_cell BK351.out 2).trans rfl, (blk_cell BK351.out 3).trans rfl, (blk_cell BK351.out 4).trans rfl, (blk_cell BK351.out 5).trans rfl, (blk_cell BK351.out 6).trans rfl, (blk_cell BK351.out 7).trans rfl, (blk_cell BK351.out 8).trans rfl, (blk_cell BK351.out 9).trans rfl, (blk_cell BK351.out 10).trans rfl⟩ (fun hHeld => ?_); refine with_tabW laws_FnLineSums.tab14 laws_FnLineSums.bits14 (fun HT_ HW_ => ?_)
                      generalize w60.drew = w66 at BK327 BK339 BK351 HB hHeld ⊢
                      refine pA 0 93 HT_ ?_; refine pA 1 94 HT_ ?_; refine tA 2 95 HT_ HW_ hHeld ?_; refine pA 3 96 HT_ ?_; refine pA 4 97 HT_ ?_; refine pA 5 98 HT_ ?_; refine pA 6 99 HT_ ?_; refine pA 8 101 HT_ ?_; refine tA 7 100 HT_ HW_ hHeld ?_; refine tA 9 102 HT_ HW_ hHeld ?_; refine pA 10 103 HT_ ?_; refine pA 11 104 HT_ ?_; refine pA 12 105 HT_ ?_; refine pA 13 106 HT_ ?_; refine pA 14 107 HT_ ?_; refine tA 15 108 HT_ HW_ hHeld ?_; refine pA 16 109 HT_ ?_; refine pA 17 110 HT_ ?_; refine pA 18 111 HT_ ?_; refine pA 19 112 HT_ ?_; refine tA 20 113 HT_ HW_ hHeld ?_; refine pA 21 114 HT_ ?_; refine pA 22 115 HT_ ?_; refine pA 23 116 HT_ ?_; refine pA 26 119 HT_ ?_; refine tA 24 117 HT_ HW_ hHeld ?_; refine tA 25 118 HT_ HW_ hHeld ?_; refine oA 27 120 HT_ (fun K hK => ?_); refine gA Try.func27 #[.agg #[.string t317, .string t318, .int .i64 t319, .string t320, .int .i64 t321, .int .i64 t322, .int .i64 t323, .int .i64 t324], .int .i64 t325] ?_; (with_reducible refine (laws_lwMost.calls t317 t318 t319 t320 t321 t322 t323 t324 t325 t355 _ A57.out).mono ?_); rintro e w67 ⟨rfl, hb⟩; refine ⟨_, rfl, ?_⟩; replace BK327 := Aside0.mk (blk_below (ks BK327) hb); replace BK339 := Aside0.mk (blk_below (ks BK339) hb); replace BK351 := Aside0.mk (blk_below (ks BK351) hb); replace HB := Aside0.mk (below_step (bs HB) hb); (try clear hb); (try clear hb2); (try clear hk); (try clear hi); refine hK.out _ _ ⟨(blk_cell BK327.out 0).trans rfl, (blk_cell BK327.out 1).trans rfl, (blk_cell BK327.out 2).trans rfl, (blk_cell BK327.out 3).trans rfl, (blk_cell BK327.out 4).trans rfl, (blk_cell BK327.out 5).trans rfl, (blk_cell BK327.out 6).trans rfl, (blk_cell BK327.out 7).trans rfl, (blk_cell BK351.out 0).trans rfl, (blk_cell BK351.out 1).trans rfl, (blk_cell BK351.out 2).trans rfl, (blk_cell BK351.out 3).trans rfl, (blk_cell BK351.out 4).trans rfl, (blk_cell BK351.out 5).trans rfl, (blk_cell BK351.out 6).trans rfl, (blk_cell BK351.out 7).trans rfl, (blk_cell BK351.out 8).trans rfl, (blk_cell BK351.out 9).trans rfl, (blk_cell BK351.out 10).trans rfl⟩ (fun hHeld => ?_); clear hK K; refine nA 120 ?_; refine pA 28 121 HT_ ?_; refine pA 29 122 HT_ ?_; refine pA 30 123 HT_ ?_; refine pA 31 2 HT_ ?_; refine done_ (done_of HT_.out (by kernel_rfl)) ?_
                      try go_wp2
                      go_ret
                      exact ⟨ff, bs HB⟩
                  · rw [if_neg c46] at H; have c46b0 : ((wrap64 ((wrap64 ((wrap64 ((wrap64 ((wrap64 (t346 - t323)) + t345)) - t322)) + t347)) - t324)) == t348) = false := beq_eq_false_iff_ne.mpr c46; have c46b1 : ((wrap64 ((wrap64 ((wrap64 ((wrap64 ((wrap64 (t346 - t323)) + t345)) - t322)) + t347)) - t324)) != t348) = true := bne_iff_ne.mpr c46; obtain rfl := Option.some.inj H
                    try go_wp2
                    replace BK327 := Aside0.mk (blk_drew BK327.out); replace BK339 := Aside0.mk (blk_drew BK339.out); replace BK351 := Aside0.mk (blk_drew BK351.out); replace HB := Aside0.mk (below_drew1 HB.out); refine start_ (n := 16) (S := fun w' => w'.cell? ⟨gb351, 0, none⟩ = some (.string t340) ∧ w'.cell? ⟨gb351, 1, none⟩ = some (.string t341) ∧ w'.cell? ⟨gb351, 2, none⟩ = some (.int .i64 t342) ∧ w'.cell? ⟨gb351, 3, none⟩ = some (.string t343) ∧ w'.cell? ⟨gb351, 4, none⟩ = some (.int .i64 t344) ∧ w'.cell? ⟨gb351, 5, none⟩ = some (.int .i64 t345) ∧ w'.cell? ⟨gb351, 6, none⟩ = some (.int .i64 t346) ∧ w'.cell? ⟨gb351, 7, none⟩ = some (.int .i64 t347) ∧ w'.cell? ⟨gb351, 8, none⟩ = some (.int .i64 t348) ∧ w'.cell? ⟨gb351, 9, none⟩ = some (.int .i64 t349) ∧ w'.cell? ⟨gb351, 10, none⟩ = some (.int .i64 t350)) (ds := []) #[false, false, false, false, false, false, false, false, false, false, false, false, false, false, false, false] (by kernel_rfl) rfl rfl ⟨(blk_cell BK351.out 0).trans rfl, (blk_cell BK351.out 1).trans rfl, (blk_cell BK351.out 2).trans rfl, (blk_cell BK351.out 3).trans rfl, (blk_cell BK351.out 4).trans rfl, (blk_cell BK351.out 5).trans rfl, (blk_cell BK351.out 6).trans rfl, (blk_cell BK351.out 7).trans rfl, (blk_cell BK351.out 8).trans rfl, (blk_cell BK351.out 9).trans rfl, (blk_cell BK351.out 10).trans rfl⟩ (fun hHeld => ?_); refine with_tabW laws_FnLineSums.tab12 laws_FnLineSums.bits12 (fun HT_ HW_ => ?_)
                    generalize wc.drew = w68 at BK327 BK339 BK351 HB hHeld ⊢
                    refine pA 0 58 HT_ ?_; refine pA 1 59 HT_ ?_; refine pA 3 61 HT_ ?_; refine pA 7 65 HT_ ?_; refine pA 11 69 HT_ ?_; refine pA 12 70 HT_ ?_; refine tA 2 60 HT_ HW_ hHeld ?_; refine tA 4 62 HT_ HW_ hHeld ?_; refine tA 8 66 HT_ HW_ hHeld ?_; refine tA 13 71 HT_ HW_ hHeld ?_; refine oA 5 63 HT_ (fun K hK => ?_); refine gA Try.func15 #[.agg #[.string t340, .string t341, .int .i64 t342, .string t343, .int .i64 t344, .int .i64 t345, .int .i64 t346, .int .i64 t347]] ?_; (with_reducible refine (impl_LineTransit.calls kj16 t340 t341 t342 t343 t344 t345 t346 t347 t353 _ A42.out).mono ?_); rintro e w69 ⟨rfl, hb⟩; refine ⟨_, rfl, ?_⟩; replace BK327 := Aside0.mk (blk_below (ks BK327) hb); replace BK339 := Aside0.mk (blk_below (ks BK339) hb); replace BK351 := Aside0.mk (blk_below (ks BK351) hb); replace HB := Aside0.mk (below_step (bs HB) hb); (try clear hb); (try clear hb2); (try clear hk); (try clear hi); refine hK.out _ _ ⟨(blk_cell BK351.out 0).trans rfl, (blk_cell BK351.out 1).trans rfl, (blk_cell BK351.out 2).trans rfl, (blk_cell BK351.out 3).trans rfl, (blk_cell BK351.out 4).trans rfl, (blk_cell BK351.out 5).trans rfl, (blk_cell BK351.out 6).trans rfl, (blk_cell BK351.out 7).trans rfl, (blk_cell BK351.out 8).trans rfl, (blk_cell BK351.out 9).trans rfl, (blk_cell BK351.out 10).trans rfl⟩ (fun hHeld => ?_); clear hK K; refine nA 63 ?_; refine pA 6 64 HT_ ?_; refine oA 9 67 HT_ (fun K hK => ?_); refine gA Try.func26 #[.agg #[.string t340, .string t341, .int .i64 t342, .string t343, .int .i64 t344, .int .i64 t345, .int .i64 t346, .int .i64 t347]] ?_; (with_reducible refine (impl_LineOpen.calls kj16 t340 t341 t342 t343 t344 t345 t346 t347 t354 _ A43.out).mono ?_); rintro e w70 ⟨rfl, hb⟩; refine ⟨_, rfl, ?_⟩; replace BK327 := Aside0.mk (blk_below (ks BK327) hb); replace BK339 := Aside0.mk (blk_below (ks BK339) hb); replace BK351 := Aside0.mk (blk_below (ks BK351) hb); replace HB := Aside0.mk (below_step (bs HB) hb); (try clear hb); (try clear hb2); (try clear hk); (try clear hi); refine hK.out _ _ ⟨(blk_cell BK351.out 0).trans rfl, (blk_cell BK351.out 1).trans rfl, (blk_cell BK351.out 2).trans rfl, (blk_cell BK351.out 3).trans rfl, (blk_cell BK351.out 4).trans rfl, (blk_cell BK351.out 5).trans rfl, (blk_cell BK351.out 6).trans rfl, (blk_cell BK351.out 7).trans rfl, (blk_cell BK351.out 8).trans rfl, (blk_cell BK351.out 9).trans rfl, (blk_cell BK351.out 10).trans rfl⟩ (fun hHeld => ?_); clear hK K; refine nA 67 ?_; refine pA 10 68 HT_ ?_; refine pA 14 72 HT_ ?_; refine pA 15 8 HT_ ?_; refine done_ (done_of HT_.out (by kernel_rfl)) ?_; have hnb71 := NB351_327.out; have hnc71 := NB327_351.out; have hnb72 := NB351_339.out; have hnc72 := NB339_351.out; obtain ⟨hcz73_0, hcz73_1, hcz73_2, hcz73_3, hcz73_4, hcz73_5, hcz73_6, hcz73_7, hcz73_8, hcz73_9, hcz73_10, hfz73_0, hfz73_1, hfz73_2, hfz73_3, hfz73_4, hfz73_5, hfz73_6, hfz73_7, hfz73_8, hfz73_9, hfz73_10⟩ := cf11 BK351; have hnb74 := NB327_339.out; have hnc74 := NB339_327.out; obtain ⟨hcz75_0, hcz75_1, hcz75_2, hcz75_3, hcz75_4, hcz75_5, hcz75_6, hcz75_7, hfz75_0, hfz75_1, hfz75_2, hfz75_3, hfz75_4, hfz75_5, hfz75_6, hfz75_7⟩ := cf8 BK327
                    try go_wp2
                    replace BK327 := Aside0.mk (blk_drew BK327.out); replace BK339 := Aside0.mk (blk_drew BK339.out); replace BK351 := Aside0.mk (blk_drew BK351.out); replace HB := Aside0.mk (below_drew1 HB.out); refine start_ (n := 32) (S := fun w' => w'.cell? ⟨gb327, 0, none⟩ = some (.string t317) ∧ w'.cell? ⟨gb327, 1, none⟩ = some (.string t318) ∧ w'.cell? ⟨gb327, 2, none⟩ = some (.int .i64 t319) ∧ w'.cell? ⟨gb327, 3, none⟩ = some (.string t320) ∧ w'.cell? ⟨gb327, 4, none⟩ = some (.int .i64 t321) ∧ w'.cell? ⟨gb327, 5, none⟩ = some (.int .i64 t322) ∧ w'.cell? ⟨gb327, 6, none⟩ = some (.int .i64 t323) ∧ w'.cell? ⟨gb327, 7, none⟩ = some (.int .i64 t324) ∧ w'.cell? ⟨gb351, 0, none⟩ = some (.string t340) ∧ w'.cell? ⟨gb351, 1, none⟩ = some (.string t341) ∧ w'.cell? ⟨gb351, 2, none⟩ = some (.int .i64 t342) ∧ w'.cell? ⟨gb351, 3, none⟩ = some (.string t343) ∧ w'.cell? ⟨gb351, 4, none⟩ = some (.int .i64 t344) ∧ w'.cell? ⟨gb351, 5, none⟩ = some (.int .i64 t345) ∧ w'.cell? ⟨gb351, 6, none⟩ = some (.int .i64 t346) ∧ w'.cell? ⟨gb351, 7, none⟩ = some (.int .i64 t347) ∧ w'.cell? ⟨gb351, 8, none⟩ = some (.int .i64 t348) ∧ w'.cell? ⟨gb351, 9, none⟩ = some (.int .i64 t349) ∧ w'.cell? ⟨gb351, 10, none⟩ = some (.int .i64 t350)) (ds := []) #[false, false, false, false, false, false, false, false, false, false, false, false, false, false, false, false, false, false, false, false, false, false, false, false, false, false, false, false, false, false, false, false] (by kernel_rfl) rfl rfl ⟨(blk_cell BK327.out 0).trans rfl, (blk_cell BK327.out 1).trans rfl, (blk_cell BK327.out 2).trans rfl, (blk_cell BK327.out 3).trans rfl, (blk_cell BK327.out 4).trans rfl, (blk_cell BK327.out 5).trans rfl, (blk_cell BK327.out 6).trans rfl, (blk_cell BK327.out 7).trans rfl, (blk_cell BK351.out 0).trans rfl, (blk_cell BK351.out 1).trans rfl, (blk_cell BK351.out 2).trans rfl, (blk_cell BK351.out 3).trans rfl, (blk_cell BK351.out 4).trans rfl, (blk_cell BK351.out 5).trans rfl, (blk_cell BK351.out 6).trans rfl, (blk_cell BK351.out 7).trans rfl, (blk_cell BK351.out 8).trans rfl, (blk_cell BK351.out 9).trans rfl, (blk_cell BK351.out 10).trans rfl⟩ (fun hHeld => ?_); refine with_tabW laws_FnLineSums.tab14 laws_FnLineSums.bits14 (fun HT_ HW_ => ?_)
                    generalize w70.drew = w76 at BK327 BK339 BK351 HB hHeld ⊢
                    refine pA 0 93 HT_ ?_; refine pA 1 94 HT_ ?_; refine tA 2 95 HT_ HW_ hHeld ?_; refine pA 3 96 HT_ ?_; refine pA 4 97 HT_ ?_; refine pA 5 98 HT_ ?_; refine pA 6 99 HT_ ?_; refine pA 8 101 HT_ ?_; refine tA 7 100 HT_ HW_ hHeld ?_; refine tA 9 102 HT_ HW_ hHeld ?_; refine pA 10 103 HT_ ?_; refine pA 11 104 HT_ ?_; refine pA 12 105 HT_ ?_; refine pA 13 106 HT_ ?_; refine pA 14 107 HT_ ?_; refine tA 15 108 HT_ HW_ hHeld ?_; refine pA 16 109 HT_ ?_; refine pA 17 110 HT_ ?_; refine pA 18 111 HT_ ?_; refine pB 19 112 HT_ ?_; refine pB 20 113 HT_ ?_; refine pB 21 114 HT_ ?_; refine pB 22 115 HT_ ?_; refine pB 23 116 HT_ ?_; refine pB 24 117 HT_ ?_; refine pB 25 118 HT_ ?_; refine pB 26 119 HT_ ?_; refine pB 27 120 HT_ ?_; refine pB 28 121 HT_ ?_; refine pB 29 122 HT_ ?_; refine pA 30 123 HT_ ?_; refine pA 31 2 HT_ ?_; refine done_ (done_of HT_.out (by kernel_rfl)) ?_
                    try go_wp2
                    go_ret
                    exact ⟨ff, bs HB⟩
                · rw [if_neg c45] at H; have c45b0 : (t344 == t321) = false := beq_eq_false_iff_ne.mpr c45; have c45b1 : (t344 != t321) = true := bne_iff_ne.mpr c45; obtain rfl := Option.some.inj H
                  try go_wp2
                  replace BK327 := Aside0.mk (blk_drew BK327.out); replace BK339 := Aside0.mk (blk_drew BK339.out); replace BK351 := Aside0.mk (blk_drew BK351.out); replace HB := Aside0.mk (below_drew1 HB.out); refine start_ (n := 16) (S := fun w' => w'.cell? ⟨gb351, 0, none⟩ = some (.string t340) ∧ w'.cell? ⟨gb351, 1, none⟩ = some (.string t341) ∧ w'.cell? ⟨gb351, 2, none⟩ = some (.int .i64 t342) ∧ w'.cell? ⟨gb351, 3, none⟩ = some (.string t343) ∧ w'.cell? ⟨gb351, 4, none⟩ = some (.int .i64 t344) ∧ w'.cell? ⟨gb351, 5, none⟩ = some (.int .i64 t345) ∧ w'.cell? ⟨gb351, 6, none⟩ = some (.int .i64 t346) ∧ w'.cell? ⟨gb351, 7, none⟩ = some (.int .i64 t347) ∧ w'.cell? ⟨gb351, 8, none⟩ = some (.int .i64 t348) ∧ w'.cell? ⟨gb351, 9, none⟩ = some (.int .i64 t349) ∧ w'.cell? ⟨gb351, 10, none⟩ = some (.int .i64 t350)) (ds := []) #[false, false, false, false, false, false, false, false, false, false, false, false, false, false, false, false] (by kernel_rfl) rfl rfl ⟨(blk_cell BK351.out 0).trans rfl, (blk_cell BK351.out 1).trans rfl, (blk_cell BK351.out 2).trans rfl, (blk_cell BK351.out 3).trans rfl, (blk_cell BK351.out 4).trans rfl, (blk_cell BK351.out 5).trans rfl, (blk_cell BK351.out 6).trans rfl, (blk_cell BK351.out 7).trans rfl, (blk_cell BK351.out 8).trans rfl, (blk_cell BK351.out 9).trans rfl, (blk_cell BK351.out 10).trans rfl⟩ (fun hHeld => ?_); refine with_tabW laws_FnLineSums.tab12 laws_FnLineSums.bits12 (fun HT_ HW_ => ?_)
                  generalize wc.drew = w77 at BK327 BK339 BK351 HB hHeld ⊢
                  refine pA 0 58 HT_ ?_; refine pA 1 59 HT_ ?_; refine pA 3 61 HT_ ?_; refine pA 7 65 HT_ ?_; refine pA 11 69 HT_ ?_; refine pA 12 70 HT_ ?_; refine tA 2 60 HT_ HW_ hHeld ?_; refine tA 4 62 HT_ HW_ hHeld ?_; refine tA 8 66 HT_ HW_ hHeld ?_; refine tA 13 71 HT_ HW_ hHeld ?_; refine oA 5 63 HT_ (fun K hK => ?_); refine gA Try.func15 #[.agg #[.string t340, .string t341, .int .i64 t342, .string t343, .int .i64 t344, .int .i64 t345, .int .i64 t346, .int .i64 t347]] ?_; (with_reducible refine (impl_LineTransit.calls kj16 t340 t341 t342 t343 t344 t345 t346 t347 t353 _ A42.out).mono ?_); rintro e w78 ⟨rfl, hb⟩; refine ⟨_, rfl, ?_⟩; replace BK327 := Aside0.mk (blk_below (ks BK327) hb); replace BK339 := Aside0.mk (blk_below (ks BK339) hb); replace BK351 := Aside0.mk (blk_below (ks BK351) hb); replace HB := Aside0.mk (below_step (bs HB) hb); (try clear hb); (try clear hb2); (try clear hk); (try clear hi); refine hK.out _ _ ⟨(blk_cell BK351.out 0).trans rfl, (blk_cell BK351.out 1).trans rfl, (blk_cell BK351.out 2).trans rfl, (blk_cell BK351.out 3).trans rfl, (blk_cell BK351.out 4).trans rfl, (blk_cell BK351.out 5).trans rfl, (blk_cell BK351.out 6).trans rfl, (blk_cell BK351.out 7).trans rfl, (blk_cell BK351.out 8).trans rfl, (blk_cell BK351.out 9).trans rfl, (blk_cell BK351.out 10).trans rfl⟩ (fun hHeld => ?_); clear hK K; refine nA 63 ?_; refine pA 6 64 HT_ ?_; refine oA 9 67 HT_ (fun K hK => ?_); refine gA Try.func26 #[.agg #[.string t340, .string t341, .int .i64 t342, .string t343, .int .i64 t344, .int .i64 t345, .int .i64 t346, .int .i64 t347]] ?_; (with_reducible refine (impl_LineOpen.calls kj16 t340 t341 t342 t343 t344 t345 t346 t347 t354 _ A43.out).mono ?_); rintro e w79 ⟨rfl, hb⟩; refine ⟨_, rfl, ?_⟩; replace BK327 := Aside0.mk (blk_below (ks BK327) hb); replace BK339 := Aside0.mk (blk_below (ks BK339) hb); replace BK351 := Aside0.mk (blk_below (ks BK351) hb); replace HB := Aside0.mk (below_step (bs HB) hb); (try clear hb); (try clear hb2); (try clear hk); (try clear hi); refine hK.out _ _ ⟨(blk_cell BK351.out 0).trans rfl, (blk_cell BK351.out 1).trans rfl, (blk_cell BK351.out 2).trans rfl, (blk_cell BK351.out 3).trans rfl, (blk_cell BK351.out 4).trans rfl, (blk_cell BK351.out 5).trans rfl, (blk_cell BK351.out 6).trans rfl, (blk_cell BK351.out 7).trans rfl, (blk_cell BK351.out 8).trans rfl, (blk_cell BK351.out 9).trans rfl, (blk_cell BK351.out 10).trans rfl⟩ (fun hHeld => ?_); clear hK K; refine nA 67 ?_; refine pA 10 68 HT_ ?_; refine pA 14 72 HT_ ?_; refine pA 15 8 HT_ ?_; refine done_ (done_of HT_.out (by kernel_rfl)) ?_; have hnb80 := NB351_327.out; have hnc80 := NB327_351.out; have hnb81 := NB351_339.out; have hnc81 := NB339_351.out; obtain ⟨hcz82_0, hcz82_1, hcz82_2, hcz82_3, hcz82_4, hcz82_5, hcz82_6, hcz82_7, hcz82_8, hcz82_9, hcz82_10, hfz82_0, hfz82_1, hfz82_2, hfz82_3, hfz82_4, hfz82_5, hfz82_6, hfz82_7, hfz82_8, hfz82_9, hfz82_10⟩ := cf11 BK351; have hnb83 := NB327_339.out; have hnc83 := NB339_327.out; obtain ⟨hcz84_0, hcz84_1, hcz84_2, hcz84_3, hcz84_4, hcz84_5, hcz84_6, hcz84_7, hfz84_0, hfz84_1, hfz84_2, hfz84_3, hfz84_4, hfz84_5, hfz84_6, hfz84_7⟩ := cf8 BK327
                  try go_wp2
                  replace BK327 := Aside0.mk (blk_drew BK327.out); replace BK339 := Aside0.mk (blk_drew BK339.out); replace BK351 := Aside0.mk (blk_drew BK351.out); replace HB := Aside0.mk (below_drew1 HB.out); refine start_ (n := 32) (S := fun w' => w'.cell? ⟨gb327, 0, none⟩ = some (.string t317) ∧ w'.cell? ⟨gb327, 1, none⟩ = some (.string t318) ∧ w'.cell? ⟨gb327, 2, none⟩ = some (.int .i64 t319) ∧ w'.cell? ⟨gb327, 3, none⟩ = some (.string t320) ∧ w'.cell? ⟨gb327, 4, none⟩ = some (.int .i64 t321) ∧ w'.cell? ⟨gb327, 5, none⟩ = some (.int .i64 t322) ∧ w'.cell? ⟨gb327, 6, none⟩ = some (.int .i64 t323) ∧ w'.cell? ⟨gb327, 7, none⟩ = some (.int .i64 t324) ∧ w'.cell? ⟨gb351, 0, none⟩ = some (.string t340) ∧ w'.cell? ⟨gb351, 1, none⟩ = some (.string t341) ∧ w'.cell? ⟨gb351, 2, none⟩ = some (.int .i64 t342) ∧ w'.cell? ⟨gb351, 3, none⟩ = some (.string t343) ∧ w'.cell? ⟨gb351, 4, none⟩ = some (.int .i64 t344) ∧ w'.cell? ⟨gb351, 5, none⟩ = some (.int .i64 t345) ∧ w'.cell? ⟨gb351, 6, none⟩ = some (.int .i64 t346) ∧ w'.cell? ⟨gb351, 7, none⟩ = some (.int .i64 t347) ∧ w'.cell? ⟨gb351, 8, none⟩ = some (.int .i64 t348) ∧ w'.cell? ⟨gb351, 9, none⟩ = some (.int .i64 t349) ∧ w'.cell? ⟨gb351, 10, none⟩ = some (.int .i64 t350)) (ds := []) #[false, false, false, false, false, false, false, false, false, false, false, false, false, false, false, false, false, false, false, false, false, false, false, false, false, false, false, false, false, false, false, false] (by kernel_rfl) rfl rfl ⟨(blk_cell BK327.out 0).trans rfl, (blk_cell BK327.out 1).trans rfl, (blk_cell BK327.out 2).trans rfl, (blk_cell BK327.out 3).trans rfl, (blk_cell BK327.out 4).trans rfl, (blk_cell BK327.out 5).trans rfl, (blk_cell BK327.out 6).trans rfl, (blk_cell BK327.out 7).trans rfl, (blk_cell BK351.out 0).trans rfl, (blk_cell BK351.out 1).trans rfl, (blk_cell BK351.out 2).trans rfl, (blk_cell BK351.out 3).trans rfl, (blk_cell BK351.out 4).trans rfl, (blk_cell BK351.out 5).trans rfl, (blk_cell BK351.out 6).trans rfl, (blk_cell BK351.out 7).trans rfl, (blk_cell BK351.out 8).trans rfl, (blk_cell BK351.out 9).trans rfl, (blk_cell BK351.out 10).trans rfl⟩ (fun hHeld => ?_); refine with_tabW laws_FnLineSums.tab14 laws_FnLineSums.bits14 (fun HT_ HW_ => ?_)
                  generalize w79.drew = w85 at BK327 BK339 BK351 HB hHeld ⊢
                  refine pA 0 93 HT_ ?_; refine pA 1 94 HT_ ?_; refine tA 2 95 HT_ HW_ hHeld ?_; refine pA 3 96 HT_ ?_; refine pA 4 97 HT_ ?_; refine pA 5 98 HT_ ?_; refine pA 6 99 HT_ ?_; refine pA 8 101 HT_ ?_; refine tA 7 100 HT_ HW_ hHeld ?_; refine tA 9 102 HT_ HW_ hHeld ?_; refine pA 10 103 HT_ ?_; refine pA 11 104 HT_ ?_; refine pA 12 105 HT_ ?_; refine pB 13 106 HT_ ?_; refine pB 14 107 HT_ ?_; refine pB 15 108 HT_ ?_; refine pB 16 109 HT_ ?_; refine pA 17 110 HT_ ?_; refine pA 18 111 HT_ ?_; refine pB 19 112 HT_ ?_; refine pB 20 113 HT_ ?_; refine pB 21 114 HT_ ?_; refine pB 22 115 HT_ ?_; refine pB 23 116 HT_ ?_; refine pB 24 117 HT_ ?_; refine pB 25 118 HT_ ?_; refine pB 26 119 HT_ ?_; refine pB 27 120 HT_ ?_; refine pB 28 121 HT_ ?_; refine pB 29 122 HT_ ?_; refine pA 30 123 HT_ ?_; refine pA 31 2 HT_ ?_; refine done_ (done_of HT_.out (by kernel_rfl)) ?_
                  try go_wp2
                  go_ret
                  exact ⟨ff, bs HB⟩
              · rw [if_neg c44] at H; have c44b0 : ((wrap64 ((wrap64 ((wrap64 (t346 + t353)) + t354)) + t347)) == t321) = false := beq_eq_false_iff_ne.mpr c44; have c44b1 : ((wrap64 ((wrap64 ((wrap64 (t346 + t353)) + t354)) + t347)) != t321) = true := bne_iff_ne.mpr c44; obtain rfl := Option.some.inj H
                try go_wp2
                replace BK327 := Aside0.mk (blk_drew BK327.out); replace BK339 := Aside0.mk (blk_drew BK339.out); replace BK351 := Aside0.mk (blk_drew BK351.out); replace HB := Aside0.mk (below_drew1 HB.out); refine start_ (n := 16) (S := fun w' => w'.cell? ⟨gb351, 0, none⟩ = some (.string t340) ∧ w'.cell? ⟨gb351, 1, none⟩ = some (.string t341) ∧ w'.cell? ⟨gb351, 2, none⟩ = some (.int .i64 t342) ∧ w'.cell? ⟨gb351, 3, none⟩ = some (.string t343) ∧ w'.cell? ⟨gb351, 4, none⟩ = some (.int .i64 t344) ∧ w'.cell? ⟨gb351, 5, none⟩ = some (.int .i64 t345) ∧ w'.cell? ⟨gb351, 6, none⟩ = some (.int .i64 t346) ∧ w'.cell? ⟨gb351, 7, none⟩ = some (.int .i64 t347) ∧ w'.cell? ⟨gb351, 8, none⟩ = some (.int .i64 t348) ∧ w'.cell? ⟨gb351, 9, none⟩ = some (.int .i64 t349) ∧ w'.cell? ⟨gb351, 10, none⟩ = some (.int .i64 t350)) (ds := []) #[false, false, false, false, false, false, false, false, false, false, false, false, false, false, false, false] (by kernel_rfl) rfl rfl ⟨(blk_cell BK351.out 0).trans rfl, (blk_cell BK351.out 1).trans rfl, (blk_cell BK351.out 2).trans rfl, (blk_cell BK351.out 3).trans rfl, (blk_cell BK351.out 4).trans rfl, (blk_cell BK351.out 5).trans rfl, (blk_cell BK351.out 6).trans rfl, (blk_cell BK351.out 7).trans rfl, (blk_cell BK351.out 8).trans rfl, (blk_cell BK351.out 9).trans rfl, (blk_cell BK351.out 10).trans rfl⟩ (fun hHeld => ?_); refine with_tabW laws_FnLineSums.tab12 laws_FnLineSums.bits12 (fun HT_ HW_ => ?_)
                generalize wc.drew = w86 at BK327 BK339 BK351 HB hHeld ⊢
                refine pA 0 58 HT_ ?_; refine pA 1 59 HT_ ?_; refine pA 3 61 HT_ ?_; refine pA 7 65 HT_ ?_; refine pA 11 69 HT_ ?_; refine pA 12 70 HT_ ?_; refine tA 2 60 HT_ HW_ hHeld ?_; refine tA 4 62 HT_ HW_ hHeld ?_; refine tA 8 66 HT_ HW_ hHeld ?_; refine tA 13 71 HT_ HW_ hHeld ?_; refine oA 5 63 HT_ (fun K hK => ?_); refine gA Try.func15 #[.agg #[.string t340, .string t341, .int .i64 t342, .string t343, .int .i64 t344, .int .i64 t345, .int .i64 t346, .int .i64 t347]] ?_; (with_reducible refine (impl_LineTransit.calls kj16 t340 t341 t342 t343 t344 t345 t346 t347 t353 _ A42.out).mono ?_); rintro e w87 ⟨rfl, hb⟩; refine ⟨_, rfl, ?_⟩; replace BK327 := Aside0.mk (blk_below (ks BK327) hb); replace BK339 := Aside0.mk (blk_below (ks BK339) hb); replace BK351 := Aside0.mk (blk_below (ks BK351) hb); replace HB := Aside0.mk (below_step (bs HB) hb); (try clear hb); (try clear hb2); (try clear hk); (try clear hi); refine hK.out _ _ ⟨(blk_cell BK351.out 0).trans rfl, (blk_cell BK351.out 1).trans rfl, (blk_cell BK351.out 2).trans rfl, (blk_cell BK351.out 3).trans rfl, (blk_cell BK351.out 4).trans rfl, (blk_cell BK351.out 5).trans rfl, (blk_cell BK351.out 6).trans rfl, (blk_cell BK351.out 7).trans rfl, (blk_cell BK351.out 8).trans rfl, (blk_cell BK351.out 9).trans rfl, (blk_cell BK351.out 10).trans rfl⟩ (fun hHeld => ?_); clear hK K; refine nA 63 ?_; refine pA 6 64 HT_ ?_; refine oA 9 67 HT_ (fun K hK => ?_); refine gA Try.func26 #[.agg #[.string t340, .string t341, .int .i64 t342, .string t343, .int .i64 t344, .int .i64 t345, .int .i64 t346, .int .i64 t347]] ?_; (with_reducible refine (impl_LineOpen.calls kj16 t340 t341 t342 t343 t344 t345 t346 t347 t354 _ A43.out).mono ?_); rintro e w88 ⟨rfl, hb⟩; refine ⟨_, rfl, ?_⟩; replace BK327 := Aside0.mk (blk_below (ks BK327) hb); replace BK339 := Aside0.mk (blk_below (ks BK339) hb); replace BK351 := Aside0.mk (blk_below (ks BK351) hb); replace HB := Aside0.mk (below_step (bs HB) hb); (try clear hb); (try clear hb2); (try clear hk); (try clear hi); refine hK.out _ _ ⟨(blk_cell BK351.out 0).trans rfl, (blk_cell BK351.out 1).trans rfl, (blk_cell BK351.out 2).trans rfl, (blk_cell BK351.out 3).trans rfl, (blk_cell BK351.out 4).trans rfl, (blk_cell BK351.out 5).trans rfl, (blk_cell BK351.out 6).trans rfl, (blk_cell BK351.out 7).trans rfl, (blk_cell BK351.out 8).trans rfl, (blk_cell BK351.out 9).trans rfl, (blk_cell BK351.out 10).trans rfl⟩ (fun hHeld => ?_); clear hK K; refine nA 67 ?_; refine pA 10 68 HT_ ?_; refine pA 14 72 HT_ ?_; refine pA 15 8 HT_ ?_; refine done_ (done_of HT_.out (by kernel_rfl)) ?_; have hnb89 := NB351_327.out; have hnc89 := NB327_351.out; have hnb90 := NB351_339.out; have hnc90 := NB339_351.out; obtain ⟨hcz91_0, hcz91_1, hcz91_2, hcz91_3, hcz91_4, hcz91_5, hcz91_6, hcz91_7, hcz91_8, hcz91_9, hcz91_10, hfz91_0, hfz91_1, hfz91_2, hfz91_3, hfz91_4, hfz91_5, hfz91_6, hfz91_7, hfz91_8, hfz91_9, hfz91_10⟩ := cf11 BK351; have hnb92 := NB327_339.out; have hnc92 := NB339_327.out; obtain ⟨hcz93_0, hcz93_1, hcz93_2, hcz93_3, hcz93_4, hcz93_5, hcz93_6, hcz93_7, hfz93_0, hfz93_1, hfz93_2, hfz93_3, hfz93_4, hfz93_5, hfz93_6, hfz93_7⟩ := cf8 BK327
                try go_wp2
                replace BK327 := Aside0.mk (blk_drew BK327.out); replace BK339 := Aside0.mk (blk_drew BK339.out); replace BK351 := Aside0.mk (blk_drew BK351.out); replace HB := Aside0.mk (below_drew1 HB.out); refine start_ (n := 32) (S := fun w' => w'.cell? ⟨gb327, 0, none⟩ = some (.string t317) ∧ w'.cell? ⟨gb327, 1, none⟩ = some (.string t318) ∧ w'.cell? ⟨gb327, 2, none⟩ = some (.int .i64 t319) ∧ w'.cell? ⟨gb327, 3, none⟩ = some (.string t320) ∧ w'.cell? ⟨gb327, 4, none⟩ = some (.int .i64 t321) ∧ w'.cell? ⟨gb327, 5, none⟩ = some (.int .i64 t322) ∧ w'.cell? ⟨gb327, 6, none⟩ = some (.int .i64 t323) ∧ w'.cell? ⟨gb327, 7, none⟩ = some (.int .i64 t324)) (ds := []) #[false, false, false, false, false, false, false, false, false, false, false, false, false, false, false, false, false, false, false, false, false, false, false, false, false, false, false, false, false, false, false, false] (by kernel_rfl) rfl rfl ⟨(blk_cell BK327.out 0).trans rfl, (blk_cell BK327.out 1).trans rfl, (blk_cell BK327.out 2).trans rfl, (blk_cell BK327.out 3).trans rfl, (blk_cell BK327.out 4).trans rfl, (blk_cell BK327.out 5).trans rfl, (blk_cell BK327.out 6).trans rfl, (blk_cell BK327.out 7).trans rfl⟩ (fun hHeld => ?_); refine with_tabW laws_FnLineSums.tab14 laws_FnLineSums.bits14 (fun HT_ HW_ => ?_)
                generalize w88.drew = w94 at BK327 BK339 BK351 HB hHeld ⊢
                refine pA 0 93 HT_ ?_; refine pA 1 94 HT_ ?_; refine tA 2 95 HT_ HW_ hHeld ?_; refine pA 3 96 HT_ ?_; refine pA 4 97 HT_ ?_; refine pB 5 98 HT_ ?_; refine pB 6 99 HT_ ?_; refine pB 7 100 HT_ ?_; refine pB 8 101 HT_ ?_; refine pB 9 102 HT_ ?_; refine pB 10 103 HT_ ?_; refine pA 11 104 HT_ ?_; refine pA 12 105 HT_ ?_; refine pB 13 106 HT_ ?_; refine pB 14 107 HT_ ?_; refine pB 15 108 HT_ ?_; refine pB 16 109 HT_ ?_; refine pA 17 110 HT_ ?_; refine pA 18 111 HT_ ?_; refine pB 19 112 HT_ ?_; refine pB 20 113 HT_ ?_; refine pB 21 114 HT_ ?_; refine pB 22 115 HT_ ?_; refine pB 23 116 HT_ ?_; refine pB 24 117 HT_ ?_; refine pB 25 118 HT_ ?_; refine pB 26 119 HT_ ?_; refine pB 27 120 HT_ ?_; refine pB 28 121 HT_ ?_; refine pB 29 122 HT_ ?_; refine pA 30 123 HT_ ?_; refine pA 31 2 HT_ ?_; refine done_ (done_of HT_.out (by kernel_rfl)) ?_
                try go_wp2
                go_ret
                exact ⟨ff, bs HB⟩
      · rw [if_neg c16] at H; have c16b0 : (t338 == 0) = false := beq_eq_false_iff_ne.mpr c16; have c16b1 : (t338 != 0) = true := bne_iff_ne.mpr c16; obtain rfl := Option.some.inj H
        go_wp2_with (first | ((with_reducible refine gate_dst (N := 7) rfl ?_); refine bx 7 (cs := #[.string (⟨#[]⟩ : ByteArray), .string (⟨#[]⟩ : ByteArray), .int .i64 0, .string (⟨#[]⟩ : ByteArray), .int .i64 0, .int .i64 0, .int .i64 0, .int .i64 0, .int .i64 0, .int .i64 0, .int .i64 0]) (t := 37) ?_; intro gb351 hg w95 hbox hb; have BK351 := Aside0.mk (hbox); have GW351 := Aside0.mk ((gs hg (bs HB))); have GE351 := Aside0.mk ((gs hg (bs HB))); replace HB := Aside0.mk (below_step (bs HB) hb); have NB327_351 := Aside0.mk ((gn hg (ks BK327))); have NB351_327 := Aside0.mk ((gm hg (ks BK327))); replace BK327 := Aside0.mk (blk_below (ks BK327) hb); have NB339_351 := Aside0.mk ((gn hg (ks BK339))); have NB351_339 := Aside0.mk ((gm hg (ks BK339))); replace BK339 := Aside0.mk (blk_below (ks BK339) hb); clear hb hbox hg; have hnb96 := NB351_327.out; have hnc96 := NB327_351.out; have hnb97 := NB351_339.out; have hnc97 := NB339_351.out; obtain ⟨hcz98_0, hcz98_1, hcz98_2, hcz98_3, hcz98_4, hcz98_5, hcz98_6, hcz98_7, hcz98_8, hcz98_9, hcz98_10, hfz98_0, hfz98_1, hfz98_2, hfz98_3, hfz98_4, hfz98_5, hfz98_6, hfz98_7, hfz98_8, hfz98_9, hfz98_10⟩ := cf11 BK351; have hnb99 := NB339_327.out; have hnc99 := NB327_339.out; obtain ⟨hcz100_0, hcz100_1, hcz100_2, hcz100_3, hcz100_4, hcz100_5, hcz100_6, hcz100_7, hcz100_8, hcz100_9, hcz100_10, hfz100_0, hfz100_1, hfz100_2, hfz100_3, hfz100_4, hfz100_5, hfz100_6, hfz100_7, hfz100_8, hfz100_9, hfz100_10⟩ := cf11 BK339))
        go_ret
        exact ⟨ff, bs HB⟩
    · rw [if_neg c15] at H; have c15b0 : (t350 == t338) = false := beq_eq_false_iff_ne.mpr c15; have c15b1 : (t350 != t338) = true := bne_iff_ne.mpr c15; obtain rfl := Option.some.inj H
      go_wp2_with (first | ((with_reducible refine gate_dst (N := 7) rfl ?_); refine bx 7 (cs := #[.string (⟨#[]⟩ : ByteArray), .string (⟨#[]⟩ : ByteArray), .int .i64 0, .string (⟨#[]⟩ : ByteArray), .int .i64 0, .int .i64 0, .int .i64 0, .int .i64 0, .int .i64 0, .int .i64 0, .int .i64 0]) (t := 37) ?_; intro gb351 hg w101 hbox hb; have BK351 := Aside0.mk (hbox); have GW351 := Aside0.mk ((gs hg (bs HB))); have GE351 := Aside0.mk ((gs hg (bs HB))); replace HB := Aside0.mk (below_step (bs HB) hb); have NB327_351 := Aside0.mk ((gn hg (ks BK327))); have NB351_327 := Aside0.mk ((gm hg (ks BK327))); replace BK327 := Aside0.mk (blk_below (ks BK327) hb); have NB339_351 := Aside0.mk ((gn hg (ks BK339))); have NB351_339 := Aside0.mk ((gm hg (ks BK339))); replace BK339 := Aside0.mk (blk_below (ks BK339) hb); clear hb hbox hg; have hnb102 := NB351_327.out; have hnc102 := NB327_351.out; have hnb103 := NB351_339.out; have hnc103 := NB339_351.out; obtain ⟨hcz104_0, hcz104_1, hcz104_2, hcz104_3, hcz104_4, hcz104_5, hcz104_6, hcz104_7, hcz104_8, hcz104_9, hcz104_10, hfz104_0, hfz104_1, hfz104_2, hfz104_3, hfz104_4, hfz104_5, hfz104_6, hfz104_7, hfz104_8, hfz104_9, hfz104_10⟩ := cf11 BK351; have hnb105 := NB339_327.out; have hnc105 := NB327_339.out; obtain ⟨hcz106_0, hcz106_1, hcz106_2, hcz106_3, hcz106_4, hcz106_5, hcz106_6, hcz106_7, hcz106_8, hcz106_9, hcz106_10, hfz106_0, hfz106_1, hfz106_2, hfz106_3, hfz106_4, hfz106_5, hfz106_6, hfz106_7, hfz106_8, hfz106_9, hfz106_10⟩ := cf11 BK339))
      go_ret
      exact ⟨ff, bs HB⟩
end Go.Proofs.Ytpfdfbomlffhcaa.QZ
