-- Merged by a program of this session (wip/tool/pack.py) out of its own texts for this claim.
import Derived.Test.YtefmkmhjbfpelaaKFnExactBookTransit0
import Derived.Test.YtefmkmhjbfpelaaKFnExactBookTransit1
import Derived.Test.YtefmkmhjbfpelaaKFnExactBookTransit2
import Derived.Test.YtefmkmhjbfpelaaKFnExactBookTransit4
import Derived.Test.YtefmkmhjbfpelaaKFnExactBookTransit6
import Derived.Test.YtefmkmhjbfpelaaKFnExactBookTransit7
import Derived.Test.YtefmkmhjbfpelaaKFnExactBookTransit8
namespace Go.Proofs.Ytefmkmhjbfpelaa.QT
open Go.RowKit Go.Proofs.YtefmkmhjbfpelaaW.PrintWords Go.Proofs.YtefmkmhjbfpelaaW.PrintLast Go.Proofs.YtefmkmhjbfpelaaW.PrintMore
attribute [local go_sem] max2_int min2_int max_two min_two max_three min_three max_four min_four   -- for this text's walks alone
set_option linter.unusedVariables false
set_option linter.unusedSimpArgs false
def IsS47 (w0 W : World) (g : Nat) (f0 : List (S117)) (f1 : List (S54)) : Prop := ∃ A0 c0, ∃ A1 c1, W.heap[g]? = some (.cells #[.slice A0 f0.length c0, .slice A1 f1.length c1] 47 (0, 0)) ∧ w0.heap.size ≤ g ∧ (Kd.C k117 w0 A0 f0.length f0 ∧ f0.length ≤ c0) ∧ (Kd.C k54 w0 A1 f1.length f1 ∧ f1.length ≤ c1)
theorem IsS47.grown {w0 W : World} {g : Nat} {f0 : List (S117)} {f1 : List (S54)} {W1 : World} {row : Option Nat} (h : IsS47 w0 W g f0 f1) (hw : W.grownBy W1 row) (hne : some g ≠ row) : IsS47 w0 W1 g f0 f1 := by
  obtain ⟨A0, c0, A1, c1, hb, hg, hr0, hr1⟩ := h
  exact ⟨A0, c0, A1, c1, blk_grown hb hw hne, hg, hr0, hr1⟩
theorem IsS47.kept {w0 W : World} {g : Nat} {f0 : List (S117)} {f1 : List (S54)} {W1 : World} {S : Nat → Prop} (h : IsS47 w0 W g f0 f1) (hk : Kept W W1 S) (hne : ¬ S g) : IsS47 w0 W1 g f0 f1 := by
  obtain ⟨A0, c0, A1, c1, hb, hg, hr0, hr1⟩ := h
  exact ⟨A0, c0, A1, c1, blk_kept hb hk hne, hg, hr0, hr1⟩
theorem IsS47.below {w0 W : World} {g : Nat} {f0 : List (S117)} {f1 : List (S54)} {W1 : World} (h : IsS47 w0 W g f0 f1) (hw : Below W.heap.size W W1) : IsS47 w0 W1 g f0 f1 := h.grown (grown_of_below hw none) (by simp)
theorem IsS47.alloc {w0 W : World} {g : Nat} {f0 : List (S117)} {f1 : List (S54)} (h : IsS47 w0 W g f0 f1) (o : Obj) : IsS47 w0 (W.alloc o) g f0 f1 := h.below (below_alloc (Below.refl _ _) o)
theorem IsS47.drewN {w0 W : World} {g : Nat} {f0 : List (S117)} {f1 : List (S54)} (h : IsS47 w0 W g f0 f1) (m : Nat) : IsS47 w0 (W.drewN m) g f0 f1 := h
theorem IsS47.drew {w0 W : World} {g : Nat} {f0 : List (S117)} {f1 : List (S54)} (h : IsS47 w0 W g f0 f1) : IsS47 w0 W.drew g f0 f1 := h
theorem IsS47.at_ {w0 W : World} {g : Nat} {f0 : List (S117)} {f1 : List (S54)} {w' : World} {m : Nat} (hq : W.drewN m = w') (h : IsS47 w0 W g f0 f1) : IsS47 w0 w' g f0 f1 := by subst hq; exact IsS47.drewN h m
theorem IsS47.apart {w0 W : World} {g : Nat} {f0 : List (S117)} {f1 : List (S54)} {α : Type} {d : Kd α} {e : Nat} {base : Nat} {ok : Nat → Prop} {v : Value} {xs : List α} (h : IsS47 w0 W g f0 f1) (ho : d.R e W base ok v xs) (ht : ∀ q, q ∈ e :: d.E → q ≠ 47) : d.R e W base (fun k => ok k ∧ k ≠ g) v xs := by
  obtain ⟨A0, c0, A1, c1, hb, hg, hr0, hr1⟩ := h
  exact Kd.R_types ho hb ht
theorem IsS47.own_ne {w0 W : World} {g : Nat} {f0 : List (S117)} {f1 : List (S54)} {α : Type} {d : Kd α} {e : Nat} {base : Nat} {ok : Nat → Prop} {v : Value} {xs : List α} (h : IsS47 w0 W g f0 f1) (ho : d.R e W base ok v xs) (ht : e ≠ 47) : some g ≠ v.ownBlock := by
  obtain ⟨A0, c0, A1, c1, hb, hg, hr0, hr1⟩ := h
  exact Kd.R_ne ho hb ht
theorem IsS47.lt {w0 W : World} {g : Nat} {f0 : List (S117)} {f1 : List (S54)} (h : IsS47 w0 W g f0 f1) : g < W.heap.size := by
  obtain ⟨A0, c0, A1, c1, hb, hg, hr0, hr1⟩ := h
  exact blk_lt hb
theorem IsS47.ge {w0 W : World} {g : Nat} {f0 : List (S117)} {f1 : List (S54)} (h : IsS47 w0 W g f0 f1) : w0.heap.size ≤ g := by
  obtain ⟨A0, c0, A1, c1, hb, hg, hr0, hr1⟩ := h
  exact hg
theorem IsS47.far {w0 W : World} {g : Nat} {f0 : List (S117)} {f1 : List (S54)} {p : Addr} (h : IsS47 w0 W g f0 f1) (hne : g ≠ p.block) (u : Value) : IsS47 w0 (W.setCell p u) g f0 f1 := by
  obtain ⟨A0, c0, A1, c1, hb, hg, hr0, hr1⟩ := h
  exact ⟨A0, c0, A1, c1, blk_far hb hne u, hg, hr0, hr1⟩
theorem IsS47.keepBut {w0 W : World} {g : Nat} {f0 : List (S117)} {f1 : List (S54)} {W1 : World} {b : Nat} (hk : KeepBut W W1 b none) (h : IsS47 w0 W g f0 f1) (hne : g ≠ b) : IsS47 w0 W1 g f0 f1 := by
  obtain ⟨A0, c0, A1, c1, hb, hg, hr0, hr1⟩ := h
  exact ⟨A0, c0, A1, c1, KeepBut.blk hk hb hne (by simp), hg, hr0, hr1⟩
theorem cellS47_0 {W : World} {g : Nat} {A0 : Option Addr} {c0 : Nat} {A1 : Option Addr} {c1 : Nat} {f0 : List (S117)} {f1 : List (S54)} (h : W.heap[g]? = some (.cells #[.slice A0 f0.length c0, .slice A1 f1.length c1] 47 (0, 0))) : W.cell? ⟨g, 0, none⟩ = some (.slice A0 f0.length c0) := (blk_cell h 0).trans rfl
theorem cellS47_1 {W : World} {g : Nat} {A0 : Option Addr} {c0 : Nat} {A1 : Option Addr} {c1 : Nat} {f0 : List (S117)} {f1 : List (S54)} (h : W.heap[g]? = some (.cells #[.slice A0 f0.length c0, .slice A1 f1.length c1] 47 (0, 0))) : W.cell? ⟨g, 1, none⟩ = some (.slice A1 f1.length c1) := (blk_cell h 1).trans rfl
set_option maxHeartbeats 8000000 in
set_option maxRecDepth 100000 in
theorem impl_Book_sum_impl_OrderLine_transit.calls (k : Nat) (g : Nat) (s0_0 : List (S117)) (s0_1 : List (S54)) (a1 : ByteArray) (a2 : ByteArray)  (r : Int) (w0 w : World) (hI : IsS47 w0 w g s0_0 s0_1) (hB : Below w0.heap.size w0 w) (h : impl_Book_sum_impl_OrderLine_transit.f k s0_0 s0_1 a1 a2 = some r) :
    Calls Try.prog 137 #[.pointer (some ⟨g, 0, none⟩), .string a1, .string a2, .func (.func 140) #[] #[]] w fun e w' => e = .returned (.int .i64 r) ∧ IsS47 w0 w' g s0_0 s0_1 ∧ Below w0.heap.size w0 w' ∧ KeepBut w w' g none := by
  have hu54 := Try.underlying54; have HI0 := Aside0.mk hI; have HK := Aside0.mk (KeepBut.refl w g none); have HL := Aside0.mk hB.size; clear hI; have HW0 := Aside0.mk hB.size; have HB := Aside0.mk hB; clear hB; have H : (impl_Book_sum_impl_OrderLine_transit.l0 k a1 a2 0 s0_1 (s0_1.length : Int) 0) = some r := h; clear h; have H' := Aside0.mk H; clear H; obtain ⟨ASz5_0, cSz5_0, ASz5_1, cSz5_1, HGz5, hgz5, HSz5_0, HSz5_1⟩ := HI0.out; have hcz5_0 := cellS47_0 HGz5; have hcz5_1 := cellS47_1 HGz5; clear HGz5 hgz5; have HCz5_0 := HSz5_0.2; have HCz5_1 := HSz5_1.2; replace HSz5_0 := HSz5_0.1; replace HSz5_1 := HSz5_1.1
  go_enter Try.func137, Try.ntmps137
  go_wp2
  go_loopg [9, 17] k (fun kq v9 v17 w' => ∃ (x9_1 : Int) (x17_1 : Int), v9 = .int .i64 x9_1 ∧ v17 = .int .i64 x17_1 ∧ Aside0 (impl_Book_sum_impl_OrderLine_transit.l0 kq a1 a2 x9_1 s0_1 (s0_1.length : Int) x17_1 = some r) ∧ Aside0 (kq ≤ k) ∧ Aside0 (IsS47 w0 w' g s0_0 s0_1) ∧ Aside0 (KeepBut w w' g none) ∧ Aside0 (Below w0.heap.size w0 w'))
  case atStart => exact ⟨(0), (0), fg, fg, H', ⟨Nat.le_refl _⟩, ⟨by repeat (first | (with_reducible first | exact HI0.out | apply IsS47.alloc | apply IsS47.drewN | apply IsS47.drew) | exact HI0.out)⟩, ⟨by repeat (first | (with_reducible first | exact HK.out | apply KeepBut.set_ | apply keep_drewN | apply keep_drew | apply keep_alloc) | exact HK.out)⟩, ⟨by repeat (first | (with_reducible first | exact HB.out | apply below_alloc | apply pw_below_drewN | apply below_drew1 | refine below_set ?_ (IsS47.ge HI0.out)) | exact HB.out)⟩⟩
  case round =>
    clear H'
    try clear c1
    try clear p2
    try clear hcz5_0
    try clear hcz5_1
    obtain ⟨x9_1, x17_1, rfl, rfl, HA, HK1, HI0, HK, HB⟩ := hrel
    cases gk with
    | zero => exact absurd HA.out (by simp [impl_Book_sum_impl_OrderLine_transit.l0])
    | succ k1 =>
      have H := HA.out; clear HA; simp only [impl_Book_sum_impl_OrderLine_transit.l0] at H
      by_cases c6 : x17_1 < (s0_1.length : Int)
      · rw [if_pos c6] at H; have c6b0 : decide (x17_1 < (s0_1.length : Int)) = true := decide_eq_true c6; clear c6
        by_cases c7 : 0 ≤ x17_1
        · rw [if_pos c7] at H; have c7b0 : decide (0 ≤ x17_1) = true := decide_eq_true c7; clear c7
          by_cases c8 : x17_1 < (s0_1.length : Int)
          · rw [if_pos c8] at H; have c8b0 : decide (x17_1 < (s0_1.length : Int)) = true := decide_eq_true c8; clear c8; replace H := Option.bind_eq_some_iff.mp H; obtain ⟨⟨t219, t220, t221, t222, t223, t224, t225, t226, t227⟩, A90, H⟩ := H; replace H : (if t219 = true then (if t223.toList = a2.toList then ((impl_OrderLine_transit.f t220 t221 t222 t223 t224 t225 t226 t227).bind fun bt228 => (impl_Book_sum_impl_OrderLine_transit.l0 k1 a1 a2 (wrap64 (x9_1 + bt228.1)) s0_1 (s0_1.length : Int) (wrap64 (x17_1 + 1)))) else (impl_Book_sum_impl_OrderLine_transit.l0 k1 a1 a2 x9_1 s0_1 (s0_1.length : Int) (wrap64 (x17_1 + 1)))) else (impl_Book_sum_impl_OrderLine_transit.l0 k1 a1 a2 x9_1 s0_1 (s0_1.length : Int) (wrap64 (x17_1 + 1)))) = some r := H; have A9 := Aside0.mk A90; clear A90; obtain ⟨ASz10_0, cSz10_0, ASz10_1, cSz10_1, HGz10, hgz10, HSz10_0, HSz10_1⟩ := HI0.out; have hcz10_0 := cellS47_0 HGz10; have hcz10_1 := cellS47_1 HGz10; clear HGz10 hgz10; have HCz10_0 := HSz10_0.2; have HCz10_1 := HSz10_1.2; replace HSz10_0 := HSz10_0.1; replace HSz10_1 := HSz10_1.1; have p217 : 0 ≤ (x17_1 : Int) := oa; have q217 : x17_1 < (s0_1.length : Int) := oa; obtain ⟨ad217, e217, hx217_0, hx217_1, hx217_2, hx217_3, hx217_4, hx217_5, hx217_6, hx217_7⟩ := at_T54 HSz10_1 x17_1 p217 q217
            (try (obtain ⟨adb217, eb217, hxb217_0, hxb217_1, hxb217_2, hxb217_3, hxb217_4, hxb217_5, hxb217_6, hxb217_7⟩ := at_T54 HSz5_1 x17_1 p217 q217; cases eb217; replace hxb217_0 := pw_cell_below HB.out hxb217_0; replace hxb217_1 := pw_cell_below HB.out hxb217_1; replace hxb217_2 := pw_cell_below HB.out hxb217_2; replace hxb217_3 := pw_cell_below HB.out hxb217_3; replace hxb217_4 := pw_cell_below HB.out hxb217_4; replace hxb217_5 := pw_cell_below HB.out hxb217_5; replace hxb217_6 := pw_cell_below HB.out hxb217_6; replace hxb217_7 := pw_cell_below HB.out hxb217_7))
            cases e217
            replace hx217_0 := pw_cell_below HB.out hx217_0; replace hx217_1 := pw_cell_below HB.out hx217_1; replace hx217_2 := pw_cell_below HB.out hx217_2; replace hx217_3 := pw_cell_below HB.out hx217_3; replace hx217_4 := pw_cell_below HB.out hx217_4; replace hx217_5 := pw_cell_below HB.out hx217_5; replace hx217_6 := pw_cell_below HB.out hx217_6; replace hx217_7 := pw_cell_below HB.out hx217_7; replace p217 := eq_true p217; replace q217 := eq_true q217
            try go_wp2_with (first | ((with_reducible refine gate_dst (N := 11) rfl ?_); refine bx 11 (cs := #[.string (⟨#[]⟩ : ByteArray), .string (⟨#[]⟩ : ByteArray), .int .i64 0, .string (⟨#[]⟩ : ByteArray), .int .i64 0, .int .i64 0, .int .i64 0, .int .i64 0]) (t := 54) ?_; intro gb218 hg w11 hbox hb; have n0_ := Aside0.mk (IsS47.below (by repeat (first | (with_reducible first | exact HI0.out | apply IsS47.alloc | apply IsS47.drewN | apply IsS47.drew) | exact HI0.out)) hb); have n1_ := Aside0.mk (KeepBut.trans (by repeat (first | (with_reducible first | exact HK.out | apply KeepBut.set_ | apply keep_drewN | apply keep_drew | apply keep_alloc) | exact HK.out)) (KeepBut.of_below hb g none) (.inl rfl)); have n2_ := Aside0.mk (below_step (by repeat (first | (with_reducible first | exact HB.out | apply below_alloc | apply pw_below_drewN | apply below_drew1 | refine below_set ?_ (IsS47.ge HI0.out)) | exact HB.out)) hb); have n3_ := Aside0.mk ((by rw [hg]; exact (keep_size (w := w) (g := g) (row := none) (by repeat (first | (with_reducible first | exact HK.out | apply KeepBut.set_ | apply keep_drewN | apply keep_drew | apply keep_alloc) | exact HK.out))) : w.heap.size ≤ gb218)); have n4_ := Aside0.mk ((Nat.le_trans HW0.out (by rw [hg]; exact (keep_size (w := w) (g := g) (row := none) (by repeat (first | (with_reducible first | exact HK.out | apply KeepBut.set_ | apply keep_drewN | apply keep_drew | apply keep_alloc) | exact HK.out))) : w.heap.size ≤ gb218) : w0.heap.size ≤ gb218)); have n5_ := Aside0.mk ((by rw [hg]; exact Nat.ne_of_lt (IsS47.lt (show IsS47 w0 _ g s0_0 s0_1 from by repeat (first | (with_reducible first | exact HI0.out | apply IsS47.alloc | apply IsS47.drewN | apply IsS47.drew) | exact HI0.out))) : g ≠ gb218)); have n6_ := Aside0.mk ((by rw [hg]; exact Nat.ne_of_gt (IsS47.lt (show IsS47 w0 _ g s0_0 s0_1 from by repeat (first | (with_reducible first | exact HI0.out | apply IsS47.alloc | apply IsS47.drewN | apply IsS47.drew) | exact HI0.out))) : gb218 ≠ g)); have n7_ := Aside0.mk ((show IsS54 w0 w11 gb218 (⟨#[]⟩ : ByteArray) (⟨#[]⟩ : ByteArray) 0 (⟨#[]⟩ : ByteArray) 0 0 0 0 from ⟨hbox, (by rw [hg]; exact (Nat.le_trans HW0.out (keep_size (w := w) (g := g) (row := none) (by repeat (first | (with_reducible first | exact HK.out | apply KeepBut.set_ | apply keep_drewN | apply keep_drew | apply keep_alloc) | exact HK.out)))) : w0.heap.size ≤ gb218)⟩)); clear HI0; clear HK; clear HB; have HI0 := n0_; have HK := n1_; have HB := n2_; have GW218 := n3_; have GE218 := n4_; have NB0_218 := n5_; have NB218_0 := n6_; have HI218 := n7_; clear n0_ n1_ n2_ n3_ n4_ n5_ n6_ n7_; clear hb hbox hg; obtain ⟨HGz12, hgz12⟩ := HI218.out; have hcz12_0 := cellS54_0 HGz12; have hcz12_1 := cellS54_1 HGz12; have hcz12_2 := cellS54_2 HGz12; have hcz12_3 := cellS54_3 HGz12; have hcz12_4 := cellS54_4 HGz12; have hcz12_5 := cellS54_5 HGz12; have hcz12_6 := cellS54_6 HGz12; have hcz12_7 := cellS54_7 HGz12; have hfz12_0 := blk_frozen HGz12 0; have hfz12_1 := blk_frozen HGz12 1; have hfz12_2 := blk_frozen HGz12 2; have hfz12_3 := blk_frozen HGz12 3; have hfz12_4 := blk_frozen HGz12 4; have hfz12_5 := blk_frozen HGz12 5; have hfz12_6 := blk_frozen HGz12 6; have hfz12_7 := blk_frozen HGz12 7; clear HGz12 hgz12))
            go_at_call 161; (with_reducible refine (impl_OrderLine_isOf.calls gb218 ((rd_T54 s0_1 x17_1).f0) ((rd_T54 s0_1 x17_1).f1) ((rd_T54 s0_1 x17_1).f2) ((rd_T54 s0_1 x17_1).f3) ((rd_T54 s0_1 x17_1).f4) ((rd_T54 s0_1 x17_1).f5) ((rd_T54 s0_1 x17_1).f6) ((rd_T54 s0_1 x17_1).f7) a1 t219 t220 t221 t222 t223 t224 t225 t226 t227 w0 _ ?side1 ?side2 A9.out).mono ?_); (case side1 => repeat (first | (with_reducible first | exact HI218.out | apply IsS54.alloc | apply IsS54.drewN | apply IsS54.drew | apply IsS54.set_0 | apply IsS54.set_1 | apply IsS54.set_2 | apply IsS54.set_3 | apply IsS54.set_4 | apply IsS54.set_5 | apply IsS54.set_6 | apply IsS54.set_7 | refine IsS54.far ?_ NB218_0.out _) | exact HI218.out)); (case side2 => repeat (first | (with_reducible first | exact HB.out | apply below_alloc | apply pw_below_drewN | apply below_drew1 | refine below_set ?_ (IsS47.ge HI0.out) | refine below_set ?_ (IsS54.ge HI218.out)) | exact HB.out)); rintro e w13 ⟨rfl, hi, hb, hk⟩; replace HI0 := Aside0.mk ((show IsS47 w0 w13 g s0_0 s0_1 from IsS47.keepBut hk (by repeat (first | (with_reducible first | exact HI0.out | apply IsS47.alloc | apply IsS47.drewN | apply IsS47.drew | refine IsS47.far ?_ NB0_218.out _) | exact HI0.out)) NB0_218.out)); replace HK := Aside0.mk ((show KeepBut w w13 g none from KeepBut.far (by repeat (first | (with_reducible first | exact HK.out | apply KeepBut.set_ | apply keep_drewN | apply keep_drew | apply keep_alloc | refine keep_far ?_ GW218.out _) | exact HK.out)) hk GW218.out)); replace HB := Aside0.mk (hb); replace HI218 := Aside0.mk (hi); (try clear hb); (try clear hb2); (try clear hk); (try clear hi)
            by_cases c14 : t219 = true
            · subst c14
              have H1 : (if t223.toList = a2.toList then ((impl_OrderLine_transit.f t220 t221 t222 t223 t224 t225 t226 t227).bind fun bt228 => (impl_Book_sum_impl_OrderLine_transit.l0 k1 a1 a2 (wrap64 (x9_1 + bt228.1)) s0_1 (s0_1.length : Int) (wrap64 (x17_1 + 1)))) else (impl_Book_sum_impl_OrderLine_transit.l0 k1 a1 a2 x9_1 s0_1 (s0_1.length : Int) (wrap64 (x17_1 + 1)))) = some r := by rw [if_pos rfl] at H; exact H
              clear H; have H := H1; clear H1
              by_cases c15 : t223.toList = a2.toList
              · rw [if_pos c15] at H; have c15b0 : (t223.toList == a2.toList) = true := beq_iff_eq.mpr c15; have c15b1 : (t223.toList != a2.toList) = false := bne_eq_false_iff_eq.mpr c15; clear c15; replace H := Option.bind_eq_some_iff.mp H; obtain ⟨⟨t228, t229, t230, t231, t232, t233, t234, t235, t236⟩, A160, H⟩ := H; replace H : (impl_Book_sum_impl_OrderLine_transit.l0 k1 a1 a2 (wrap64 (x9_1 + t228)) s0_1 (s0_1.length : Int) (wrap64 (x17_1 + 1))) = some r := H; have A16 := Aside0.mk A160; clear A160; have H' := Aside0.mk H; clear H; obtain ⟨HGz17, hgz17⟩ := HI218.out; have hcz17_0 := cellS54_0 HGz17; have hcz17_1 := cellS54_1 HGz17; have hcz17_2 := cellS54_2 HGz17; have hcz17_3 := cellS54_3 HGz17; have hcz17_4 := cellS54_4 HGz17; have hcz17_5 := cellS54_5 HGz17; have hcz17_6 := cellS54_6 HGz17; have hcz17_7 := cellS54_7 HGz17; have hfz17_0 := blk_frozen HGz17 0; have hfz17_1 := blk_frozen HGz17 1; have hfz17_2 := blk_frozen HGz17 2; have hfz17_3 := blk_frozen HGz17 3; have hfz17_4 := blk_frozen HGz17 4; have hfz17_5 := blk_frozen HGz17 5; have hfz17_6 := blk_frozen HGz17 6; have hfz17_7 := blk_frozen HGz17 7; clear HGz17 hgz17
                go_wp2_with (first | (go_at_call 140; (with_reducible refine (impl_OrderLine_transit.calls gb218 t220 t221 t222 t223 t224 t225 t226 t227 t228 t229 t230 t231 t232 t233 t234 t235 t236 w0 _ ?side1 ?side2 A16.out).mono ?_); (case side1 => repeat (first | (with_reducible first | exact HI218.out | apply IsS54.alloc | apply IsS54.drewN | apply IsS54.drew | apply IsS54.set_0 | apply IsS54.set_1 | apply IsS54.set_2 | apply IsS54.set_3 | apply IsS54.set_4 | apply IsS54.set_5 | apply IsS54.set_6 | apply IsS54.set_7 | refine IsS54.far ?_ NB218_0.out _) | exact HI218.out)); (case side2 => repeat (first | (with_reducible first | exact HB.out | apply below_alloc | apply pw_below_drewN | apply below_drew1 | refine below_set ?_ (IsS47.ge HI0.out) | refine below_set ?_ (IsS54.ge HI218.out)) | exact HB.out)); rintro e w18 ⟨rfl, hi, hb, hk⟩; replace HI0 := Aside0.mk ((show IsS47 w0 w18 g s0_0 s0_1 from IsS47.keepBut hk (by repeat (first | (with_reducible first | exact HI0.out | apply IsS47.alloc | apply IsS47.drewN | apply IsS47.drew | refine IsS47.far ?_ NB0_218.out _) | exact HI0.out)) NB0_218.out)); replace HK := Aside0.mk ((show KeepBut w w18 g none from KeepBut.far (by repeat (first | (with_reducible first | exact HK.out | apply KeepBut.set_ | apply keep_drewN | apply keep_drew | apply keep_alloc | refine keep_far ?_ GW218.out _) | exact HK.out)) hk GW218.out)); replace HB := Aside0.mk (hb); replace HI218 := Aside0.mk (hi); (try clear hb); (try clear hb2); (try clear hk); (try clear hi)))
                go_roundg k1
                case measure => have := HK1.out; omega
                case rel => exact ⟨(wrap64 (x9_1 + t228)), (wrap64 (x17_1 + 1)), fg, fg, H', ⟨by have := HK1.out; omega⟩, ⟨by repeat (first | (with_reducible first | exact HI0.out | apply IsS47.alloc | apply IsS47.drewN | apply IsS47.drew | refine IsS47.far ?_ NB0_218.out _) | exact HI0.out)⟩, ⟨by repeat (first | (with_reducible first | exact HK.out | apply KeepBut.set_ | apply keep_drewN | apply keep_drew | apply keep_alloc | refine keep_far ?_ GW218.out _) | exact HK.out)⟩, ⟨by repeat (first | (with_reducible first | exact HB.out | apply below_alloc | apply pw_below_drewN | apply below_drew1 | refine below_set ?_ (IsS47.ge HI0.out) | refine below_set ?_ (IsS54.ge HI218.out)) | exact HB.out)⟩⟩
              · rw [if_neg c15] at H; have c15b0 : (t223.toList == a2.toList) = false := beq_eq_false_iff_ne.mpr c15; have c15b1 : (t223.toList != a2.toList) = true := bne_iff_ne.mpr c15; have H' := Aside0.mk H; clear H; obtain ⟨HGz19, hgz19⟩ := HI218.out; have hcz19_0 := cellS54_0 HGz19; have hcz19_1 := cellS54_1 HGz19; have hcz19_2 := cellS54_2 HGz19; have hcz19_3 := cellS54_3 HGz19; have hcz19_4 := cellS54_4 HGz19; have hcz19_5 := cellS54_5 HGz19; have hcz19_6 := cellS54_6 HGz19; have hcz19_7 := cellS54_7 HGz19; have hfz19_0 := blk_frozen HGz19 0; have hfz19_1 := blk_frozen HGz19 1; have hfz19_2 := blk_frozen HGz19 2; have hfz19_3 := blk_frozen HGz19 3; have hfz19_4 := blk_frozen HGz19 4; have hfz19_5 := blk_frozen HGz19 5; have hfz19_6 := blk_frozen HGz19 6; have hfz19_7 := blk_frozen HGz19 7; clear HGz19 hgz19
                go_wp2
                go_roundg k1
                case measure => have := HK1.out; omega
                case rel => exact ⟨(x9_1), (wrap64 (x17_1 + 1)), fg, fg, H', ⟨by have := HK1.out; omega⟩, ⟨by repeat (first | (with_reducible first | exact HI0.out | apply IsS47.alloc | apply IsS47.drewN | apply IsS47.drew | refine IsS47.far ?_ NB0_218.out _) | exact HI0.out)⟩, ⟨by repeat (first | (with_reducible first | exact HK.out | apply KeepBut.set_ | apply keep_drewN | apply keep_drew | apply keep_alloc | refine keep_far ?_ GW218.out _) | exact HK.out)⟩, ⟨by repeat (first | (with_reducible first | exact HB.out | apply below_alloc | apply pw_below_drewN | apply below_drew1 | refine below_set ?_ (IsS47.ge HI0.out) | refine below_set ?_ (IsS54.ge HI218.out)) | exact HB.out)⟩⟩
            · replace c14 := Bool.eq_false_iff.mpr c14; subst c14
              have H1 : (impl_Book_sum_impl_OrderLine_transit.l0 k1 a1 a2 x9_1 s0_1 (s0_1.length : Int) (wrap64 (x17_1 + 1))) = some r := by rw [if_neg (show ¬ (false = true) by decide)] at H; exact H
              clear H; have H := H1; clear H1; have H' := Aside0.mk H; clear H
              go_wp2
              go_roundg k1
              case measure => have := HK1.out; omega
              case rel => exact ⟨(x9_1), (wrap64 (x17_1 + 1)), fg, fg, H', ⟨by have := HK1.out; omega⟩, ⟨by repeat (first | (with_reducible first | exact HI0.out | apply IsS47.alloc | apply IsS47.drewN | apply IsS47.drew | refine IsS47.far ?_ NB0_218.out _) | exact HI0.out)⟩, ⟨by repeat (first | (with_reducible first | exact HK.out | apply KeepBut.set_ | apply keep_drewN | apply keep_drew | apply keep_alloc | refine keep_far ?_ GW218.out _) | exact HK.out)⟩, ⟨by repeat (first | (with_reducible first | exact HB.out | apply below_alloc | apply pw_below_drewN | apply below_drew1 | refine below_set ?_ (IsS47.ge HI0.out) | refine below_set ?_ (IsS54.ge HI218.out)) | exact HB.out)⟩⟩
          · rw [if_neg c8] at H
            exact absurd H (by simp)
        · rw [if_neg c7] at H
          exact absurd H (by simp)
      · rw [if_neg c6] at H; have c6b0 : decide (x17_1 < (s0_1.length : Int)) = false := decide_eq_false c6; clear c6; obtain rfl := Option.some.inj H
        go_wp2
        go_ret
        exact ⟨ff, by repeat (first | (with_reducible first | exact HI0.out | apply IsS47.alloc | apply IsS47.drewN | apply IsS47.drew) | exact HI0.out), by repeat (first | (with_reducible first | exact HB.out | apply below_alloc | apply pw_below_drewN | apply below_drew1 | refine below_set ?_ (IsS47.ge HI0.out)) | exact HB.out), by repeat (first | (with_reducible first | exact HK.out | apply KeepBut.set_ | apply keep_drewN | apply keep_drew | apply keep_alloc) | exact HK.out)⟩
end Go.Proofs.Ytefmkmhjbfpelaa.QT
namespace Go.Proofs.Ytefmkmhjbfpelaa.QT
open Go.RowKit Go.Proofs.YtefmkmhjbfpelaaW.PrintWords Go.Proofs.YtefmkmhjbfpelaaW.PrintLast Go.Proofs.YtefmkmhjbfpelaaW.PrintMore
attribute [local go_sem] max2_int min2_int max_two min_two max_three min_three max_four min_four   -- for this text's walks alone
set_option linter.unusedVariables false
set_option linter.unusedSimpArgs false
set_option maxHeartbeats 8000000 in
set_option maxRecDepth 100000 in
theorem impl_Book_transit.calls (k : Nat) (g : Nat) (s0_0 : List (S117)) (s0_1 : List (S54)) (a1 : ByteArray) (a2 : ByteArray) (r : Int) (w0 w : World) (hI : IsS47 w0 w g s0_0 s0_1) (hB : Below w0.heap.size w0 w) (h : impl_Book_transit.f k s0_0 s0_1 a1 a2 = some r) :
    Calls Try.prog 89 #[.pointer (some ⟨g, 0, none⟩), .string a1, .string a2] w fun e w' => e = .returned (.int .i64 r) ∧ IsS47 w0 w' g s0_0 s0_1 ∧ Below w0.heap.size w0 w' ∧ KeepBut w w' g none := by
  have HI0 := Aside0.mk hI; have HK := Aside0.mk (KeepBut.refl w g none); have HL := Aside0.mk hB.size; clear hI; have HW0 := Aside0.mk hB.size; have HB := Aside0.mk hB; clear hB; have H : ((impl_Book_sum_impl_OrderLine_transit.f k s0_0 s0_1 a1 a2).bind fun t237 => (some t237)) = some r := h; clear h; replace H := Option.bind_eq_some_iff.mp H; obtain ⟨t237, A40, H⟩ := H; replace H : (some t237) = some r := H; have A4 := Aside0.mk A40; clear A40; obtain rfl := Option.some.inj H
  go_enter Try.func89, Try.ntmps89
  go_wp2_with (first | ((first | ((with_reducible refine gate_callee (f := 137) rfl ?_); refine goesL_ (some 10) rfl rfl Try.func137 (by kernel_rfl) rfl #[.pointer (some ⟨g, 0, none⟩), .string a1, .string a2, .func (.func 140) #[] #[]] rfl (by (try simp only [List.map_toArray, List.map_cons, List.map_nil]); first | done | rfl | (simp only [List.length_drop, List.length_take]; rfl)) ?_; (with_reducible refine (impl_Book_sum_impl_OrderLine_transit.calls k g s0_0 s0_1 a1 a2  t237 w0 _ ?side1 ?side2 A4.out).mono ?_); (case side1 => repeat (first | (with_reducible first | exact HI0.out | apply IsS47.alloc | apply IsS47.drewN | apply IsS47.drew) | exact HI0.out)); (case side2 => repeat (first | (with_reducible first | exact HB.out | apply below_alloc | apply pw_below_drewN | apply below_drew1 | refine below_set ?_ (IsS47.ge HI0.out)) | exact HB.out)); rintro e w5 ⟨rfl, hi, hb, hk⟩; refine ⟨_, rfl, ?_⟩) | (go_at_call 137; (with_reducible refine (impl_Book_sum_impl_OrderLine_transit.calls k g s0_0 s0_1 a1 a2  t237 w0 _ ?side1 ?side2 A4.out).mono ?_); (case side1 => repeat (first | (with_reducible first | exact HI0.out | apply IsS47.alloc | apply IsS47.drewN | apply IsS47.drew) | exact HI0.out)); (case side2 => repeat (first | (with_reducible first | exact HB.out | apply below_alloc | apply pw_below_drewN | apply below_drew1 | refine below_set ?_ (IsS47.ge HI0.out)) | exact HB.out)); rintro e w5 ⟨rfl, hi, hb, hk⟩)); replace HK := Aside0.mk (KeepBut.trans (by repeat (first | (with_reducible first | exact HK.out | apply KeepBut.set_ | apply keep_drewN | apply keep_drew | apply keep_alloc) | exact HK.out)) hk (.inl rfl)); replace HB := Aside0.mk (hb); replace HI0 := Aside0.mk (hi); (try clear hb); (try clear hb2); (try clear hk); (try clear hi)))
  go_ret
  exact ⟨ff, by repeat (first | (with_reducible first | exact HI0.out | apply IsS47.alloc | apply IsS47.drewN | apply IsS47.drew) | exact HI0.out), by repeat (first | (with_reducible first | exact HB.out | apply below_alloc | apply pw_below_drewN | apply below_drew1 | refine below_set ?_ (IsS47.ge HI0.out)) | exact HB.out), by repeat (first | (with_reducible first | exact HK.out | apply KeepBut.set_ | apply keep_drewN | apply keep_drew | apply keep_alloc) | exact HK.out)⟩
set_option maxHeartbeats 8000000 in
set_option maxRecDepth 100000 in
theorem impl_BookTransit.calls (k : Nat) (A0_0 : Option Addr) (c0_0 : Nat) (l0_0 : List (S117)) (A0_1 : Option Addr) (c0_1 : Nat) (l0_1 : List (S54)) (a1 : ByteArray) (a2 : ByteArray) (r : Int) (w : World) (hr0_0 : Kd.C k117 w A0_0 l0_0.length l0_0) (hc0_0 : l0_0.length ≤ c0_0) (hr0_1 : Kd.C k54 w A0_1 l0_1.length l0_1) (hc0_1 : l0_1.length ≤ c0_1) (h : impl_BookTransit.f k l0_0 l0_1 a1 a2 = some r) :
    Calls Try.prog 28 #[.agg #[.slice A0_0 l0_0.length c0_0, .slice A0_1 l0_1.length c0_1], .string a1, .string a2] w fun e w' => e = .returned (.int .i64 r) ∧ Below w.heap.size w w' := by
  have hu47 := Try.underlying47; have HR0_0 := Aside0.mk hr0_0; have HC0_0 := Aside0.mk hc0_0; clear hr0_0 hc0_0; have HR0_1 := Aside0.mk hr0_1; have HC0_1 := Aside0.mk hc0_1; clear hr0_1 hc0_1; have HB := Aside0.mk (Below.refl w.heap.size w); have H : ((impl_longText.f k (([a1, a2] : List ByteArray))).bind fun t242 => (if t242 = true then (some 0) else ((impl_BookRight.f k l0_0 l0_1).bind fun t243 => (if t243 = true then ((impl_Book_transit.f k l0_0 l0_1 a1 a2).bind fun t244 => (some t244)) else (some 0))))) = some r := h; clear h; obtain ⟨y239, hy239⟩ : ∃ y_ : List ByteArray, y_ = (([a1, a2] : List ByteArray)) := ⟨_, rfl⟩
  replace H : ((impl_longText.f k y239).bind fun t242 => (if t242 = true then (some 0) else ((impl_BookRight.f k l0_0 l0_1).bind fun t243 => (if t243 = true then ((impl_Book_transit.f k l0_0 l0_1 a1 a2).bind fun t244 => (some t244)) else (some 0))))) = some r := by first | (rw [hy239]; with_reducible exact H) | (have H2_ := (Option.bind_some _ _).symm.trans H; rw [hy239]; with_reducible exact H2_) | (have H2_ := (Option.bind_some _ _).symm.trans H; with_reducible exact H2_) | with_reducible exact H | (rw [hy239]; exact H) | exact H
  have Ny239 := Aside0.mk hy239; clear hy239; replace H := Option.bind_eq_some_iff.mp H; obtain ⟨t242, A40, H⟩ := H; replace H : (if t242 = true then (some 0) else ((impl_BookRight.f k l0_0 l0_1).bind fun t243 => (if t243 = true then ((impl_Book_transit.f k l0_0 l0_1 a1 a2).bind fun t244 => (some t244)) else (some 0)))) = some r := H; have A4 := Aside0.mk A40; clear A40
  go_enter Try.func28, Try.ntmps28
  try go_wp2_with (first | ((with_reducible refine gate_dst (N := 3) rfl ?_); refine bx 3 (cs := #[.slice A0_0 l0_0.length c0_0, .slice A0_1 l0_1.length c0_1]) (t := 47) ?_; intro gb238 hg w5 hbox hb; have GW238 := Aside0.mk ((gs hg (bs HB))); have GE238 := Aside0.mk ((gs hg (bs HB))); have HI238 := Aside0.mk ((show IsS47 w w5 gb238 l0_0 l0_1 from ⟨_, _, _, _, hbox, (gs hg (bs HB)), ⟨HR0_0.out, HC0_0.out⟩, ⟨HR0_1.out, HC0_1.out⟩⟩)); replace HB := Aside0.mk (below_step (bs HB) hb); clear hb hbox hg) | ((with_reducible refine gate_dst (N := 9) rfl ?_); refine Kd.R_lit Kd.string _ 9 ?hg (N := 9) ?hd (xs := ([a1, a2] : List ByteArray)) (inner := [.string a1, .string a2]) (ok := fun _ => True) (okp := fun _ => True) ?hr ?hp (fun _ hk => hk) trivial (Below.refl _ _) (Nat.le_refl _) (by simp) ?_; (case hd => rfl); (case hg => rfl); (case hr => first | (go_simp; done) | (go_simp; rfl)); (case hp => exact (Reps.one (show Kd.M Kd.string _ _ _ a1 [.string a1] from rfl) (Reps.one (show Kd.M Kd.string _ _ _ a2 [.string a2] from rfl) (Reps.none _ _)))); intro v240 w6 ho7 hb hg_ hnew_; clear hg_ hnew_; (first | rw [← Ny239.out] at ho7 | (simp only [Int.reduceToNat] at ho7; rw [← Ny239.out] at ho7)); have HO241 := Aside0.mk (Kd.R_lower ho7 (below_size (by repeat (first | (with_reducible first | exact HB.out | apply below_alloc | apply pw_below_drewN | apply below_drew1 | refine below_set ?_ (IsS47.ge HI238.out)) | exact HB.out)))); replace HB := Aside0.mk (below_step (by repeat (first | (with_reducible first | exact HB.out | apply below_alloc | apply pw_below_drewN | apply below_drew1 | refine below_set ?_ (IsS47.ge HI238.out)) | exact HB.out)) hb); replace HI238 := Aside0.mk (IsS47.below (by repeat (first | (with_reducible first | exact HI238.out | apply IsS47.alloc | apply IsS47.drewN | apply IsS47.drew) | exact HI238.out)) hb); clear hb ho7; obtain ⟨Ao8, co8, eo8⟩ := Kd.R_slice HO241.out; subst eo8))
  go_at_call 85; (with_reducible refine (impl_longText.calls k _ _ y239 t242 _ ?side1 ?side2 A4.out).mono ?_); (case side1 => repeat (first | exact (Kd.R_reads' HO241.out).2.2 | (with_reducible refine Kd.C_alloc ?_ _) | (with_reducible refine Kd.C_drewN ?_ _) | (with_reducible refine Kd.C_drew ?_))); (case side2 => exact (Kd.R_reads' HO241.out).2.1); rintro e w' ⟨rfl, ⟨nd, rfl⟩⟩
  by_cases c9 : t242 = true
  · subst c9
    have H1 : (some 0) = some r := by rw [if_pos rfl] at H; exact H
    clear H; have H := H1; clear H1; obtain rfl := Option.some.inj H
    go_wp2
    go_ret
    exact ⟨ff, by repeat (first | (with_reducible first | exact HB.out | apply below_alloc | apply pw_below_drewN | apply below_drew1 | refine below_set ?_ (IsS47.ge HI238.out)) | exact HB.out)⟩
  · replace c9 := Bool.eq_false_iff.mpr c9; subst c9
    have H1 : ((impl_BookRight.f k l0_0 l0_1).bind fun t243 => (if t243 = true then ((impl_Book_transit.f k l0_0 l0_1 a1 a2).bind fun t244 => (some t244)) else (some 0))) = some r := by rw [if_neg (show ¬ (false = true) by decide)] at H; exact H
    clear H; have H := H1; clear H1; replace H := Option.bind_eq_some_iff.mp H; obtain ⟨t243, A100, H⟩ := H; replace H : (if t243 = true then ((impl_Book_transit.f k l0_0 l0_1 a1 a2).bind fun t244 => (some t244)) else (some 0)) = some r := H; have A10 := Aside0.mk A100; clear A100; obtain ⟨ASz11_0, cSz11_0, ASz11_1, cSz11_1, HGz11, hgz11, HSz11_0, HSz11_1⟩ := HI238.out; have hcz11_0 := cellS47_0 HGz11; have hcz11_1 := cellS47_1 HGz11; clear HGz11 hgz11; have HCz11_0 := HSz11_0.2; have HCz11_1 := HSz11_1.2; replace HSz11_0 := HSz11_0.1; replace HSz11_1 := HSz11_1.1
    try go_wp2_with (fail)
    go_at_call 64; (with_reducible refine (impl_BookRight.calls k _ _ l0_0 _ _ l0_1 t243 _ ?side1 ?side2 ?side3 ?side4 A10.out).mono ?_); (case side1 => first | exact (Kd.C_below HSz11_0 (by repeat (first | (with_reducible first | exact HB.out | apply below_alloc | apply pw_below_drewN | apply below_drew1 | refine below_set ?_ (IsS47.ge HI238.out)) | exact HB.out)))); (case side2 => first | exact HCz11_0); (case side3 => first | exact (Kd.C_below HSz11_1 (by repeat (first | (with_reducible first | exact HB.out | apply below_alloc | apply pw_below_drewN | apply below_drew1 | refine below_set ?_ (IsS47.ge HI238.out)) | exact HB.out)))); (case side4 => first | exact HCz11_1); rintro e w12 ⟨rfl, hb⟩; replace HO241 := Aside0.mk (Kd.R_below (rs HO241) hb); replace HB := Aside0.mk (below_step (by repeat (first | (with_reducible first | exact HB.out | apply below_alloc | apply pw_below_drewN | apply below_drew1 | refine below_set ?_ (IsS47.ge HI238.out)) | exact HB.out)) hb); replace HI238 := Aside0.mk (IsS47.below (by repeat (first | (with_reducible first | exact HI238.out | apply IsS47.alloc | apply IsS47.drewN | apply IsS47.drew) | exact HI238.out)) hb); (try clear hb); (try clear hb2); (try clear hk); (try clear hi)
    by_cases c13 : t243 = true
    · subst c13
      have H1 : ((impl_Book_transit.f k l0_0 l0_1 a1 a2).bind fun t244 => (some t244)) = some r := by rw [if_pos rfl] at H; exact H
      clear H; have H := H1; clear H1; replace H := Option.bind_eq_some_iff.mp H; obtain ⟨t244, A140, H⟩ := H; replace H : (some t244) = some r := H; have A14 := Aside0.mk A140; clear A140; obtain rfl := Option.some.inj H
      go_wp2_with (first | ((first | ((with_reducible refine gate_callee (f := 89) rfl ?_); refine goesL_ (some 18) rfl rfl Try.func89 (by kernel_rfl) rfl #[.pointer (some ⟨gb238, 0, none⟩), .string a1, .string a2] rfl (by (try simp only [List.map_toArray, List.map_cons, List.map_nil]); first | done | rfl | (simp only [List.length_drop, List.length_take]; rfl)) ?_; (with_reducible refine (impl_Book_transit.calls k gb238 l0_0 l0_1 a1 a2 t244 w _ ?side1 ?side2 A14.out).mono ?_); (case side1 => repeat (first | (with_reducible first | exact HI238.out | apply IsS47.alloc | apply IsS47.drewN | apply IsS47.drew) | exact HI238.out)); (case side2 => repeat (first | (with_reducible first | exact HB.out | apply below_alloc | apply pw_below_drewN | apply below_drew1 | refine below_set ?_ (IsS47.ge HI238.out)) | exact HB.out)); rintro e w15 ⟨rfl, hi, hb, hk⟩; refine ⟨_, rfl, ?_⟩) | (go_at_call 89; (with_reducible refine (impl_Book_transit.calls k gb238 l0_0 l0_1 a1 a2 t244 w _ ?side1 ?side2 A14.out).mono ?_); (case side1 => repeat (first | (with_reducible first | exact HI238.out | apply IsS47.alloc | apply IsS47.drewN | apply IsS47.drew) | exact HI238.out)); (case side2 => repeat (first | (with_reducible first | exact HB.out | apply below_alloc | apply pw_below_drewN | apply below_drew1 | refine below_set ?_ (IsS47.ge HI238.out)) | exact HB.out)); rintro e w15 ⟨rfl, hi, hb, hk⟩)); replace HO241 := Aside0.mk (Kd.R_mono (Kd.R_keep (IsS47.apart (show IsS47 w _ gb238 l0_0 l0_1 from by repeat (first | (with_reducible first | exact HI238.out | apply IsS47.alloc | apply IsS47.drewN | apply IsS47.drew) | exact HI238.out)) (rs HO241) (by decide)) hk (fun _ h => h.2)) (fun _ h => h.1)); replace HB := Aside0.mk (hb); replace HI238 := Aside0.mk (hi); (try clear hb); (try clear hb2); (try clear hk); (try clear hi)))
      go_ret
      exact ⟨ff, by repeat (first | (with_reducible first | exact HB.out | apply below_alloc | apply pw_below_drewN | apply below_drew1 | refine below_set ?_ (IsS47.ge HI238.out)) | exact HB.out)⟩
    · replace c13 := Bool.eq_false_iff.mpr c13; subst c13
      have H1 : (some 0) = some r := by rw [if_neg (show ¬ (false = true) by decide)] at H; exact H
      clear H; have H := H1; clear H1; obtain rfl := Option.some.inj H
      go_wp2
      go_ret
      exact ⟨ff, by repeat (first | (with_reducible first | exact HB.out | apply below_alloc | apply pw_below_drewN | apply below_drew1 | refine below_set ?_ (IsS47.ge HI238.out)) | exact HB.out)⟩
set_option maxHeartbeats 8000000 in
set_option maxRecDepth 100000 in
theorem laws_eqStock.calls (a0_0 : ByteArray) (a0_1 : Int) (a1_0 : ByteArray) (a1_1 : Int) (r : Bool) (w : World) (h : laws_eqStock.f a0_0 a0_1 a1_0 a1_1 = some r) :
    Calls Try.prog 139 #[.agg #[.string a0_0, .int .i64 a0_1], .agg #[.string a1_0, .int .i64 a1_1]] w fun e w' => e = .returned (.bool r) ∧ Below w.heap.size w w' := by
  have hu117 := Try.underlying117; have HB := Aside0.mk (Below.refl w.heap.size w); have H : (if a0_0.toList = a1_0.toList then (if a0_1 = a1_1 then (some true) else (some false)) else (some false)) = some r := h; clear h
  by_cases c3 : a0_0.toList = a1_0.toList
  · rw [if_pos c3] at H; have c3b0 : (a0_0.toList == a1_0.toList) = true := beq_iff_eq.mpr c3; have c3b1 : (a0_0.toList != a1_0.toList) = false := bne_eq_false_iff_eq.mpr c3; clear c3
    by_cases c4 : a0_1 = a1_1
    · rw [if_pos c4] at H; have c4b0 : (a0_1 == a1_1) = true := beq_iff_eq.mpr c4; have c4b1 : (a0_1 != a1_1) = false := bne_eq_false_iff_eq.mpr c4; clear c4; obtain rfl := Option.some.inj H
      go_enter Try.func139, Try.ntmps139
      go_wp2_with (first | ((with_reducible refine gate_dst (N := 2) rfl ?_); refine bx 2 (cs := #[.string a0_0, .int .i64 a0_1]) (t := 117) ?_; intro gb245 hg w5 hbox hb; have BK245 := Aside0.mk (hbox); have GW245 := Aside0.mk ((gs hg (bs HB))); have GE245 := Aside0.mk ((gs hg (bs HB))); replace HB := Aside0.mk (below_step (bs HB) hb); clear hb hbox hg) | ((with_reducible refine gate_dst (N := 3) rfl ?_); refine bx 3 (cs := #[.string a1_0, .int .i64 a1_1]) (t := 117) ?_; intro gb246 hg w6 hbox hb; have BK246 := Aside0.mk (hbox); have GW246 := Aside0.mk ((gs hg (bs HB))); have GE246 := Aside0.mk ((gs hg (bs HB))); replace HB := Aside0.mk (below_step (bs HB) hb); have NB245_246 := Aside0.mk ((gn hg (ks BK245))); have NB246_245 := Aside0.mk ((gm hg (ks BK245))); replace BK245 := Aside0.mk (blk_below (ks BK245) hb); clear hb hbox hg; have hnb7 := NB245_246.out; have hnc7 := NB246_245.out; obtain ⟨hcz8_0, hcz8_1, hfz8_0, hfz8_1⟩ := cf2 BK245; obtain ⟨hcz9_0, hcz9_1, hfz9_0, hfz9_1⟩ := cf2 BK246))
      go_ret
      exact ⟨ff, bs HB⟩
    · rw [if_neg c4] at H; have c4b0 : (a0_1 == a1_1) = false := beq_eq_false_iff_ne.mpr c4; have c4b1 : (a0_1 != a1_1) = true := bne_iff_ne.mpr c4; obtain rfl := Option.some.inj H
      go_enter Try.func139, Try.ntmps139
      go_wp2_with (first | ((with_reducible refine gate_dst (N := 2) rfl ?_); refine bx 2 (cs := #[.string a0_0, .int .i64 a0_1]) (t := 117) ?_; intro gb245 hg w10 hbox hb; have BK245 := Aside0.mk (hbox); have GW245 := Aside0.mk ((gs hg (bs HB))); have GE245 := Aside0.mk ((gs hg (bs HB))); replace HB := Aside0.mk (below_step (bs HB) hb); clear hb hbox hg) | ((with_reducible refine gate_dst (N := 3) rfl ?_); refine bx 3 (cs := #[.string a1_0, .int .i64 a1_1]) (t := 117) ?_; intro gb246 hg w11 hbox hb; have BK246 := Aside0.mk (hbox); have GW246 := Aside0.mk ((gs hg (bs HB))); have GE246 := Aside0.mk ((gs hg (bs HB))); replace HB := Aside0.mk (below_step (bs HB) hb); have NB245_246 := Aside0.mk ((gn hg (ks BK245))); have NB246_245 := Aside0.mk ((gm hg (ks BK245))); replace BK245 := Aside0.mk (blk_below (ks BK245) hb); clear hb hbox hg; have hnb12 := NB245_246.out; have hnc12 := NB246_245.out; obtain ⟨hcz13_0, hcz13_1, hfz13_0, hfz13_1⟩ := cf2 BK245; obtain ⟨hcz14_0, hcz14_1, hfz14_0, hfz14_1⟩ := cf2 BK246))
      go_ret
      exact ⟨ff, bs HB⟩
  · rw [if_neg c3] at H; have c3b0 : (a0_0.toList == a1_0.toList) = false := beq_eq_false_iff_ne.mpr c3; have c3b1 : (a0_0.toList != a1_0.toList) = true := bne_iff_ne.mpr c3; obtain rfl := Option.some.inj H
    go_enter Try.func139, Try.ntmps139
    go_wp2_with (first | ((with_reducible refine gate_dst (N := 2) rfl ?_); refine bx 2 (cs := #[.string a0_0, .int .i64 a0_1]) (t := 117) ?_; intro gb245 hg w15 hbox hb; have BK245 := Aside0.mk (hbox); have GW245 := Aside0.mk ((gs hg (bs HB))); have GE245 := Aside0.mk ((gs hg (bs HB))); replace HB := Aside0.mk (below_step (bs HB) hb); clear hb hbox hg) | ((with_reducible refine gate_dst (N := 3) rfl ?_); refine bx 3 (cs := #[.string a1_0, .int .i64 a1_1]) (t := 117) ?_; intro gb246 hg w16 hbox hb; have BK246 := Aside0.mk (hbox); have GW246 := Aside0.mk ((gs hg (bs HB))); have GE246 := Aside0.mk ((gs hg (bs HB))); replace HB := Aside0.mk (below_step (bs HB) hb); have NB245_246 := Aside0.mk ((gn hg (ks BK245))); have NB246_245 := Aside0.mk ((gm hg (ks BK245))); replace BK245 := Aside0.mk (blk_below (ks BK245) hb); clear hb hbox hg; have hnb17 := NB245_246.out; have hnc17 := NB246_245.out; obtain ⟨hcz18_0, hcz18_1, hfz18_0, hfz18_1⟩ := cf2 BK245; obtain ⟨hcz19_0, hcz19_1, hfz19_0, hfz19_1⟩ := cf2 BK246))
    go_ret
    exact ⟨ff, bs HB⟩
end Go.Proofs.Ytefmkmhjbfpelaa.QT
namespace Go.Proofs.Ytefmkmhjbfpelaa.QT
open Go.RowKit Go.Proofs.YtefmkmhjbfpelaaW.PrintWords Go.Proofs.YtefmkmhjbfpelaaW.PrintLast Go.Proofs.YtefmkmhjbfpelaaW.PrintMore
attribute [local go_sem] max2_int min2_int max_two min_two max_three min_three max_four min_four   -- for this text's walks alone
set_option linter.unusedVariables false
set_option linter.unusedSimpArgs false
def laws_eqStockS.T6 : Bool × List (List Nat × List Nat) := (true, [([], []), ([], []), ([0, 1], [0, 1]), ([2], [2]), ([], []), ([], []), ([4, 5], [4, 5]), ([6], [6]), ([3, 7], [3, 7]), ([8], [8])])
def laws_eqStockS.B6 : List Nat := [0, 0, 3, 7, 0, 0, 48, 112, 255, 511]
theorem laws_eqStockS.tab6 : rtab .any (opsOf Try.f87 6) = laws_eqStockS.T6 := by kernel_rfl
theorem laws_eqStockS.bits6 : waitsOk laws_eqStockS.T6.2 laws_eqStockS.B6 = true := by kernel_rfl
set_option maxHeartbeats 8000000 in
set_option maxRecDepth 100000 in
theorem laws_eqStockS.calls (k : Nat) (A0 : Option Addr) (c0 : Nat) (l0 : List (S117)) (A1 : Option Addr) (c1 : Nat) (l1 : List (S117)) (r : Bool) (w : World) (hr0 : Kd.C k117 w A0 l0.length l0) (hc0 : l0.length ≤ c0) (hr1 : Kd.C k117 w A1 l1.length l1) (hc1 : l1.length ≤ c1) (h : laws_eqStockS.f k l0 l1 = some r) :
    Calls Try.prog 87 #[.slice A0 l0.length c0, .slice A1 l1.length c1] w fun e w' => e = .returned (.bool r) ∧ Below w.heap.size w w' := by
  have hu117 := Try.underlying117; have HR0 := Aside0.mk hr0; have HC0 := Aside0.mk hc0; clear hr0 hc0; have HR1 := Aside0.mk hr1; have HC1 := Aside0.mk hc1; clear hr1 hc1; have HB := Aside0.mk (Below.refl w.heap.size w); have H : (if (l0.length : Int) = (l1.length : Int) then (laws_eqStockS.l0 k l0 l1 0) else (some false)) = some r := h; clear h
  by_cases c3 : (l0.length : Int) = (l1.length : Int)
  · rw [if_pos c3] at H; have c3b0 : ((l0.length : Int) == (l1.length : Int)) = true := beq_iff_eq.mpr c3; have c3b1 : ((l0.length : Int) != (l1.length : Int)) = false := bne_eq_false_iff_eq.mpr c3
    have c3b2 : (l0.length == l1.length) = true := by first | simpa using c3 | (simp at c3 ⊢; omega)
    clear c3; have H' := Aside0.mk H; clear H
    go_enter Try.func87, Try.ntmps87
    go_wp2
    go_loopg [5] k (fun kq v5 w' => ∃ (x5_1 : Int), v5 = .int .i64 x5_1 ∧ Aside0 (laws_eqStockS.l0 kq l0 l1 x5_1 = some r) ∧ Aside0 (kq ≤ k) ∧ Aside0 (Below w.heap.size w w'))
    case atStart => exact ⟨(0), fg, H', ⟨Nat.le_refl _⟩, ⟨bs HB⟩⟩
    case round =>
      clear H'
      try clear c1
      try clear p2
      try clear c3
      try clear c3b0
      try clear c3b1
      try clear c3b2
      obtain ⟨x5_1, rfl, HA, HK1, HB⟩ := hrel
      cases gk with
      | zero => exact absurd HA.out (by simp [laws_eqStockS.l0])
      | succ k1 =>
        have H := HA.out; clear HA; simp only [laws_eqStockS.l0] at H
        by_cases c4 : x5_1 < (l0.length : Int)
        · rw [if_pos c4] at H; have c4b0 : decide (x5_1 < (l0.length : Int)) = true := decide_eq_true c4; clear c4
          by_cases c5 : 0 ≤ x5_1
          · rw [if_pos c5] at H; have c5b0 : decide (0 ≤ x5_1) = true := decide_eq_true c5; clear c5
            by_cases c6 : x5_1 < (l1.length : Int)
            · rw [if_pos c6] at H; have c6b0 : decide (x5_1 < (l1.length : Int)) = true := decide_eq_true c6; clear c6; replace H := Option.bind_eq_some_iff.mp H; obtain ⟨t249, A70, H⟩ := H; replace H : (if t249 = true then (laws_eqStockS.l0 k1 l0 l1 (wrap64 (x5_1 + 1))) else (some false)) = some r := H; have A7 := Aside0.mk A70; clear A70
              by_cases c8 : t249 = true
              · subst c8
                have H1 : (laws_eqStockS.l0 k1 l0 l1 (wrap64 (x5_1 + 1))) = some r := by rw [if_pos rfl] at H; exact H
                clear H; have H := H1; clear H1; have H' := Aside0.mk H; clear H
                try go_wp2
                replace HB := Aside0.mk (below_drew1 HB.out); have p247 : 0 ≤ (x5_1 : Int) := oa; have q247 : x5_1 < (l0.length : Int) := oa; obtain ⟨ad247, e247, hx247_0, hx247_1⟩ := at_T117 HR0.out x5_1 p247 q247; have hw247_1 := hx247_1; have hw247_0 := hx247_0
                cases e247
                replace hx247_0 := cb HB hx247_0; replace hx247_1 := cb HB hx247_1; replace p247 := eq_true p247; replace q247 := eq_true q247; have p248 : 0 ≤ (x5_1 : Int) := oa; have q248 : x5_1 < (l1.length : Int) := oa; obtain ⟨ad248, e248, hx248_0, hx248_1⟩ := at_T117 HR1.out x5_1 p248 q248; have hw248_1 := hx248_1; have hw248_0 := hx248_0
                cases e248
                replace hx248_0 := cb HB hx248_0; replace hx248_1 := cb HB hx248_1; replace p248 := eq_true p248; replace q248 := eq_true q248; refine start_ (n := 10) (S := fun w' => w'.cell? (ad247.add ((x5_1).toNat * 2)) = some (.string ((rd_T117 l0 x5_1).f0)) ∧ w'.cell? ⟨(ad247.add ((x5_1).toNat * 2)).block, (ad247.add ((x5_1).toNat * 2)).off + 1, none⟩ = some (.int .i64 ((rd_T117 l0 x5_1).f1)) ∧ w'.cell? (ad248.add ((x5_1).toNat * 2)) = some (.string ((rd_T117 l1 x5_1).f0)) ∧ w'.cell? ⟨(ad248.add ((x5_1).toNat * 2)).block, (ad248.add ((x5_1).toNat * 2)).off + 1, none⟩ = some (.int .i64 ((rd_T117 l1 x5_1).f1))) (ds := []) #[false, false, false, false, false, false, false, false, false, false] (by kernel_rfl) rfl rfl ⟨((cb HB hw247_0).trans rfl), ((cb HB hw247_1).trans rfl), ((cb HB hw248_0).trans rfl), ((cb HB hw248_1).trans rfl)⟩ (fun hHeld => ?_); refine with_tabW laws_eqStockS.tab6 laws_eqStockS.bits6 (fun HT_ HW_ => ?_)
                generalize wr.drew = w9 at HB hx247_0 hx247_1 hx248_0 hx248_1 hHeld ⊢
                refine pA 0 17 HT_ ?_; refine pA 1 18 HT_ ?_; refine pA 2 19 HT_ ?_; refine pA 4 21 HT_ ?_; refine pA 5 22 HT_ ?_; refine pA 6 23 HT_ ?_; refine tA 3 20 HT_ HW_ hHeld ?_; refine tA 7 24 HT_ HW_ hHeld ?_; refine oA 8 25 HT_ (fun K hK => ?_); refine gA Try.func139 #[.agg #[.string ((rd_T117 l0 x5_1).f0), .int .i64 ((rd_T117 l0 x5_1).f1)], .agg #[.string ((rd_T117 l1 x5_1).f0), .int .i64 ((rd_T117 l1 x5_1).f1)]] ?_; (with_reducible refine (laws_eqStock.calls ((rd_T117 l0 x5_1).f0) ((rd_T117 l0 x5_1).f1) ((rd_T117 l1 x5_1).f0) ((rd_T117 l1 x5_1).f1) true _ A7.out).mono ?_); rintro e w10 ⟨rfl, hb⟩; refine ⟨_, rfl, ?_⟩; replace HB := Aside0.mk (below_step (bs HB) hb); (try clear hb); (try clear hb2); (try clear hk); (try clear hi); refine hK.out _ _ ⟨((cb HB hw247_0).trans rfl), ((cb HB hw247_1).trans rfl), ((cb HB hw248_0).trans rfl), ((cb HB hw248_1).trans rfl)⟩ (fun hHeld => ?_); clear hK K; refine nA 25 ?_; refine pA 9 26 HT_ ?_; refine done_ (done_of HT_.out (by kernel_rfl)) ?_
                try go_wp2
                go_roundg k1
                case measure => have := HK1.out; omega
                case rel => exact ⟨(wrap64 (x5_1 + 1)), fg, H', ⟨by have := HK1.out; omega⟩, ⟨bs HB⟩⟩
              · replace c8 := Bool.eq_false_iff.mpr c8; subst c8
                have H1 : (some false) = some r := by rw [if_neg (show ¬ (false = true) by decide)] at H; exact H
                clear H; have H := H1; clear H1; obtain rfl := Option.some.inj H
                try go_wp2
                replace HB := Aside0.mk (below_drew1 HB.out); have p247 : 0 ≤ (x5_1 : Int) := oa; have q247 : x5_1 < (l0.length : Int) := oa; obtain ⟨ad247, e247, hx247_0, hx247_1⟩ := at_T117 HR0.out x5_1 p247 q247; have hw247_1 := hx247_1; have hw247_0 := hx247_0
                cases e247
                replace hx247_0 := cb HB hx247_0; replace hx247_1 := cb HB hx247_1; replace p247 := eq_true p247; replace q247 := eq_true q247; have p248 : 0 ≤ (x5_1 : Int) := oa; have q248 : x5_1 < (l1.length : Int) := oa; obtain ⟨ad248, e248, hx248_0, hx248_1⟩ := at_T117 HR1.out x5_1 p248 q248; have hw248_1 := hx248_1; have hw248_0 := hx248_0
                cases e248
                replace hx248_0 := cb HB hx248_0; replace hx248_1 := cb HB hx248_1; replace p248 := eq_true p248; replace q248 := eq_true q248; refine start_ (n := 10) (S := fun w' => w'.cell? (ad247.add ((x5_1).toNat * 2)) = some (.string ((rd_T117 l0 x5_1).f0)) ∧ w'.cell? ⟨(ad247.add ((x5_1).toNat * 2)).block, (ad247.add ((x5_1).toNat * 2)).off + 1, none⟩ = some (.int .i64 ((rd_T117 l0 x5_1).f1)) ∧ w'.cell? (ad248.add ((x5_1).toNat * 2)) = some (.string ((rd_T117 l1 x5_1).f0)) ∧ w'.cell? ⟨(ad248.add ((x5_1).toNat * 2)).block, (ad248.add ((x5_1).toNat * 2)).off + 1, none⟩ = some (.int .i64 ((rd_T117 l1 x5_1).f1))) (ds := []) #[false, false, false, false, false, false, false, false, false, false] (by kernel_rfl) rfl rfl ⟨((cb HB hw247_0).trans rfl), ((cb HB hw247_1).trans rfl), ((cb HB hw248_0).trans rfl), ((cb HB hw248_1).trans rfl)⟩ (fun hHeld => ?_); refine with_tabW laws_eqStockS.tab6 laws_eqStockS.bits6 (fun HT_ HW_ => ?_)
                generalize wr.drew = w11 at HB hx247_0 hx247_1 hx248_0 hx248_1 hHeld ⊢
                refine pA 0 17 HT_ ?_; refine pA 1 18 HT_ ?_; refine pA 2 19 HT_ ?_; refine pA 4 21 HT_ ?_; refine pA 5 22 HT_ ?_; refine pA 6 23 HT_ ?_; refine tA 3 20 HT_ HW_ hHeld ?_; refine tA 7 24 HT_ HW_ hHeld ?_; refine oA 8 25 HT_ (fun K hK => ?_); refine gA Try.func139 #[.agg #[.string ((rd_T117 l0 x5_1).f0), .int .i64 ((rd_T117 l0 x5_1).f1)], .agg #[.string ((rd_T117 l1 x5_1).f0), .int .i64 ((rd_T117 l1 x5_1).f1)]] ?_; (with_reducible refine (laws_eqStock.calls ((rd_T117 l0 x5_1).f0) ((rd_T117 l0 x5_1).f1) ((rd_T117 l1 x5_1).f0) ((rd_T117 l1 x5_1).f1) false _ A7.out).mono ?_); rintro e w12 ⟨rfl, hb⟩; refine ⟨_, rfl, ?_⟩; replace HB := Aside0.mk (below_step (bs HB) hb); (try clear hb); (try clear hb2); (try clear hk); (try clear hi); refine hK.out _ _ ⟨((cb HB hw247_0).trans rfl), ((cb HB hw247_1).trans rfl), ((cb HB hw248_0).trans rfl), ((cb HB hw248_1).trans rfl)⟩ (fun hHeld => ?_); clear hK K; refine nA 25 ?_; refine pA 9 26 HT_ ?_; refine done_ (done_of HT_.out (by kernel_rfl)) ?_
                try go_wp2
                go_ret
                exact ⟨ff, bs HB⟩
            · rw [if_neg c6] at H
              exact absurd H (by simp)
          · rw [if_neg c5] at H
            exact absurd H (by simp)
        · rw [if_neg c4] at H; have c4b0 : decide (x5_1 < (l0.length : Int)) = false := decide_eq_false c4; clear c4; obtain rfl := Option.some.inj H
          go_wp2
          go_ret
          exact ⟨ff, bs HB⟩
  · rw [if_neg c3] at H; have c3b0 : ((l0.length : Int) == (l1.length : Int)) = false := beq_eq_false_iff_ne.mpr c3; have c3b1 : ((l0.length : Int) != (l1.length : Int)) = true := bne_iff_ne.mpr c3
    have c3b2 : (l0.length == l1.length) = false := by first | simpa using c3 | (simp at c3 ⊢; omega)
    obtain rfl := Option.some.inj H
    go_enter Try.func87, Try.ntmps87
    go_wp2
    go_ret
    exact ⟨ff, bs HB⟩
end Go.Proofs.Ytefmkmhjbfpelaa.QT
