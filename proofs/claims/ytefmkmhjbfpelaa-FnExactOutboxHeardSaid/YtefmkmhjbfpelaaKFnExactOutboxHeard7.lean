-- Merged by a program of this session (wip/tool/pack.py) out of its own texts for this claim.
import Derived.Test.YtefmkmhjbfpelaaKFnExactOutboxHeard0
import Derived.Test.YtefmkmhjbfpelaaKFnExactOutboxHeard1
import Derived.Test.YtefmkmhjbfpelaaKFnExactOutboxHeard2
import Derived.Test.YtefmkmhjbfpelaaKFnExactOutboxHeard4
import Derived.Test.YtefmkmhjbfpelaaKFnExactOutboxHeard5
import Derived.Test.YtefmkmhjbfpelaaKFnExactOutboxHeard6
namespace Go.Proofs.Ytefmkmhjbfpelaa.QO
open Go.RowKit Go.Proofs.YtefmkmhjbfpelaaW.PrintWords Go.Proofs.YtefmkmhjbfpelaaW.PrintLast Go.Proofs.YtefmkmhjbfpelaaW.PrintMore
attribute [local go_sem] max2_int min2_int max_two min_two max_three min_three max_four min_four   -- for this text's walks alone
set_option linter.unusedVariables false
set_option linter.unusedSimpArgs false
set_option maxHeartbeats 8000000 in
set_option maxRecDepth 100000 in
theorem slices_Clone_implOut.calls (A0 : Option Addr) (c0 : Nat) (l0 : List S24) (r : List S24) (w : World) (hr0 : Kd.C k24 w A0 l0.length l0) (hc0 : l0.length ≤ c0) (h : slices_Clone_implOut.f l0 = some r) :
    Calls Try.prog 111 #[.slice A0 l0.length c0] w fun e w' => ∃ v0_ : Value, e = .returned (v0_) ∧ Kd.R k24 24 w' w.heap.size (fun _ => True) v0_ r ∧ Below w.heap.size w w' := by
  unfold slices_Clone_implOut.f at h
  by_cases hl : l0.length < 2513169434916
  · rw [if_pos hl] at h
    obtain rfl := Option.some.inj h
    cases A0 with
    | none =>
      have h0 : l0.length = 0 := by
        by_cases g : 0 < l0.length
        · obtain ⟨ad, e, _⟩ := hr0.2.2 g
          cases e
        · omega
      obtain rfl : l0 = [] := List.eq_nil_of_length_eq_zero h0; clear hr0 hl h h0
      have hq : ∀ W, (binOp .eql 29 (.slice none 0 c0) (.slice none 0 0)).run Try.prog W = .ok (.bool true) W := fun W => Lib.run_eql_slice_nil W _ _ none _ _ _ _ Try.underlying29
      simp only [List.length_nil]
      go_enter Try.func111, Try.ntmps111
      go_wp2
      go_ret
      exact ⟨_, rfl, Kd.R_nil _ _ _ _ _, Below.refl _ _⟩
    | some a0 =>
      have HB := Aside0.mk (Below.refl w.heap.size w); have HR0 := Aside0.mk hr0; have HL := Aside0.mk hl; clear hr0 hl h hc0
      have hq : ∀ W, (binOp .eql 29 (.slice (some a0) l0.length c0) (.slice none 0 0)).run Try.prog W = .ok (.bool false) W := fun W => Lib.run_eql_slice_nil W _ _ (some a0) _ _ _ _ Try.underlying29
      go_enter Try.func111, Try.ntmps111
      go_wp2_with (first | ((with_reducible refine gate_dst (N := 5) rfl ?_); refine Kd.R_lit k24 _ 24 ?hg (N := 5) ?hd (xs := ([] : List S24)) (inner := []) (ok := fun _ => True) (okp := fun _ => True) ?hr ?hp (fun _ hk => hk) trivial (Below.refl _ _) (Nat.le_refl _) (by simp) ?_; (case hd => rfl); (case hg => rfl); (case hr => first | (go_simp; done) | (go_simp; rfl)); (case hp => exact (Reps.none _ _)); intro v1 w5 ho6 hb hg_ hnew_; clear hg_ hnew_; have HO1 := Aside0.mk (Kd.R_lower ho6 (below_size (bs HB))); replace HB := Aside0.mk (below_step (bs HB) hb); clear hb ho6) | ((with_reducible refine gate_builtin (b := .append) (xs := #[.tmp 5, .tmp 6]) rfl ?_); at_builtin; refine Kd.R_append_rows k24 (w0 := w) w.heap.size rfl (.tmp 5) (.tmp 6) 29 24 ((.agg #[(.string ⟨#[]⟩), (.int .i64 0), (.string ⟨#[]⟩), (.int .i64 0), (.int .i64 0)])) 56 rfl Try.underlying29 info24 rfl (by decide) (by omega) v1 [] l0 _ _ _ (fun _ => True) (fun _ => False) rfl rfl ?aO ?aR (fun _ _ h => h) (fun _ h => h.elim) ?aF ?aB ?aS ?aL ?_; (case aR => repeat (first | exact (Kd.C_below HR0.out HB.out) | (with_reducible refine Kd.C_alloc ?_ _) | (with_reducible refine Kd.C_drewN ?_ _) | (with_reducible refine Kd.C_drew ?_))); (case aB => exact (bs HB)); (case aF => exact (fun _ _ => trivial)); (case aO => exact (rs HO1)); (case aS => exact (below_size (bs HB))); (case aL => have := HL.out; simp only [List.length_nil]; omega); intro v2 w6 ho hb hg hat; have HO2 := Aside0.mk ho; replace HB := Aside0.mk hb; clear ho hb hg hat HO1))
      go_ret
      exact ⟨_, rfl, by (with_reducible repeat (first | apply Kd.R_alloc | apply Kd.R_drewN | apply Kd.R_drew)); exact HO2.out, bs HB⟩
  · rw [if_neg hl] at h
    cases h
set_option maxHeartbeats 8000000 in
set_option maxRecDepth 100000 in
theorem slices_Delete_implOut_at (P0_ : Nat → Prop) (u : Value) (l0 : List S24) (i j : Nat) (w0 w : World) (hB : Below w0.heap.size w0 w) (ho0 : Kd.R k24 24 w w0.heap.size P0_ u l0) (hij : i < j) (hj : j ≤ l0.length) :
    Calls Try.prog 110 #[u, .int .i64 i, .int .i64 j] w fun e w' => ∃ v0_ : Value, e = .returned (v0_) ∧ Kd.R k24 24 w' w0.heap.size (fun k_ => (P0_ k_ ∨ w.heap.size ≤ k_)) v0_ (l0.take i ++ l0.drop j) ∧ Below w0.heap.size w0 w' ∧ Kept w w' (fun k_ => P0_ k_) := by
  rcases r_row ho0 with ⟨_, h0⟩ | ⟨g, cap, cur, rfl, hbg, hPg, hg, hle, hm, hs, hr0, hone0⟩
  · subst h0; simp at hj; omega
  have hsz : (k24).sz = 5 := rfl
  rw [hsz] at hs hr0 hone0
  obtain ⟨C, hC⟩ : ∃ C, C = cur.toList := ⟨_, rfl⟩
  rw [← hC] at hr0 hone0
  have hCl : C.length = cap * 5 := by rw [hC]; simpa using hs
  have hg' : w.heap[g]? = some (.cells C.toArray 24 (0, 0)) := by rw [hC]; simpa using hg
  obtain ⟨X, hX⟩ : ∃ X, X = (C.take (l0.length * 5)).drop (j * 5) := ⟨_, rfl⟩
  have hXl : X.length = (l0.length - j) * 5 := by rw [hX, List.length_drop, List.length_take]; omega
  have hXo : ∀ v ∈ X, v.oneCell' = true := fun v hv => hone0 v (List.mem_of_mem_drop (hX ▸ hv))
  obtain ⟨i0, hi0, hz⟩ := Option.map_eq_some_iff.1 info24
  simp only [Prod.mk.injEq] at hz
  obtain ⟨hz0, hz1, hz2⟩ := hz; obtain ⟨Y, hY⟩ : ∃ Y, Y = (Builtin.zeroCells ((.agg #[(.string ⟨#[]⟩), (.int .i64 0), (.string ⟨#[]⟩), (.int .i64 0), (.int .i64 0)]) : Value).cells (j - i)).toList := ⟨_, rfl⟩
  have hYl : Y.length = (j - i) * 5 := by
    have e : ((.agg #[(.string ⟨#[]⟩), (.int .i64 0), (.string ⟨#[]⟩), (.int .i64 0), (.int .i64 0)]) : Value).cells.size = 5 := rfl; rw [hY, Array.length_toList, size_zeroCells, e]
  obtain ⟨n', hn'⟩ : ∃ n', n' = i + (l0.length - j) := ⟨_, rfl⟩; obtain ⟨C1, hC1⟩ : ∃ C1, C1 = splice C (i * 5) X := ⟨_, rfl⟩; obtain ⟨C2, hC2⟩ : ∃ C2, C2 = splice C1 (n' * 5) Y := ⟨_, rfl⟩
  have hC1l : C1.length = C.length := by rw [hC1]; exact length_splice _ _ _ (by omega)
  have hfin := del_row C (l0.length * 5) (i * 5) (j * 5) Y (by omega) (by omega) (by omega) (by omega)
  have en : i * 5 + (l0.length * 5 - j * 5) = n' * 5 := by omega
  rw [← hX, ← hC1, en, ← hC2] at hfin
  have hap : ∀ W : World, W.heap = w.heap → ∀ ty o c', (o = j * 5 ∨ l0.length = j) → (Builtin.append_ #[29, 29] ty #[.slice (some ⟨g, 0, none⟩) i cap, .slice (some ⟨g, o, none⟩) (l0.length - j) c']).run Try.prog W = .ok (.slice (some ⟨g, 0, none⟩) n' cap) (W.setRow g C1.toArray) := by
    intro W hW ty o c' ho
    have h := run_append_room (P := Try.prog) W 29 ty 24 i0 Try.underlying29 hi0 g i cap C.toArray (by rw [hW]; exact hg') ⟨g, o, none⟩ (l0.length - j) c' X (by rw [hz1, hXl]) (fun k v hk => by
      rcases ho with rfl | e
      · exact cellrow (cur := C.toArray) (by rw [hW]; exact hg') _ _ (fun k v hk => by
          rw [hX, List.getElem?_drop, List.getElem?_take] at hk
          split at hk
          · simpa using hk
          · cases hk) k v hk
      · have : X = [] := List.eq_nil_of_length_eq_zero (by rw [hXl, e]; simp)
        rw [this] at hk
        cases hk) hXo (by omega) (by rw [hz1]; simp; omega)
    rw [h, hC1, hn', hz1]; simp [splice]
  have hcl : ∀ W : World, W.heap = (w.setRow g C1.toArray).heap → ∀ ty c', (Builtin.clear_ #[29] ty #[.slice (some ⟨g, n' * 5, none⟩) (l0.length - n') c']).run Try.prog W = .ok (.tuple #[]) (W.setRow g C2.toArray) := by
    intro W hW ty c'
    have e : l0.length - n' = j - i := by omega
    have h := run_clearN (P := Try.prog) W 29 24 ty i0 ((.agg #[(.string ⟨#[]⟩), (.int .i64 0), (.string ⟨#[]⟩), (.int .i64 0), (.int .i64 0)])) Try.underlying29 hi0 hz0 g (n' * 5) (l0.length - n') c' C1 24 (by omega) (by rw [hW]; exact setRow_heap w g _ _ _ _ hg') (by rw [e, ← hY]; omega) (zero_one (by simp [Value.cells]; decide) _); rw [h, e, ← hY, hC2]
  have hw1 : (i : Int) ≤ (j : Int) := by omega
  have hw2 : (j : Int) ≤ (l0.length : Int) := by omega
  have hw3 : ¬ ((i : Int) = (j : Int)) := by omega
  have hw4 : (l0.length : Int) ≤ (cap : Int) := by omega
  have hb1 : i ≤ j := by omega
  have hb2 : i ≤ cap := by omega
  have hb3 : ¬ (cap = n') := by omega
  have hb4 : n' ≤ l0.length := by omega
  have hb5 : (n' : Int) ≤ (l0.length : Int) := by omega
  have hb6 : ¬ (cap = i) := by omega
  have hb7 : ¬ (l0.length = i) := by omega
  have hb8 : j ≤ cap := by omega
  have HR := Aside0.mk hr0; have HF := Aside0.mk hfin; have HB := Aside0.mk hB; have HM := Aside0.mk hm; have HL := Aside0.mk hCl; have HXD := Aside0.mk hX; have HS0 := Aside0.mk hbg; have HP0 := Aside0.mk hPg; have HG := Aside0.mk hg'; have HN := Aside0.mk hn'; have HCL := Aside0.mk hcl; have HIJ := Aside0.mk hij; have HJ := Aside0.mk hj
  by_cases hcj : cap = j
  · have hnj : l0.length = j := by omega
    have HA := Aside0.mk (fun ty => hap w.drew rfl ty 0 0 (.inr hnj)); clear hr0 hfin hB hg' hm hCl hbg hPg hC1l hX hC1 hC2 hC hXl hXo hg hs hle ho0 hone0 hsz hi0 hz0 hz1 hz2 hY hYl en hn' hap hnj hcl; subst hcj
    go_enter Try.func110, Try.ntmps110
    go_wp2
    go_region_law (refine step_appN rfl (.tmp 22) (.tmp 25) 29 29 rfl (.slice (some ⟨g, 0, none⟩) i cap) (.slice (some ⟨g, 0, none⟩) (l0.length - cap) 0) (by simp [Act.eval, Act.put]) (by simp [Act.eval, Act.put]) (HA.out _) ?_)
    go_wp2_with ((with_reducible refine gate_builtin (b := .clear) (xs := #[.tmp 31]) rfl ?_); refine wpList_clearN rfl (.tmp 31) 29 rfl (.slice (some ⟨g, n' * 5, none⟩) (l0.length - n') (cap - n')) rfl (HCL.out (w.drew.setRow g C1.toArray) rfl _ _) ?_)
    go_ret
    refine ⟨.slice (some ⟨g, 0, none⟩) n' cap, rfl, ?_, ?_, ?_⟩
    · have hlen : (l0.take i ++ l0.drop cap).length = n' := by have := HN.out; have := HJ.out; have := HIJ.out; simp; omega
      rw [← hlen]; refine r_mk (L := C2) rfl (setRow_heap _ g _ _ _ _ (setRow_heap w.drew g _ _ _ _ HG.out)) HS0.out (.inl HP0.out) (by rw [hlen]; have := HJ.out; omega) HM.out (HF.out.2.trans HL.out) ?_; rw [hlen]
      show Reps _ 5 _ (C2.take (n' * 5))
      rw [HF.out.1]
      exact reps_app (reps_take HR.out i) (HXD.out ▸ reps_drop HR.out cap)
    · exact below_setRow (below_setRow (below_drew1 HB.out) HS0.out _) HS0.out _
    · exact kept_setRow (kept_setRow (Kept.drew (Kept.refl _ _)) (.inl HP0.out) _) (.inl HP0.out) _
  · have HA := Aside0.mk (fun ty c' => hap w.drew rfl ty (j * 5) c' (.inl rfl)); clear hr0 hfin hB hg' hm hCl hbg hPg hC1l hX hC1 hC2 hC hXl hXo hg hs hle ho0 hone0 hsz hi0 hz0 hz1 hz2 hY hYl en hn' hap hcl
    go_enter Try.func110, Try.ntmps110
    go_wp2
    go_region_law (refine step_appN rfl (.tmp 22) (.tmp 25) 29 29 rfl (.slice (some ⟨g, 0, none⟩) i cap) (.slice (some ⟨g, j * 5, none⟩) (l0.length - j) (cap - j)) (by simp [Act.eval, Act.put]) (by simp [Act.eval, Act.put]) (HA.out _ _) ?_)
    go_wp2_with ((with_reducible refine gate_builtin (b := .clear) (xs := #[.tmp 31]) rfl ?_); refine wpList_clearN rfl (.tmp 31) 29 rfl (.slice (some ⟨g, n' * 5, none⟩) (l0.length - n') (cap - n')) rfl (HCL.out (w.drew.setRow g C1.toArray) rfl _ _) ?_)
    go_ret
    refine ⟨.slice (some ⟨g, 0, none⟩) n' cap, rfl, ?_, ?_, ?_⟩
    · have hlen : (l0.take i ++ l0.drop j).length = n' := by have := HN.out; have := HJ.out; have := HIJ.out; simp; omega
      rw [← hlen]; refine r_mk (L := C2) rfl (setRow_heap _ g _ _ _ _ (setRow_heap w.drew g _ _ _ _ HG.out)) HS0.out (.inl HP0.out) (by rw [hlen]; have := HJ.out; omega) HM.out (HF.out.2.trans HL.out) ?_; rw [hlen]
      show Reps _ 5 _ (C2.take (n' * 5))
      rw [HF.out.1]
      exact reps_app (reps_take HR.out i) (HXD.out ▸ reps_drop HR.out j)
    · exact below_setRow (below_setRow (below_drew1 HB.out) HS0.out _) HS0.out _
    · exact kept_setRow (kept_setRow (Kept.drew (Kept.refl _ _)) (.inl HP0.out) _) (.inl HP0.out) _
theorem slices_Delete_implOut.calls (P0_ : Nat → Prop) (u9000_ : Value) (l0 : List S24) (a1 a2 : Int) (r : List S24) (w0 w : World) (hB : Below w0.heap.size w0 w) (ho0 : Kd.R k24 24 w w0.heap.size P0_ u9000_ l0) (h : slices_Delete_implOut.f l0 a1 a2 = some r) :
    Calls Try.prog 110 #[u9000_, .int .i64 a1, .int .i64 a2] w fun e w' => ∃ v0_ : Value, e = .returned (v0_) ∧ Kd.R k24 24 w' w0.heap.size (fun k_ => (P0_ k_ ∨ w.heap.size ≤ k_)) v0_ r ∧ Below w0.heap.size w0 w' ∧ Kept w w' (fun k_ => P0_ k_) := by
  unfold slices_Delete_implOut.f at h
  by_cases c1 : 0 ≤ a1
  · rw [if_pos c1] at h
    by_cases c2 : a1 < a2
    · rw [if_pos c2] at h
      by_cases c3 : a2 ≤ (l0.length : Int)
      · rw [if_pos c3] at h
        obtain rfl := Option.some.inj h; obtain ⟨i, rfl⟩ : ∃ i : Nat, a1 = i := ⟨a1.toNat, by omega⟩; obtain ⟨j, rfl⟩ : ∃ j : Nat, a2 = j := ⟨a2.toNat, by omega⟩; rw [Int.toNat_natCast, Int.toNat_natCast]
        exact slices_Delete_implOut_at P0_ u9000_ l0 i j w0 w hB ho0 (by omega) (by omega)
      · rw [if_neg c3] at h; cases h
    · rw [if_neg c2] at h; cases h
  · rw [if_neg c1] at h; cases h
end Go.Proofs.Ytefmkmhjbfpelaa.QO
namespace Go.Proofs.Ytefmkmhjbfpelaa.QO
open Go.RowKit Go.Proofs.YtefmkmhjbfpelaaW.PrintWords Go.Proofs.YtefmkmhjbfpelaaW.PrintLast Go.Proofs.YtefmkmhjbfpelaaW.PrintMore
attribute [local go_sem] max2_int min2_int max_two min_two max_three min_three max_four min_four   -- for this text's walks alone
set_option linter.unusedVariables false
set_option linter.unusedSimpArgs false
set_option maxHeartbeats 8000000 in
set_option maxRecDepth 100000 in
theorem impl_OutboxHeard.calls (k : Nat) (A0 : Option Addr) (c0 : Nat) (l0 : List (S24)) (a1 : ByteArray) (a2 : Int) (r1 : List (S24)) (r2 : List (S105)) (r3 : List (S24)) (r4 : Int) (w : World) (hr0 : Kd.C k24 w A0 l0.length l0) (hc0 : l0.length ≤ c0) (h : impl_OutboxHeard.f k l0 a1 a2 = some (r1, r2, r3, r4)) :
    Calls Try.prog 45 #[.slice A0 l0.length c0, .string a1, .int .i64 a2] w fun e w' => ∃ v0_ v1_ v2_ : Value, e = .returned (.agg #[v0_, v1_, v2_, .int .i64 r4]) ∧ Kd.R k24 24 w' w.heap.size (fun k_ => some k_ ≠ (v2_ : Value).ownBlock) v0_ r1 ∧ Kd.R k105 105 w' w.heap.size (fun _ => True) v1_ r2 ∧ Kd.R k24 24 w' w.heap.size (fun k_ => some k_ ≠ (v0_ : Value).ownBlock) v2_ r3 ∧ Below w.heap.size w w' := by
  have hu34 := Try.underlying34; have hu24 := Try.underlying24; have HR0 := Aside0.mk hr0; have HC0 := Aside0.mk hc0; clear hr0 hc0; have HB := Aside0.mk (Below.refl w.heap.size w); have H : ((impl_longText.f k (([a1] : List ByteArray))).bind fun t221 => (if t221 = true then (some (([] : List (S24)), ([] : List (S105)), ([] : List (S24)), 2)) else ((impl_outboxCode.f k l0).bind fun t222 => (if t222 = 0 then ((impl_Out_impl_outOrder.f k l0 a1 a2 (⟨#[]⟩ : ByteArray) 0 0).bind fun bt223 => (if bt223.2 = true then ((slices_Clone_implOut.f l0).bind fun t225 => ((slices_Delete_implOut.f t225 bt223.1 (wrap64 (bt223.1 + 1))).bind fun t228 => (some (t228, ([] : List (S105)), ([] : List (S24)), 0)))) else (some (([] : List (S24)), ([] : List (S105)), ([] : List (S24)), 6)))) else (some (([] : List (S24)), ([] : List (S105)), ([] : List (S24)), t222)))))) = some (r1, r2, r3, r4) := h; clear h; obtain ⟨y218, hy218⟩ : ∃ y_ : List ByteArray, y_ = (([a1] : List ByteArray)) := ⟨_, rfl⟩
  replace H : ((impl_longText.f k y218).bind fun t221 => (if t221 = true then (some (([] : List (S24)), ([] : List (S105)), ([] : List (S24)), 2)) else ((impl_outboxCode.f k l0).bind fun t222 => (if t222 = 0 then ((impl_Out_impl_outOrder.f k l0 a1 a2 (⟨#[]⟩ : ByteArray) 0 0).bind fun bt223 => (if bt223.2 = true then ((slices_Clone_implOut.f l0).bind fun t225 => ((slices_Delete_implOut.f t225 bt223.1 (wrap64 (bt223.1 + 1))).bind fun t228 => (some (t228, ([] : List (S105)), ([] : List (S24)), 0)))) else (some (([] : List (S24)), ([] : List (S105)), ([] : List (S24)), 6)))) else (some (([] : List (S24)), ([] : List (S105)), ([] : List (S24)), t222)))))) = some (r1, r2, r3, r4) := by first | (rw [hy218]; with_reducible exact H) | (have H2_ := (Option.bind_some _ _).symm.trans H; rw [hy218]; with_reducible exact H2_) | (have H2_ := (Option.bind_some _ _).symm.trans H; with_reducible exact H2_) | with_reducible exact H | (rw [hy218]; exact H) | exact H
  have Ny218 := Aside0.mk hy218; clear hy218; replace H := Option.bind_eq_some_iff.mp H; obtain ⟨t221, A40, H⟩ := H; replace H : (if t221 = true then (some (([] : List (S24)), ([] : List (S105)), ([] : List (S24)), 2)) else ((impl_outboxCode.f k l0).bind fun t222 => (if t222 = 0 then ((impl_Out_impl_outOrder.f k l0 a1 a2 (⟨#[]⟩ : ByteArray) 0 0).bind fun bt223 => (if bt223.2 = true then ((slices_Clone_implOut.f l0).bind fun t225 => ((slices_Delete_implOut.f t225 bt223.1 (wrap64 (bt223.1 + 1))).bind fun t228 => (some (t228, ([] : List (S105)), ([] : List (S24)), 0)))) else (some (([] : List (S24)), ([] : List (S105)), ([] : List (S24)), 6)))) else (some (([] : List (S24)), ([] : List (S105)), ([] : List (S24)), t222))))) = some (r1, r2, r3, r4) := H; have A4 := Aside0.mk A40; clear A40
  go_enter Try.func45, Try.ntmps45
  try go_wp2_with (first | ((with_reducible refine gate_dst (N := 6) rfl ?_); refine bx 6 (cs := #[.slice none 0 0, .slice none 0 0, .slice none 0 0, .int .i64 0]) (t := 34) ?_; intro gb217 hg w5 hbox hb; have BK217 := Aside0.mk (hbox); have GW217 := Aside0.mk ((gs hg (bs HB))); have GE217 := Aside0.mk ((gs hg (bs HB))); replace HB := Aside0.mk (below_step (bs HB) hb); clear hb hbox hg) | ((with_reducible refine gate_dst (N := 11) rfl ?_); refine Kd.R_lit Kd.string _ 9 ?hg (N := 11) ?hd (xs := ([a1] : List ByteArray)) (inner := [.string a1]) (ok := fun _ => True) (okp := fun _ => True) ?hr ?hp (fun _ hk => hk) trivial (Below.refl _ _) (Nat.le_refl _) (by simp) ?_; (case hd => rfl); (case hg => rfl); (case hr => first | (go_simp; done) | (go_simp; rfl)); (case hp => exact (Reps.one (show Kd.M Kd.string _ _ _ a1 [.string a1] from rfl) (Reps.none _ _))); intro v219 w6 ho7 hb hg_ hnew_; clear hg_ hnew_; (first | rw [← Ny218.out] at ho7 | (simp only [Int.reduceToNat] at ho7; rw [← Ny218.out] at ho7)); have HO220 := Aside0.mk (Kd.R_lower ho7 (below_size (bs HB))); replace BK217 := Aside0.mk (blk_below (ks BK217) hb); replace HB := Aside0.mk (below_step (bs HB) hb); clear hb ho7; obtain ⟨Ao8, co8, eo8⟩ := Kd.R_slice HO220.out; subst eo8))
  go_at_call 85; (with_reducible refine (impl_longText.calls k _ _ y218 t221 _ ?side1 ?side2 A4.out).mono ?_); (case side1 => repeat (first | exact (Kd.R_reads' HO220.out).2.2 | (with_reducible refine Kd.C_alloc ?_ _) | (with_reducible refine Kd.C_drewN ?_ _) | (with_reducible refine Kd.C_drew ?_))); (case side2 => exact (Kd.R_reads' HO220.out).2.1); rintro e w' ⟨rfl, ⟨nd, rfl⟩⟩
  by_cases c9 : t221 = true
  · subst c9
    have H1 : (some (([] : List (S24)), ([] : List (S105)), ([] : List (S24)), 2)) = some (r1, r2, r3, r4) := by rw [if_pos rfl] at H; exact H
    clear H; have H := H1; clear H1; simp only [Option.some.injEq, Prod.mk.injEq] at H; obtain ⟨rfl, rfl, rfl, rfl⟩ := H; obtain ⟨hcz10_0, hcz10_1, hcz10_2, hcz10_3, hfz10_0, hfz10_1, hfz10_2, hfz10_3⟩ := cf4 BK217
    go_wp2
    refine bodyPost_ret (results_cell_row rfl _ _ gb217 34 #[.slice none 0 0, .slice none 0 0, .slice none 0 0, .int .i64 2] (0, 0) _ rfl (kp BK217) Try.underlying34 rfl (by kernel_rfl)) rfl ?_
    exact ⟨_, _, _, ff, by first | exact Kd.R_nil _ _ _ _ _ | exact Kd.N_nil _ _ _ _ _ | exact Kd.V_nil _ _ _ _ _ | exact Kd.Q_nil _ _ _ _ _ | exact Kd.S_nil _ _ _ _ _, by first | exact Kd.R_nil _ _ _ _ _ | exact Kd.N_nil _ _ _ _ _ | exact Kd.V_nil _ _ _ _ _ | exact Kd.Q_nil _ _ _ _ _ | exact Kd.S_nil _ _ _ _ _, by first | exact Kd.R_nil _ _ _ _ _ | exact Kd.N_nil _ _ _ _ _ | exact Kd.V_nil _ _ _ _ _ | exact Kd.Q_nil _ _ _ _ _ | exact Kd.S_nil _ _ _ _ _, bs HB⟩
  · replace c9 := Bool.eq_false_iff.mpr c9; subst c9
    have H1 : ((impl_outboxCode.f k l0).bind fun t222 => (if t222 = 0 then ((impl_Out_impl_outOrder.f k l0 a1 a2 (⟨#[]⟩ : ByteArray) 0 0).bind fun bt223 => (if bt223.2 = true then ((slices_Clone_implOut.f l0).bind fun t225 => ((slices_Delete_implOut.f t225 bt223.1 (wrap64 (bt223.1 + 1))).bind fun t228 => (some (t228, ([] : List (S105)), ([] : List (S24)), 0)))) else (some (([] : List (S24)), ([] : List (S105)), ([] : List (S24)), 6)))) else (some (([] : List (S24)), ([] : List (S105)), ([] : List (S24)), t222)))) = some (r1, r2, r3, r4) := by rw [if_neg (show ¬ (false = true) by decide)] at H; exact H
    clear H; have H := H1; clear H1; replace H := Option.bind_eq_some_iff.mp H; obtain ⟨t222, A110, H⟩ := H; replace H : (if t222 = 0 then ((impl_Out_impl_outOrder.f k l0 a1 a2 (⟨#[]⟩ : ByteArray) 0 0).bind fun bt223 => (if bt223.2 = true then ((slices_Clone_implOut.f l0).bind fun t225 => ((slices_Delete_implOut.f t225 bt223.1 (wrap64 (bt223.1 + 1))).bind fun t228 => (some (t228, ([] : List (S105)), ([] : List (S24)), 0)))) else (some (([] : List (S24)), ([] : List (S105)), ([] : List (S24)), 6)))) else (some (([] : List (S24)), ([] : List (S105)), ([] : List (S24)), t222))) = some (r1, r2, r3, r4) := H; have A11 := Aside0.mk A110; clear A110
    try go_wp2_with (fail)
    go_at_call 80; (with_reducible refine (impl_outboxCode.calls k _ _ l0 t222 _ (Kd.C_below HR0.out (bs HB)) HC0.out A11.out).mono ?_); rintro e w12 ⟨rfl, hb⟩; replace HO220 := Aside0.mk (Kd.R_below (rs HO220) hb); replace BK217 := Aside0.mk (blk_below (ks BK217) hb); replace HB := Aside0.mk (below_step (bs HB) hb); (try clear hb); (try clear hb2); (try clear hk); (try clear hi)
    by_cases c13 : t222 = 0
    · rw [if_pos c13] at H; have c13b0 : (t222 == 0) = true := beq_iff_eq.mpr c13; have c13b1 : (t222 != 0) = false := bne_eq_false_iff_eq.mpr c13; clear c13; replace H := Option.bind_eq_some_iff.mp H; obtain ⟨⟨t223, t224⟩, A140, H⟩ := H; replace H : (if t224 = true then ((slices_Clone_implOut.f l0).bind fun t225 => ((slices_Delete_implOut.f t225 t223 (wrap64 (t223 + 1))).bind fun t228 => (some (t228, ([] : List (S105)), ([] : List (S24)), 0)))) else (some (([] : List (S24)), ([] : List (S105)), ([] : List (S24)), 6))) = some (r1, r2, r3, r4) := H; have A14 := Aside0.mk A140; clear A140
      try go_wp2_with (fail)
      go_at_call 109; (with_reducible refine (impl_Out_impl_outOrder.calls k _ _ l0 a1 a2 (⟨#[]⟩ : ByteArray) 0 0  t223 t224 _ (Kd.C_below HR0.out (bs HB)) HC0.out A14.out).mono ?_); rintro e w15 ⟨rfl, hb⟩; replace HO220 := Aside0.mk (Kd.R_below (rs HO220) hb); replace BK217 := Aside0.mk (blk_below (ks BK217) hb); replace HB := Aside0.mk (below_step (bs HB) hb); (try clear hb); (try clear hb2); (try clear hk); (try clear hi)
      by_cases c16 : t224 = true
      · subst c16
        have H1 : ((slices_Clone_implOut.f l0).bind fun t225 => ((slices_Delete_implOut.f t225 t223 (wrap64 (t223 + 1))).bind fun t228 => (some (t228, ([] : List (S105)), ([] : List (S24)), 0)))) = some (r1, r2, r3, r4) := by rw [if_pos rfl] at H; exact H
        clear H; have H := H1; clear H1; replace H := Option.bind_eq_some_iff.mp H; obtain ⟨t225, A170, H⟩ := H; replace H : ((slices_Delete_implOut.f t225 t223 (wrap64 (t223 + 1))).bind fun t228 => (some (t228, ([] : List (S105)), ([] : List (S24)), 0))) = some (r1, r2, r3, r4) := H; have A17 := Aside0.mk A170; clear A170; replace H := Option.bind_eq_some_iff.mp H; obtain ⟨t228, A180, H⟩ := H; replace H : (some (t228, ([] : List (S105)), ([] : List (S24)), 0)) = some (r1, r2, r3, r4) := H; have A18 := Aside0.mk A180; clear A180; simp only [Option.some.injEq, Prod.mk.injEq] at H; obtain ⟨rfl, rfl, rfl, rfl⟩ := H
        go_wp2_with (first | ((first | ((with_reducible refine gate_callee (f := 111) rfl ?_); refine goesL_ (some 32) rfl rfl Try.func111 (by kernel_rfl) rfl #[.slice A0 l0.length c0] rfl (by (try simp only [List.map_toArray, List.map_cons, List.map_nil]); first | done | rfl | (simp only [List.length_drop, List.length_take]; rfl)) ?_; (with_reducible refine (slices_Clone_implOut.calls _ _ l0 t225 _ (Kd.C_below HR0.out (bs HB)) HC0.out A17.out).mono ?_); rintro e w19 ⟨v226, rfl, ho0, hb⟩; refine ⟨_, rfl, ?_⟩) | (go_at_call 111; (with_reducible refine (slices_Clone_implOut.calls _ _ l0 t225 _ (Kd.C_below HR0.out (bs HB)) HC0.out A17.out).mono ?_); rintro e w19 ⟨v226, rfl, ho0, hb⟩)); replace HO220 := Aside0.mk (Kd.R_below (rs HO220) hb); have HO227 := Aside0.mk (Kd.R_lower ho0 (below_size (bs HB))); replace BK217 := Aside0.mk (blk_below (ks BK217) hb); replace HB := Aside0.mk (below_step (bs HB) hb); (try clear hb); (try clear hb2); (try clear hk); (try clear hi); (try clear ho0); obtain ⟨Ao20, co20, eo20⟩ := Kd.R_slice HO227.out; subst eo20) | ((first | ((with_reducible refine gate_callee (f := 110) rfl ?_); refine goesL_ (some 36) rfl rfl Try.func110 (by kernel_rfl) rfl #[.slice Ao20 t225.length co20, .int .i64 t223, .int .i64 (wrap64 (t223 + 1))] rfl (by (try simp only [List.map_toArray, List.map_cons, List.map_nil]); first | done | rfl | (simp only [List.length_drop, List.length_take]; rfl)) ?_; (with_reducible refine (slices_Delete_implOut.calls (fun k_ => some k_ = (.slice Ao20 t225.length co20 : Value).ownBlock) (.slice Ao20 t225.length co20) t225 t223 (wrap64 (t223 + 1)) t228 w _ ?side1 ?side2 A18.out).mono ?_); (case side1 => repeat (first | (with_reducible first | exact HB.out | apply below_alloc | apply pw_below_drewN | apply below_drew1 | refine below_set ?_ GE217.out) | exact HB.out)); (case side2 => exact Kd.R_tight rfl HO227.out); rintro e w21 ⟨v229, rfl, ho0, hb, hkp⟩; refine ⟨_, rfl, ?_⟩) | (go_at_call 110; (with_reducible refine (slices_Delete_implOut.calls (fun k_ => some k_ = (.slice Ao20 t225.length co20 : Value).ownBlock) (.slice Ao20 t225.length co20) t225 t223 (wrap64 (t223 + 1)) t228 w _ ?side1 ?side2 A18.out).mono ?_); (case side1 => repeat (first | (with_reducible first | exact HB.out | apply below_alloc | apply pw_below_drewN | apply below_drew1 | refine below_set ?_ GE217.out) | exact HB.out)); (case side2 => exact Kd.R_tight rfl HO227.out); rintro e w21 ⟨v229, rfl, ho0, hb, hkp⟩)); have n0_ := Aside0.mk (blk_kept (ks BK217) hkp (fun hs_ => (fun e_ => (Kd.R_ne HO227.out BK217.out (by decide)) e_) hs_)); have n1_ := Aside0.mk (Kd.R_mono (ok' := fun k_ => True) (Kd.R_keptB ((Kd.R_apart' HO220.out (Kd.R_typed HO227.out) (by decide))) hkp (fun k_ hk_ hs_ => (hk_.2) hs_)) (fun k_ hk_ => trivial)); have n2_ := Aside0.mk (Kd.R_mono (ok' := fun k_ => True) ho0 (fun k_ hk_ => trivial)); have n3_ := Aside0.mk (hb); clear BK217; clear HO220; clear HB; clear HO227; have BK217 := n0_; have HO220 := n1_; have HO230 := n2_; have HB := n3_; clear n0_ n1_ n2_ n3_; (try clear hb); (try clear hkp); (try clear ho0); obtain ⟨Ao22, co22, eo22⟩ := Kd.R_slice HO230.out; subst eo22; obtain ⟨hcz23_0, hcz23_1, hcz23_2, hcz23_3, hfz23_0, hfz23_1, hfz23_2, hfz23_3⟩ := cf4 BK217))
        refine bodyPost_ret (results_cell_row rfl _ _ gb217 34 #[.slice Ao22 t228.length co22, .slice none 0 0, .slice none 0 0, .int .i64 0] (0, 0) _ rfl (kp BK217) Try.underlying34 rfl (by kernel_rfl)) rfl ?_
        exact ⟨_, _, _, ff, Kd.R_mono (rf (Kd.R_types HO230.out BK217.out (by decide))) (fun _ hk => (by simp [Value.ownBlock])), by first | exact Kd.R_nil _ _ _ _ _ | exact Kd.N_nil _ _ _ _ _ | exact Kd.V_nil _ _ _ _ _ | exact Kd.Q_nil _ _ _ _ _ | exact Kd.S_nil _ _ _ _ _, by first | exact Kd.R_nil _ _ _ _ _ | exact Kd.N_nil _ _ _ _ _ | exact Kd.V_nil _ _ _ _ _ | exact Kd.Q_nil _ _ _ _ _ | exact Kd.S_nil _ _ _ _ _, bs HB⟩
      · replace c16 := Bool.eq_false_iff.mpr c16; subst c16
        have H1 : (some (([] : List (S24)), ([] : List (S105)), ([] : List (S24)), 6)) = some (r1, r2, r3, r4) := by rw [if_neg (show ¬ (false = true) by decide)] at H; exact H
        clear H; have H := H1; clear H1; simp only [Option.some.injEq, Prod.mk.injEq] at H; obtain ⟨rfl, rfl, rfl, rfl⟩ := H; obtain ⟨hcz24_0, hcz24_1, hcz24_2, hcz24_3, hfz24_0, hfz24_1, hfz24_2, hfz24_3⟩ := cf4 BK217
        go_wp2
        refine bodyPost_ret (results_cell_row rfl _ _ gb217 34 #[.slice none 0 0, .slice none 0 0, .slice none 0 0, .int .i64 6] (0, 0) _ rfl (kp BK217) Try.underlying34 rfl (by kernel_rfl)) rfl ?_
        exact ⟨_, _, _, ff, by first | exact Kd.R_nil _ _ _ _ _ | exact Kd.N_nil _ _ _ _ _ | exact Kd.V_nil _ _ _ _ _ | exact Kd.Q_nil _ _ _ _ _ | exact Kd.S_nil _ _ _ _ _, by first | exact Kd.R_nil _ _ _ _ _ | exact Kd.N_nil _ _ _ _ _ | exact Kd.V_nil _ _ _ _ _ | exact Kd.Q_nil _ _ _ _ _ | exact Kd.S_nil _ _ _ _ _, by first | exact Kd.R_nil _ _ _ _ _ | exact Kd.N_nil _ _ _ _ _ | exact Kd.V_nil _ _ _ _ _ | exact Kd.Q_nil _ _ _ _ _ | exact Kd.S_nil _ _ _ _ _, bs HB⟩
    · rw [if_neg c13] at H; have c13b0 : (t222 == 0) = false := beq_eq_false_iff_ne.mpr c13; have c13b1 : (t222 != 0) = true := bne_iff_ne.mpr c13; simp only [Option.some.injEq, Prod.mk.injEq] at H; obtain ⟨rfl, rfl, rfl, rfl⟩ := H; obtain ⟨hcz25_0, hcz25_1, hcz25_2, hcz25_3, hfz25_0, hfz25_1, hfz25_2, hfz25_3⟩ := cf4 BK217
      go_wp2
      refine bodyPost_ret (results_cell_row rfl _ _ gb217 34 #[.slice none 0 0, .slice none 0 0, .slice none 0 0, .int .i64 t222] (0, 0) _ rfl (kp BK217) Try.underlying34 rfl (by kernel_rfl)) rfl ?_
      exact ⟨_, _, _, ff, by first | exact Kd.R_nil _ _ _ _ _ | exact Kd.N_nil _ _ _ _ _ | exact Kd.V_nil _ _ _ _ _ | exact Kd.Q_nil _ _ _ _ _ | exact Kd.S_nil _ _ _ _ _, by first | exact Kd.R_nil _ _ _ _ _ | exact Kd.N_nil _ _ _ _ _ | exact Kd.V_nil _ _ _ _ _ | exact Kd.Q_nil _ _ _ _ _ | exact Kd.S_nil _ _ _ _ _, by first | exact Kd.R_nil _ _ _ _ _ | exact Kd.N_nil _ _ _ _ _ | exact Kd.V_nil _ _ _ _ _ | exact Kd.Q_nil _ _ _ _ _ | exact Kd.S_nil _ _ _ _ _, bs HB⟩
set_option maxHeartbeats 8000000 in
set_option maxRecDepth 100000 in
theorem laws_eqOut.calls (a0_0 : ByteArray) (a0_1 : Int) (a0_2 : ByteArray) (a0_3 : Int) (a0_4 : Int) (a1_0 : ByteArray) (a1_1 : Int) (a1_2 : ByteArray) (a1_3 : Int) (a1_4 : Int) (r : Bool) (w : World) (h : laws_eqOut.f a0_0 a0_1 a0_2 a0_3 a0_4 a1_0 a1_1 a1_2 a1_3 a1_4 = some r) :
    Calls Try.prog 104 #[.agg #[.string a0_0, .int .i64 a0_1, .string a0_2, .int .i64 a0_3, .int .i64 a0_4], .agg #[.string a1_0, .int .i64 a1_1, .string a1_2, .int .i64 a1_3, .int .i64 a1_4]] w fun e w' => e = .returned (.bool r) ∧ Below w.heap.size w w' := by
  have hu24 := Try.underlying24; have HB := Aside0.mk (Below.refl w.heap.size w); have H : (if a0_0.toList = a1_0.toList then (if a0_1 = a1_1 then (if a0_2.toList = a1_2.toList then (if a0_3 = a1_3 then (if a0_4 = a1_4 then (some true) else (some false)) else (some false)) else (some false)) else (some false)) else (some false)) = some r := h; clear h
  by_cases c3 : a0_0.toList = a1_0.toList
  · rw [if_pos c3] at H; have c3b0 : (a0_0.toList == a1_0.toList) = true := beq_iff_eq.mpr c3; have c3b1 : (a0_0.toList != a1_0.toList) = false := bne_eq_false_iff_eq.mpr c3; clear c3
    by_cases c4 : a0_1 = a1_1
    · rw [if_pos c4] at H; have c4b0 : (a0_1 == a1_1) = true := beq_iff_eq.mpr c4; have c4b1 : (a0_1 != a1_1) = false := bne_eq_false_iff_eq.mpr c4; clear c4
      by_cases c5 : a0_2.toList = a1_2.toList
      · rw [if_pos c5] at H; have c5b0 : (a0_2.toList == a1_2.toList) = true := beq_iff_eq.mpr c5; have c5b1 : (a0_2.toList != a1_2.toList) = false := bne_eq_false_iff_eq.mpr c5; clear c5
        by_cases c6 : a0_3 = a1_3
        · rw [if_pos c6] at H; have c6b0 : (a0_3 == a1_3) = true := beq_iff_eq.mpr c6; have c6b1 : (a0_3 != a1_3) = false := bne_eq_false_iff_eq.mpr c6; clear c6
          by_cases c7 : a0_4 = a1_4
          · rw [if_pos c7] at H; have c7b0 : (a0_4 == a1_4) = true := beq_iff_eq.mpr c7; have c7b1 : (a0_4 != a1_4) = false := bne_eq_false_iff_eq.mpr c7; clear c7; obtain rfl := Option.some.inj H
            go_enter Try.func104, Try.ntmps104
            go_wp2_with (first | ((with_reducible refine gate_dst (N := 2) rfl ?_); refine bx 2 (cs := #[.string a0_0, .int .i64 a0_1, .string a0_2, .int .i64 a0_3, .int .i64 a0_4]) (t := 24) ?_; intro gb231 hg w8 hbox hb; have BK231 := Aside0.mk (hbox); have GW231 := Aside0.mk ((gs hg (bs HB))); have GE231 := Aside0.mk ((gs hg (bs HB))); replace HB := Aside0.mk (below_step (bs HB) hb); clear hb hbox hg) | ((with_reducible refine gate_dst (N := 3) rfl ?_); refine bx 3 (cs := #[.string a1_0, .int .i64 a1_1, .string a1_2, .int .i64 a1_3, .int .i64 a1_4]) (t := 24) ?_; intro gb232 hg w9 hbox hb; have BK232 := Aside0.mk (hbox); have GW232 := Aside0.mk ((gs hg (bs HB))); have GE232 := Aside0.mk ((gs hg (bs HB))); replace HB := Aside0.mk (below_step (bs HB) hb); have NB231_232 := Aside0.mk ((gn hg (ks BK231))); have NB232_231 := Aside0.mk ((gm hg (ks BK231))); replace BK231 := Aside0.mk (blk_below (ks BK231) hb); clear hb hbox hg; have hnb10 := NB231_232.out; have hnc10 := NB232_231.out; obtain ⟨hcz11_0, hcz11_1, hcz11_2, hcz11_3, hcz11_4, hfz11_0, hfz11_1, hfz11_2, hfz11_3, hfz11_4⟩ := cf5 BK231; obtain ⟨hcz12_0, hcz12_1, hcz12_2, hcz12_3, hcz12_4, hfz12_0, hfz12_1, hfz12_2, hfz12_3, hfz12_4⟩ := cf5 BK232))
            go_ret
            exact ⟨ff, bs HB⟩
          · rw [if_neg c7] at H; have c7b0 : (a0_4 == a1_4) = false := beq_eq_false_iff_ne.mpr c7; have c7b1 : (a0_4 != a1_4) = true := bne_iff_ne.mpr c7; obtain rfl := Option.some.inj H
            go_enter Try.func104, Try.ntmps104
            go_wp2_with (first | ((with_reducible refine gate_dst (N := 2) rfl ?_); refine bx 2 (cs := #[.string a0_0, .int .i64 a0_1, .string a0_2, .int .i64 a0_3, .int .i64 a0_4]) (t := 24) ?_; intro gb231 hg w13 hbox hb; have BK231 := Aside0.mk (hbox); have GW231 := Aside0.mk ((gs hg (bs HB))); have GE231 := Aside0.mk ((gs hg (bs HB))); replace HB := Aside0.mk (below_step (bs HB) hb); clear hb hbox hg) | ((with_reducible refine gate_dst (N := 3) rfl ?_); refine bx 3 (cs := #[.string a1_0, .int .i64 a1_1, .string a1_2, .int .i64 a1_3, .int .i64 a1_4]) (t := 24) ?_; intro gb232 hg w14 hbox hb; have BK232 := Aside0.mk (hbox); have GW232 := Aside0.mk ((gs hg (bs HB))); have GE232 := Aside0.mk ((gs hg (bs HB))); replace HB := Aside0.mk (below_step (bs HB) hb); have NB231_232 := Aside0.mk ((gn hg (ks BK231))); have NB232_231 := Aside0.mk ((gm hg (ks BK231))); replace BK231 := Aside0.mk (blk_below (ks BK231) hb); clear hb hbox hg; have hnb15 := NB231_232.out; have hnc15 := NB232_231.out; obtain ⟨hcz16_0, hcz16_1, hcz16_2, hcz16_3, hcz16_4, hfz16_0, hfz16_1, hfz16_2, hfz16_3, hfz16_4⟩ := cf5 BK231; obtain ⟨hcz17_0, hcz17_1, hcz17_2, hcz17_3, hcz17_4, hfz17_0, hfz17_1, hfz17_2, hfz17_3, hfz17_4⟩ := cf5 BK232))
            go_ret
            exact ⟨ff, bs HB⟩
        · rw [if_neg c6] at H; have c6b0 : (a0_3 == a1_3) = false := beq_eq_false_iff_ne.mpr c6; have c6b1 : (a0_3 != a1_3) = true := bne_iff_ne.mpr c6; obtain rfl := Option.some.inj H
          go_enter Try.func104, Try.ntmps104
          go_wp2_with (first | ((with_reducible refine gate_dst (N := 2) rfl ?_); refine bx 2 (cs := #[.string a0_0, .int .i64 a0_1, .string a0_2, .int .i64 a0_3, .int .i64 a0_4]) (t := 24) ?_; intro gb231 hg w18 hbox hb; have BK231 := Aside0.mk (hbox); have GW231 := Aside0.mk ((gs hg (bs HB))); have GE231 := Aside0.mk ((gs hg (bs HB))); replace HB := Aside0.mk (below_step (bs HB) hb); clear hb hbox hg) | ((with_reducible refine gate_dst (N := 3) rfl ?_); refine bx 3 (cs := #[.string a1_0, .int .i64 a1_1, .string a1_2, .int .i64 a1_3, .int .i64 a1_4]) (t := 24) ?_; intro gb232 hg w19 hbox hb; have BK232 := Aside0.mk (hbox); have GW232 := Aside0.mk ((gs hg (bs HB))); have GE232 := Aside0.mk ((gs hg (bs HB))); replace HB := Aside0.mk (below_step (bs HB) hb); have NB231_232 := Aside0.mk ((gn hg (ks BK231))); have NB232_231 := Aside0.mk ((gm hg (ks BK231))); replace BK231 := Aside0.mk (blk_below (ks BK231) hb); clear hb hbox hg; have hnb20 := NB231_232.out; have hnc20 := NB232_231.out; obtain ⟨hcz21_0, hcz21_1, hcz21_2, hcz21_3, hcz21_4, hfz21_0, hfz21_1, hfz21_2, hfz21_3, hfz21_4⟩ := cf5 BK231; obtain ⟨hcz22_0, hcz22_1, hcz22_2, hcz22_3, hcz22_4, hfz22_0, hfz22_1, hfz22_2, hfz22_3, hfz22_4⟩ := cf5 BK232))
          go_ret
          exact ⟨ff, bs HB⟩
      · rw [if_neg c5] at H; have c5b0 : (a0_2.toList == a1_2.toList) = false := beq_eq_false_iff_ne.mpr c5; have c5b1 : (a0_2.toList != a1_2.toList) = true := bne_iff_ne.mpr c5; obtain rfl := Option.some.inj H
        go_enter Try.func104, Try.ntmps104
        go_wp2_with (first | ((with_reducible refine gate_dst (N := 2) rfl ?_); refine bx 2 (cs := #[.string a0_0, .int .i64 a0_1, .string a0_2, .int .i64 a0_3, .int .i64 a0_4]) (t := 24) ?_; intro gb231 hg w23 hbox hb; have BK231 := Aside0.mk (hbox); have GW231 := Aside0.mk ((gs hg (bs HB))); have GE231 := Aside0.mk ((gs hg (bs HB))); replace HB := Aside0.mk (below_step (bs HB) hb); clear hb hbox hg) | ((with_reducible refine gate_dst (N := 3) rfl ?_); refine bx 3 (cs := #[.string a1_0, .int .i64 a1_1, .string a1_2, .int .i64 a1_3, .int .i64 a1_4]) (t := 24) ?_; intro gb232 hg w24 hbox hb; have BK232 := Aside0.mk (hbox); have GW232 := Aside0.mk ((gs hg (bs HB))); have GE232 := Aside0.mk ((gs hg (bs HB))); replace HB := Aside0.mk (below_step (bs HB) hb); have NB231_232 := Aside0.mk ((gn hg (ks BK231))); have NB232_231 := Aside0.mk ((gm hg (ks BK231))); replace BK231 := Aside0.mk (blk_below (ks BK231) hb); clear hb hbox hg; have hnb25 := NB231_232.out; have hnc25 := NB232_231.out; obtain ⟨hcz26_0, hcz26_1, hcz26_2, hcz26_3, hcz26_4, hfz26_0, hfz26_1, hfz26_2, hfz26_3, hfz26_4⟩ := cf5 BK231; obtain ⟨hcz27_0, hcz27_1, hcz27_2, hcz27_3, hcz27_4, hfz27_0, hfz27_1, hfz27_2, hfz27_3, hfz27_4⟩ := cf5 BK232))
        go_ret
        exact ⟨ff, bs HB⟩
    · rw [if_neg c4] at H; have c4b0 : (a0_1 == a1_1) = false := beq_eq_false_iff_ne.mpr c4; have c4b1 : (a0_1 != a1_1) = true := bne_iff_ne.mpr c4; obtain rfl := Option.some.inj H
      go_enter Try.func104, Try.ntmps104
      go_wp2_with (first | ((with_reducible refine gate_dst (N := 2) rfl ?_); refine bx 2 (cs := #[.string a0_0, .int .i64 a0_1, .string a0_2, .int .i64 a0_3, .int .i64 a0_4]) (t := 24) ?_; intro gb231 hg w28 hbox hb; have BK231 := Aside0.mk (hbox); have GW231 := Aside0.mk ((gs hg (bs HB))); have GE231 := Aside0.mk ((gs hg (bs HB))); replace HB := Aside0.mk (below_step (bs HB) hb); clear hb hbox hg) | ((with_reducible refine gate_dst (N := 3) rfl ?_); refine bx 3 (cs := #[.string a1_0, .int .i64 a1_1, .string a1_2, .int .i64 a1_3, .int .i64 a1_4]) (t := 24) ?_; intro gb232 hg w29 hbox hb; have BK232 := Aside0.mk (hbox); have GW232 := Aside0.mk ((gs hg (bs HB))); have GE232 := Aside0.mk ((gs hg (bs HB))); replace HB := Aside0.mk (below_step (bs HB) hb); have NB231_232 := Aside0.mk ((gn hg (ks BK231))); have NB232_231 := Aside0.mk ((gm hg (ks BK231))); replace BK231 := Aside0.mk (blk_below (ks BK231) hb); clear hb hbox hg; have hnb30 := NB231_232.out; have hnc30 := NB232_231.out; obtain ⟨hcz31_0, hcz31_1, hcz31_2, hcz31_3, hcz31_4, hfz31_0, hfz31_1, hfz31_2, hfz31_3, hfz31_4⟩ := cf5 BK231; obtain ⟨hcz32_0, hcz32_1, hcz32_2, hcz32_3, hcz32_4, hfz32_0, hfz32_1, hfz32_2, hfz32_3, hfz32_4⟩ := cf5 BK232))
      go_ret
      exact ⟨ff, bs HB⟩
  · rw [if_neg c3] at H; have c3b0 : (a0_0.toList == a1_0.toList) = false := beq_eq_false_iff_ne.mpr c3; have c3b1 : (a0_0.toList != a1_0.toList) = true := bne_iff_ne.mpr c3; obtain rfl := Option.some.inj H
    go_enter Try.func104, Try.ntmps104
    go_wp2_with (first | ((with_reducible refine gate_dst (N := 2) rfl ?_); refine bx 2 (cs := #[.string a0_0, .int .i64 a0_1, .string a0_2, .int .i64 a0_3, .int .i64 a0_4]) (t := 24) ?_; intro gb231 hg w33 hbox hb; have BK231 := Aside0.mk (hbox); have GW231 := Aside0.mk ((gs hg (bs HB))); have GE231 := Aside0.mk ((gs hg (bs HB))); replace HB := Aside0.mk (below_step (bs HB) hb); clear hb hbox hg) | ((with_reducible refine gate_dst (N := 3) rfl ?_); refine bx 3 (cs := #[.string a1_0, .int .i64 a1_1, .string a1_2, .int .i64 a1_3, .int .i64 a1_4]) (t := 24) ?_; intro gb232 hg w34 hbox hb; have BK232 := Aside0.mk (hbox); have GW232 := Aside0.mk ((gs hg (bs HB))); have GE232 := Aside0.mk ((gs hg (bs HB))); replace HB := Aside0.mk (below_step (bs HB) hb); have NB231_232 := Aside0.mk ((gn hg (ks BK231))); have NB232_231 := Aside0.mk ((gm hg (ks BK231))); replace BK231 := Aside0.mk (blk_below (ks BK231) hb); clear hb hbox hg; have hnb35 := NB231_232.out; have hnc35 := NB232_231.out; obtain ⟨hcz36_0, hcz36_1, hcz36_2, hcz36_3, hcz36_4, hfz36_0, hfz36_1, hfz36_2, hfz36_3, hfz36_4⟩ := cf5 BK231; obtain ⟨hcz37_0, hcz37_1, hcz37_2, hcz37_3, hcz37_4, hfz37_0, hfz37_1, hfz37_2, hfz37_3, hfz37_4⟩ := cf5 BK232))
    go_ret
    exact ⟨ff, bs HB⟩
end Go.Proofs.Ytefmkmhjbfpelaa.QO
namespace Go.Proofs.Ytefmkmhjbfpelaa.QO
open Go.RowKit Go.Proofs.YtefmkmhjbfpelaaW.PrintWords Go.Proofs.YtefmkmhjbfpelaaW.PrintLast Go.Proofs.YtefmkmhjbfpelaaW.PrintMore
attribute [local go_sem] max2_int min2_int max_two min_two max_three min_three max_four min_four   -- for this text's walks alone
set_option linter.unusedVariables false
set_option linter.unusedSimpArgs false
def laws_eqOutS.T6 : Bool × List (List Nat × List Nat) := (true, [([], []), ([], []), ([0, 1], [0, 1]), ([2], [2]), ([], []), ([], []), ([4, 5], [4, 5]), ([6], [6]), ([3, 7], [3, 7]), ([8], [8])])
def laws_eqOutS.B6 : List Nat := [0, 0, 3, 7, 0, 0, 48, 112, 255, 511]
theorem laws_eqOutS.tab6 : rtab .any (opsOf Try.f40 6) = laws_eqOutS.T6 := by kernel_rfl
theorem laws_eqOutS.bits6 : waitsOk laws_eqOutS.T6.2 laws_eqOutS.B6 = true := by kernel_rfl
set_option maxHeartbeats 8000000 in
set_option maxRecDepth 100000 in
theorem laws_eqOutS.calls (k : Nat) (A0 : Option Addr) (c0 : Nat) (l0 : List (S24)) (A1 : Option Addr) (c1 : Nat) (l1 : List (S24)) (r : Bool) (w : World) (hr0 : Kd.C k24 w A0 l0.length l0) (hc0 : l0.length ≤ c0) (hr1 : Kd.C k24 w A1 l1.length l1) (hc1 : l1.length ≤ c1) (h : laws_eqOutS.f k l0 l1 = some r) :
    Calls Try.prog 40 #[.slice A0 l0.length c0, .slice A1 l1.length c1] w fun e w' => e = .returned (.bool r) ∧ Below w.heap.size w w' := by
  have hu24 := Try.underlying24; have HR0 := Aside0.mk hr0; have HC0 := Aside0.mk hc0; clear hr0 hc0; have HR1 := Aside0.mk hr1; have HC1 := Aside0.mk hc1; clear hr1 hc1; have HB := Aside0.mk (Below.refl w.heap.size w); have H : (if (l0.length : Int) = (l1.length : Int) then (laws_eqOutS.l0 k l0 l1 0) else (some false)) = some r := h; clear h
  by_cases c3 : (l0.length : Int) = (l1.length : Int)
  · rw [if_pos c3] at H; have c3b0 : ((l0.length : Int) == (l1.length : Int)) = true := beq_iff_eq.mpr c3; have c3b1 : ((l0.length : Int) != (l1.length : Int)) = false := bne_eq_false_iff_eq.mpr c3
    have c3b2 : (l0.length == l1.length) = true := by first | simpa using c3 | (simp at c3 ⊢; omega)
    clear c3; have H' := Aside0.mk H; clear H
    go_enter Try.func40, Try.ntmps40
    go_wp2
    go_loopg [5] k (fun kq v5 w' => ∃ (x5_1 : Int), v5 = .int .i64 x5_1 ∧ Aside0 (laws_eqOutS.l0 kq l0 l1 x5_1 = some r) ∧ Aside0 (kq ≤ k) ∧ Aside0 (Below w.heap.size w w'))
    case atStart => exact ⟨(0), fg, H', ⟨Nat.le_refl _⟩, ⟨bs HB⟩⟩
    case round =>
      clear H'
      try clear c1
      try clear p2
      try clear c3
      try clear c3b0
      try clear c3b1
      try clear c3b2
      obtain ⟨x5_1, rfl, HA, HK1, HB⟩ := hrel
      cases gk with
      | zero => exact absurd HA.out (by simp [laws_eqOutS.l0])
      | succ k1 =>
        have H := HA.out; clear HA; simp only [laws_eqOutS.l0] at H
        by_cases c4 : x5_1 < (l0.length : Int)
        · rw [if_pos c4] at H; have c4b0 : decide (x5_1 < (l0.length : Int)) = true := decide_eq_true c4; clear c4
          by_cases c5 : 0 ≤ x5_1
          · rw [if_pos c5] at H; have c5b0 : decide (0 ≤ x5_1) = true := decide_eq_true c5; clear c5
            by_cases c6 : x5_1 < (l1.length : Int)
            · rw [if_pos c6] at H; have c6b0 : decide (x5_1 < (l1.length : Int)) = true := decide_eq_true c6; clear c6; replace H := Option.bind_eq_some_iff.mp H; obtain ⟨t235, A70, H⟩ := H; replace H : (if t235 = true then (laws_eqOutS.l0 k1 l0 l1 (wrap64 (x5_1 + 1))) else (some false)) = some r := H; have A7 := Aside0.mk A70; clear A70
              by_cases c8 : t235 = true
              · subst c8
                have H1 : (laws_eqOutS.l0 k1 l0 l1 (wrap64 (x5_1 + 1))) = some r := by rw [if_pos rfl] at H; exact H
                clear H; have H := H1; clear H1; have H' := Aside0.mk H; clear H
                try go_wp2
                replace HB := Aside0.mk (below_drew1 HB.out); have p233 : 0 ≤ (x5_1 : Int) := oa; have q233 : x5_1 < (l0.length : Int) := oa; obtain ⟨ad233, e233, hx233_0, hx233_1, hx233_2, hx233_3, hx233_4⟩ := at_T24 HR0.out x5_1 p233 q233; have hw233_4 := hx233_4; have hw233_3 := hx233_3; have hw233_2 := hx233_2; have hw233_1 := hx233_1; have hw233_0 := hx233_0
                cases e233
                replace hx233_0 := cb HB hx233_0; replace hx233_1 := cb HB hx233_1; replace hx233_2 := cb HB hx233_2; replace hx233_3 := cb HB hx233_3; replace hx233_4 := cb HB hx233_4; replace p233 := eq_true p233; replace q233 := eq_true q233; have p234 : 0 ≤ (x5_1 : Int) := oa; have q234 : x5_1 < (l1.length : Int) := oa; obtain ⟨ad234, e234, hx234_0, hx234_1, hx234_2, hx234_3, hx234_4⟩ := at_T24 HR1.out x5_1 p234 q234; have hw234_4 := hx234_4; have hw234_3 := hx234_3; have hw234_2 := hx234_2; have hw234_1 := hx234_1; have hw234_0 := hx234_0
                cases e234
                replace hx234_0 := cb HB hx234_0; replace hx234_1 := cb HB hx234_1; replace hx234_2 := cb HB hx234_2; replace hx234_3 := cb HB hx234_3; replace hx234_4 := cb HB hx234_4; replace p234 := eq_true p234; replace q234 := eq_true q234; refine start_ (n := 10) (S := fun w' => w'.cell? (ad233.add ((x5_1).toNat * 5)) = some (.string ((rd_T24 l0 x5_1).f0)) ∧ w'.cell? ⟨(ad233.add ((x5_1).toNat * 5)).block, (ad233.add ((x5_1).toNat * 5)).off + 1, none⟩ = some (.int .i64 ((rd_T24 l0 x5_1).f1)) ∧ w'.cell? ⟨(ad233.add ((x5_1).toNat * 5)).block, (ad233.add ((x5_1).toNat * 5)).off + 2, none⟩ = some (.string ((rd_T24 l0 x5_1).f2)) ∧ w'.cell? ⟨(ad233.add ((x5_1).toNat * 5)).block, (ad233.add ((x5_1).toNat * 5)).off + 3, none⟩ = some (.int .i64 ((rd_T24 l0 x5_1).f3)) ∧ w'.cell? ⟨(ad233.add ((x5_1).toNat * 5)).block, (ad233.add ((x5_1).toNat * 5)).off + 4, none⟩ = some (.int .i64 ((rd_T24 l0 x5_1).f4)) ∧ w'.cell? (ad234.add ((x5_1).toNat * 5)) = some (.string ((rd_T24 l1 x5_1).f0)) ∧ w'.cell? ⟨(ad234.add ((x5_1).toNat * 5)).block, (ad234.add ((x5_1).toNat * 5)).off + 1, none⟩ = some (.int .i64 ((rd_T24 l1 x5_1).f1)) ∧ w'.cell? ⟨(ad234.add ((x5_1).toNat * 5)).block, (ad234.add ((x5_1).toNat * 5)).off + 2, none⟩ = some (.string ((rd_T24 l1 x5_1).f2)) ∧ w'.cell? ⟨(ad234.add ((x5_1).toNat * 5)).block, (ad234.add ((x5_1).toNat * 5)).off + 3, none⟩ = some (.int .i64 ((rd_T24 l1 x5_1).f3)) ∧ w'.cell? ⟨(ad234.add ((x5_1).toNat * 5)).block, (ad234.add ((x5_1).toNat * 5)).off + 4, none⟩ = some (.int .i64 ((rd_T24 l1 x5_1).f4))) (ds := []) #[false, false, false, false, false, false, false, false, false, false] (by kernel_rfl) rfl rfl ⟨((cb HB hw233_0).trans rfl), ((cb HB hw233_1).trans rfl), ((cb HB hw233_2).trans rfl), ((cb HB hw233_3).trans rfl), ((cb HB hw233_4).trans rfl), ((cb HB hw234_0).trans rfl), ((cb HB hw234_1).trans rfl), ((cb HB hw234_2).trans rfl), ((cb HB hw234_3).trans rfl), ((cb HB hw234_4).trans rfl)⟩ (fun hHeld => ?_); refine with_tabW laws_eqOutS.tab6 laws_eqOutS.bits6 (fun HT_ HW_ => ?_)
                generalize wr.drew = w9 at HB hx233_0 hx233_1 hx233_2 hx233_3 hx233_4 hx234_0 hx234_1 hx234_2 hx234_3 hx234_4 hHeld ⊢
                refine pA 0 17 HT_ ?_; refine pA 1 18 HT_ ?_; refine pA 2 19 HT_ ?_; refine pA 4 21 HT_ ?_; refine pA 5 22 HT_ ?_; refine pA 6 23 HT_ ?_; refine tA 3 20 HT_ HW_ hHeld ?_; refine tA 7 24 HT_ HW_ hHeld ?_; refine oA 8 25 HT_ (fun K hK => ?_); refine gA Try.func104 #[.agg #[.string ((rd_T24 l0 x5_1).f0), .int .i64 ((rd_T24 l0 x5_1).f1), .string ((rd_T24 l0 x5_1).f2), .int .i64 ((rd_T24 l0 x5_1).f3), .int .i64 ((rd_T24 l0 x5_1).f4)], .agg #[.string ((rd_T24 l1 x5_1).f0), .int .i64 ((rd_T24 l1 x5_1).f1), .string ((rd_T24 l1 x5_1).f2), .int .i64 ((rd_T24 l1 x5_1).f3), .int .i64 ((rd_T24 l1 x5_1).f4)]] ?_; (with_reducible refine (laws_eqOut.calls ((rd_T24 l0 x5_1).f0) ((rd_T24 l0 x5_1).f1) ((rd_T24 l0 x5_1).f2) ((rd_T24 l0 x5_1).f3) ((rd_T24 l0 x5_1).f4) ((rd_T24 l1 x5_1).f0) ((rd_T24 l1 x5_1).f1) ((rd_T24 l1 x5_1).f2) ((rd_T24 l1 x5_1).f3) ((rd_T24 l1 x5_1).f4) true _ A7.out).mono ?_); rintro e w10 ⟨rfl, hb⟩; refine ⟨_, rfl, ?_⟩; replace HB := Aside0.mk (below_step (bs HB) hb); (try clear hb); (try clear hb2); (try clear hk); (try clear hi); refine hK.out _ _ ⟨((cb HB hw233_0).trans rfl), ((cb HB hw233_1).trans rfl), ((cb HB hw233_2).trans rfl), ((cb HB hw233_3).trans rfl), ((cb HB hw233_4).trans rfl), ((cb HB hw234_0).trans rfl), ((cb HB hw234_1).trans rfl), ((cb HB hw234_2).trans rfl), ((cb HB hw234_3).trans rfl), ((cb HB hw234_4).trans rfl)⟩ (fun hHeld => ?_); clear hK K; refine nA 25 ?_; refine pA 9 26 HT_ ?_; refine done_ (done_of HT_.out (by kernel_rfl)) ?_
                try go_wp2
                go_roundg k1
                case measure => have := HK1.out; omega
                case rel => exact ⟨(wrap64 (x5_1 + 1)), fg, H', ⟨by have := HK1.out; omega⟩, ⟨bs HB⟩⟩
              · replace c8 := Bool.eq_false_iff.mpr c8; subst c8
                have H1 : (some false) = some r := by rw [if_neg (show ¬ (false = true) by decide)] at H; exact H
                clear H; have H := H1; clear H1; obtain rfl := Option.some.inj H
                try go_wp2
                replace HB := Aside0.mk (below_drew1 HB.out); have p233 : 0 ≤ (x5_1 : Int) := oa; have q233 : x5_1 < (l0.length : Int) := oa; obtain ⟨ad233, e233, hx233_0, hx233_1, hx233_2, hx233_3, hx233_4⟩ := at_T24 HR0.out x5_1 p233 q233; have hw233_4 := hx233_4; have hw233_3 := hx233_3; have hw233_2 := hx233_2; have hw233_1 := hx233_1; have hw233_0 := hx233_0
                cases e233
                replace hx233_0 := cb HB hx233_0; replace hx233_1 := cb HB hx233_1; replace hx233_2 := cb HB hx233_2; replace hx233_3 := cb HB hx233_3; replace hx233_4 := cb HB hx233_4; replace p233 := eq_true p233; replace q233 := eq_true q233; have p234 : 0 ≤ (x5_1 : Int) := oa; have q234 : x5_1 < (l1.length : Int) := oa; obtain ⟨ad234, e234, hx234_0, hx234_1, hx234_2, hx234_3, hx234_4⟩ := at_T24 HR1.out x5_1 p234 q234; have hw234_4 := hx234_4; have hw234_3 := hx234_3; have hw234_2 := hx234_2; have hw234_1 := hx234_1; have hw234_0 := hx234_0
                cases e234
                replace hx234_0 := cb HB hx234_0; replace hx234_1 := cb HB hx234_1; replace hx234_2 := cb HB hx234_2; replace hx234_3 := cb HB hx234_3; replace hx234_4 := cb HB hx234_4; replace p234 := eq_true p234; replace q234 := eq_true q234; refine start_ (n := 10) (S := fun w' => w'.cell? (ad233.add ((x5_1).toNat * 5)) = some (.string ((rd_T24 l0 x5_1).f0)) ∧ w'.cell? ⟨(ad233.add ((x5_1).toNat * 5)).block, (ad233.add ((x5_1).toNat * 5)).off + 1, none⟩ = some (.int .i64 ((rd_T24 l0 x5_1).f1)) ∧ w'.cell? ⟨(ad233.add ((x5_1).toNat * 5)).block, (ad233.add ((x5_1).toNat * 5)).off + 2, none⟩ = some (.string ((rd_T24 l0 x5_1).f2)) ∧ w'.cell? ⟨(ad233.add ((x5_1).toNat * 5)).block, (ad233.add ((x5_1).toNat * 5)).off + 3, none⟩ = some (.int .i64 ((rd_T24 l0 x5_1).f3)) ∧ w'.cell? ⟨(ad233.add ((x5_1).toNat * 5)).block, (ad233.add ((x5_1).toNat * 5)).off + 4, none⟩ = some (.int .i64 ((rd_T24 l0 x5_1).f4)) ∧ w'.cell? (ad234.add ((x5_1).toNat * 5)) = some (.string ((rd_T24 l1 x5_1).f0)) ∧ w'.cell? ⟨(ad234.add ((x5_1).toNat * 5)).block, (ad234.add ((x5_1).toNat * 5)).off + 1, none⟩ = some (.int .i64 ((rd_T24 l1 x5_1).f1)) ∧ w'.cell? ⟨(ad234.add ((x5_1).toNat * 5)).block, (ad234.add ((x5_1).toNat * 5)).off + 2, none⟩ = some (.string ((rd_T24 l1 x5_1).f2)) ∧ w'.cell? ⟨(ad234.add ((x5_1).toNat * 5)).block, (ad234.add ((x5_1).toNat * 5)).off + 3, none⟩ = some (.int .i64 ((rd_T24 l1 x5_1).f3)) ∧ w'.cell? ⟨(ad234.add ((x5_1).toNat * 5)).block, (ad234.add ((x5_1).toNat * 5)).off + 4, none⟩ = some (.int .i64 ((rd_T24 l1 x5_1).f4))) (ds := []) #[false, false, false, false, false, false, false, false, false, false] (by kernel_rfl) rfl rfl ⟨((cb HB hw233_0).trans rfl), ((cb HB hw233_1).trans rfl), ((cb HB hw233_2).trans rfl), ((cb HB hw233_3).trans rfl), ((cb HB hw233_4).trans rfl), ((cb HB hw234_0).trans rfl), ((cb HB hw234_1).trans rfl), ((cb HB hw234_2).trans rfl), ((cb HB hw234_3).trans rfl), ((cb HB hw234_4).trans rfl)⟩ (fun hHeld => ?_); refine with_tabW laws_eqOutS.tab6 laws_eqOutS.bits6 (fun HT_ HW_ => ?_)
                generalize wr.drew = w11 at HB hx233_0 hx233_1 hx233_2 hx233_3 hx233_4 hx234_0 hx234_1 hx234_2 hx234_3 hx234_4 hHeld ⊢
                refine pA 0 17 HT_ ?_; refine pA 1 18 HT_ ?_; refine pA 2 19 HT_ ?_; refine pA 4 21 HT_ ?_; refine pA 5 22 HT_ ?_; refine pA 6 23 HT_ ?_; refine tA 3 20 HT_ HW_ hHeld ?_; refine tA 7 24 HT_ HW_ hHeld ?_; refine oA 8 25 HT_ (fun K hK => ?_); refine gA Try.func104 #[.agg #[.string ((rd_T24 l0 x5_1).f0), .int .i64 ((rd_T24 l0 x5_1).f1), .string ((rd_T24 l0 x5_1).f2), .int .i64 ((rd_T24 l0 x5_1).f3), .int .i64 ((rd_T24 l0 x5_1).f4)], .agg #[.string ((rd_T24 l1 x5_1).f0), .int .i64 ((rd_T24 l1 x5_1).f1), .string ((rd_T24 l1 x5_1).f2), .int .i64 ((rd_T24 l1 x5_1).f3), .int .i64 ((rd_T24 l1 x5_1).f4)]] ?_; (with_reducible refine (laws_eqOut.calls ((rd_T24 l0 x5_1).f0) ((rd_T24 l0 x5_1).f1) ((rd_T24 l0 x5_1).f2) ((rd_T24 l0 x5_1).f3) ((rd_T24 l0 x5_1).f4) ((rd_T24 l1 x5_1).f0) ((rd_T24 l1 x5_1).f1) ((rd_T24 l1 x5_1).f2) ((rd_T24 l1 x5_1).f3) ((rd_T24 l1 x5_1).f4) false _ A7.out).mono ?_); rintro e w12 ⟨rfl, hb⟩; refine ⟨_, rfl, ?_⟩; replace HB := Aside0.mk (below_step (bs HB) hb); (try clear hb); (try clear hb2); (try clear hk); (try clear hi); refine hK.out _ _ ⟨((cb HB hw233_0).trans rfl), ((cb HB hw233_1).trans rfl), ((cb HB hw233_2).trans rfl), ((cb HB hw233_3).trans rfl), ((cb HB hw233_4).trans rfl), ((cb HB hw234_0).trans rfl), ((cb HB hw234_1).trans rfl), ((cb HB hw234_2).trans rfl), ((cb HB hw234_3).trans rfl), ((cb HB hw234_4).trans rfl)⟩ (fun hHeld => ?_); clear hK K; refine nA 25 ?_; refine pA 9 26 HT_ ?_; refine done_ (done_of HT_.out (by kernel_rfl)) ?_
                try go_wp2
                go_ret
                exact ⟨ff, bs HB⟩
            · rw [if_neg c6] at H
              exact absurd H (by simp)
          · rw [if_neg c5] at H
            exact absurd H (by simp)
        · rw [if_neg c4] at H; have c4b0 : decide (x5_1 < (l0.length : Int)) = false := decide_eq_false c4; clear c4; obtain rfl := Option.some.inj H
          go_wp2
          go_ret
          exact ⟨ff, bs HB⟩
  · rw [if_neg c3] at H; have c3b0 : ((l0.length : Int) == (l1.length : Int)) = false := beq_eq_false_iff_ne.mpr c3; have c3b1 : ((l0.length : Int) != (l1.length : Int)) = true := bne_iff_ne.mpr c3
    have c3b2 : (l0.length == l1.length) = false := by first | simpa using c3 | (simp at c3 ⊢; omega)
    obtain rfl := Option.some.inj H
    go_enter Try.func40, Try.ntmps40
    go_wp2
    go_ret
    exact ⟨ff, bs HB⟩
end Go.Proofs.Ytefmkmhjbfpelaa.QO
namespace Go.Proofs.Ytefmkmhjbfpelaa.QO
open Go.RowKit Go.Proofs.YtefmkmhjbfpelaaW.PrintWords Go.Proofs.YtefmkmhjbfpelaaW.PrintLast Go.Proofs.YtefmkmhjbfpelaaW.PrintMore
attribute [local go_sem] max2_int min2_int max_two min_two max_three min_three max_four min_four   -- for this text's walks alone
set_option linter.unusedVariables false
set_option linter.unusedSimpArgs false
set_option maxHeartbeats 8000000 in
set_option maxRecDepth 100000 in
theorem laws_eqSent.calls (a0_0 : ByteArray) (a0_1 : Int) (a0_2 : ByteArray) (a1_0 : ByteArray) (a1_1 : Int) (a1_2 : ByteArray) (r : Bool) (w : World) (h : laws_eqSent.f a0_0 a0_1 a0_2 a1_0 a1_1 a1_2 = some r) :
    Calls Try.prog 149 #[.agg #[.string a0_0, .int .i64 a0_1, .string a0_2], .agg #[.string a1_0, .int .i64 a1_1, .string a1_2]] w fun e w' => e = .returned (.bool r) ∧ Below w.heap.size w w' := by
  have hu105 := Try.underlying105; have HB := Aside0.mk (Below.refl w.heap.size w); have H : (if a0_0.toList = a1_0.toList then (if a0_1 = a1_1 then (if a0_2.toList = a1_2.toList then (some true) else (some false)) else (some false)) else (some false)) = some r := h; clear h
  by_cases c3 : a0_0.toList = a1_0.toList
  · rw [if_pos c3] at H; have c3b0 : (a0_0.toList == a1_0.toList) = true := beq_iff_eq.mpr c3; have c3b1 : (a0_0.toList != a1_0.toList) = false := bne_eq_false_iff_eq.mpr c3; clear c3
    by_cases c4 : a0_1 = a1_1
    · rw [if_pos c4] at H; have c4b0 : (a0_1 == a1_1) = true := beq_iff_eq.mpr c4; have c4b1 : (a0_1 != a1_1) = false := bne_eq_false_iff_eq.mpr c4; clear c4
      by_cases c5 : a0_2.toList = a1_2.toList
      · rw [if_pos c5] at H; have c5b0 : (a0_2.toList == a1_2.toList) = true := beq_iff_eq.mpr c5; have c5b1 : (a0_2.toList != a1_2.toList) = false := bne_eq_false_iff_eq.mpr c5; clear c5; obtain rfl := Option.some.inj H
        go_enter Try.func149, Try.ntmps149
        go_wp2_with (first | ((with_reducible refine gate_dst (N := 2) rfl ?_); refine bx 2 (cs := #[.string a0_0, .int .i64 a0_1, .string a0_2]) (t := 105) ?_; intro gb236 hg w6 hbox hb; have BK236 := Aside0.mk (hbox); have GW236 := Aside0.mk ((gs hg (bs HB))); have GE236 := Aside0.mk ((gs hg (bs HB))); replace HB := Aside0.mk (below_step (bs HB) hb); clear hb hbox hg) | ((with_reducible refine gate_dst (N := 3) rfl ?_); refine bx 3 (cs := #[.string a1_0, .int .i64 a1_1, .string a1_2]) (t := 105) ?_; intro gb237 hg w7 hbox hb; have BK237 := Aside0.mk (hbox); have GW237 := Aside0.mk ((gs hg (bs HB))); have GE237 := Aside0.mk ((gs hg (bs HB))); replace HB := Aside0.mk (below_step (bs HB) hb); have NB236_237 := Aside0.mk ((gn hg (ks BK236))); have NB237_236 := Aside0.mk ((gm hg (ks BK236))); replace BK236 := Aside0.mk (blk_below (ks BK236) hb); clear hb hbox hg; have hnb8 := NB236_237.out; have hnc8 := NB237_236.out; obtain ⟨hcz9_0, hcz9_1, hcz9_2, hfz9_0, hfz9_1, hfz9_2⟩ := cf3 BK236; obtain ⟨hcz10_0, hcz10_1, hcz10_2, hfz10_0, hfz10_1, hfz10_2⟩ := cf3 BK237))
        go_ret
        exact ⟨ff, bs HB⟩
      · rw [if_neg c5] at H; have c5b0 : (a0_2.toList == a1_2.toList) = false := beq_eq_false_iff_ne.mpr c5; have c5b1 : (a0_2.toList != a1_2.toList) = true := bne_iff_ne.mpr c5; obtain rfl := Option.some.inj H
        go_enter Try.func149, Try.ntmps149
        go_wp2_with (first | ((with_reducible refine gate_dst (N := 2) rfl ?_); refine bx 2 (cs := #[.string a0_0, .int .i64 a0_1, .string a0_2]) (t := 105) ?_; intro gb236 hg w11 hbox hb; have BK236 := Aside0.mk (hbox); have GW236 := Aside0.mk ((gs hg (bs HB))); have GE236 := Aside0.mk ((gs hg (bs HB))); replace HB := Aside0.mk (below_step (bs HB) hb); clear hb hbox hg) | ((with_reducible refine gate_dst (N := 3) rfl ?_); refine bx 3 (cs := #[.string a1_0, .int .i64 a1_1, .string a1_2]) (t := 105) ?_; intro gb237 hg w12 hbox hb; have BK237 := Aside0.mk (hbox); have GW237 := Aside0.mk ((gs hg (bs HB))); have GE237 := Aside0.mk ((gs hg (bs HB))); replace HB := Aside0.mk (below_step (bs HB) hb); have NB236_237 := Aside0.mk ((gn hg (ks BK236))); have NB237_236 := Aside0.mk ((gm hg (ks BK236))); replace BK236 := Aside0.mk (blk_below (ks BK236) hb); clear hb hbox hg; have hnb13 := NB236_237.out; have hnc13 := NB237_236.out; obtain ⟨hcz14_0, hcz14_1, hcz14_2, hfz14_0, hfz14_1, hfz14_2⟩ := cf3 BK236; obtain ⟨hcz15_0, hcz15_1, hcz15_2, hfz15_0, hfz15_1, hfz15_2⟩ := cf3 BK237))
        go_ret
        exact ⟨ff, bs HB⟩
    · rw [if_neg c4] at H; have c4b0 : (a0_1 == a1_1) = false := beq_eq_false_iff_ne.mpr c4; have c4b1 : (a0_1 != a1_1) = true := bne_iff_ne.mpr c4; obtain rfl := Option.some.inj H
      go_enter Try.func149, Try.ntmps149
      go_wp2_with (first | ((with_reducible refine gate_dst (N := 2) rfl ?_); refine bx 2 (cs := #[.string a0_0, .int .i64 a0_1, .string a0_2]) (t := 105) ?_; intro gb236 hg w16 hbox hb; have BK236 := Aside0.mk (hbox); have GW236 := Aside0.mk ((gs hg (bs HB))); have GE236 := Aside0.mk ((gs hg (bs HB))); replace HB := Aside0.mk (below_step (bs HB) hb); clear hb hbox hg) | ((with_reducible refine gate_dst (N := 3) rfl ?_); refine bx 3 (cs := #[.string a1_0, .int .i64 a1_1, .string a1_2]) (t := 105) ?_; intro gb237 hg w17 hbox hb; have BK237 := Aside0.mk (hbox); have GW237 := Aside0.mk ((gs hg (bs HB))); have GE237 := Aside0.mk ((gs hg (bs HB))); replace HB := Aside0.mk (below_step (bs HB) hb); have NB236_237 := Aside0.mk ((gn hg (ks BK236))); have NB237_236 := Aside0.mk ((gm hg (ks BK236))); replace BK236 := Aside0.mk (blk_below (ks BK236) hb); clear hb hbox hg; have hnb18 := NB236_237.out; have hnc18 := NB237_236.out; obtain ⟨hcz19_0, hcz19_1, hcz19_2, hfz19_0, hfz19_1, hfz19_2⟩ := cf3 BK236; obtain ⟨hcz20_0, hcz20_1, hcz20_2, hfz20_0, hfz20_1, hfz20_2⟩ := cf3 BK237))
      go_ret
      exact ⟨ff, bs HB⟩
  · rw [if_neg c3] at H; have c3b0 : (a0_0.toList == a1_0.toList) = false := beq_eq_false_iff_ne.mpr c3; have c3b1 : (a0_0.toList != a1_0.toList) = true := bne_iff_ne.mpr c3; obtain rfl := Option.some.inj H
    go_enter Try.func149, Try.ntmps149
    go_wp2_with (first | ((with_reducible refine gate_dst (N := 2) rfl ?_); refine bx 2 (cs := #[.string a0_0, .int .i64 a0_1, .string a0_2]) (t := 105) ?_; intro gb236 hg w21 hbox hb; have BK236 := Aside0.mk (hbox); have GW236 := Aside0.mk ((gs hg (bs HB))); have GE236 := Aside0.mk ((gs hg (bs HB))); replace HB := Aside0.mk (below_step (bs HB) hb); clear hb hbox hg) | ((with_reducible refine gate_dst (N := 3) rfl ?_); refine bx 3 (cs := #[.string a1_0, .int .i64 a1_1, .string a1_2]) (t := 105) ?_; intro gb237 hg w22 hbox hb; have BK237 := Aside0.mk (hbox); have GW237 := Aside0.mk ((gs hg (bs HB))); have GE237 := Aside0.mk ((gs hg (bs HB))); replace HB := Aside0.mk (below_step (bs HB) hb); have NB236_237 := Aside0.mk ((gn hg (ks BK236))); have NB237_236 := Aside0.mk ((gm hg (ks BK236))); replace BK236 := Aside0.mk (blk_below (ks BK236) hb); clear hb hbox hg; have hnb23 := NB236_237.out; have hnc23 := NB237_236.out; obtain ⟨hcz24_0, hcz24_1, hcz24_2, hfz24_0, hfz24_1, hfz24_2⟩ := cf3 BK236; obtain ⟨hcz25_0, hcz25_1, hcz25_2, hfz25_0, hfz25_1, hfz25_2⟩ := cf3 BK237))
    go_ret
    exact ⟨ff, bs HB⟩
end Go.Proofs.Ytefmkmhjbfpelaa.QO
