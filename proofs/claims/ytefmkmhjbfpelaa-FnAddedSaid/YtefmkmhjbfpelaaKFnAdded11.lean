-- Merged by a program of this session (wip/tool/pack.py) out of its own texts for this claim.
import Derived.Test.YtefmkmhjbfpelaaKFnAdded0
import Derived.Test.YtefmkmhjbfpelaaKFnAdded1
import Derived.Test.YtefmkmhjbfpelaaKFnAdded2
import Derived.Test.YtefmkmhjbfpelaaKFnAdded6
import Derived.Test.YtefmkmhjbfpelaaKFnAdded8
import Derived.Test.YtefmkmhjbfpelaaKFnAdded9
import Derived.Test.YtefmkmhjbfpelaaKFnAdded10
namespace Go.Proofs.Ytefmkmhjbfpelaa.QP
open Go.RowKit Go.Proofs.YtefmkmhjbfpelaaW.PrintWords Go.Proofs.YtefmkmhjbfpelaaW.PrintLast Go.Proofs.YtefmkmhjbfpelaaW.PrintMore
attribute [local go_sem] max2_int min2_int max_two min_two max_three min_three max_four min_four   -- for this text's walks alone
set_option linter.unusedVariables false
set_option linter.unusedSimpArgs false
set_option maxHeartbeats 8000000 in
set_option maxRecDepth 100000 in
theorem slices_Clone_implOrderLine.calls (A0 : Option Addr) (c0 : Nat) (l0 : List S54) (r : List S54) (w : World) (hr0 : Kd.C k54 w A0 l0.length l0) (hc0 : l0.length ≤ c0) (h : slices_Clone_implOrderLine.f l0 = some r) :
    Calls Try.prog 99 #[.slice A0 l0.length c0] w fun e w' => ∃ v0_ : Value, e = .returned (v0_) ∧ Kd.R k54 54 w' w.heap.size (fun _ => True) v0_ r ∧ Below w.heap.size w w' := by
  unfold slices_Clone_implOrderLine.f at h
  by_cases hl : l0.length < 1599289640401
  · rw [if_pos hl] at h
    obtain rfl := Option.some.inj h
    cases A0 with
    | none =>
      have h0 : l0.length = 0 := by
        by_cases g : 0 < l0.length
        · obtain ⟨ad, e, _⟩ := hr0.2.2 g
          cases e
        · omega
      obtain rfl : l0 = [] := List.eq_nil_of_length_eq_zero h0; clear hr0 hl h h0
      have hq : ∀ W, (binOp .eql 45 (.slice none 0 c0) (.slice none 0 0)).run Try.prog W = .ok (.bool true) W := fun W => Lib.run_eql_slice_nil W _ _ none _ _ _ _ Try.underlying45
      simp only [List.length_nil]
      go_enter Try.func99, Try.ntmps99
      go_wp2
      go_ret
      exact ⟨_, rfl, Kd.R_nil _ _ _ _ _, Below.refl _ _⟩
    | some a0 =>
      have HB := Aside0.mk (Below.refl w.heap.size w); have HR0 := Aside0.mk hr0; have HL := Aside0.mk hl; clear hr0 hl h hc0
      have hq : ∀ W, (binOp .eql 45 (.slice (some a0) l0.length c0) (.slice none 0 0)).run Try.prog W = .ok (.bool false) W := fun W => Lib.run_eql_slice_nil W _ _ (some a0) _ _ _ _ Try.underlying45
      go_enter Try.func99, Try.ntmps99
      go_wp2_with (first | ((with_reducible refine gate_dst (N := 5) rfl ?_); refine Kd.R_lit k54 _ 54 ?hg (N := 5) ?hd (xs := ([] : List S54)) (inner := []) (ok := fun _ => True) (okp := fun _ => True) ?hr ?hp (fun _ hk => hk) trivial (Below.refl _ _) (Nat.le_refl _) (by simp) ?_; (case hd => rfl); (case hg => rfl); (case hr => first | (go_simp; done) | (go_simp; rfl)); (case hp => exact (Reps.none _ _)); intro v1 w5 ho6 hb hg_ hnew_; clear hg_ hnew_; have HO1 := Aside0.mk (Kd.R_lower ho6 (below_size (bs HB))); replace HB := Aside0.mk (below_step (bs HB) hb); clear hb ho6) | ((with_reducible refine gate_builtin (b := .append) (xs := #[.tmp 5, .tmp 6]) rfl ?_); at_builtin; refine Kd.R_append_rows k54 (w0 := w) w.heap.size rfl (.tmp 5) (.tmp 6) 45 54 ((.agg #[(.string ⟨#[]⟩), (.string ⟨#[]⟩), (.int .i64 0), (.string ⟨#[]⟩), (.int .i64 0), (.int .i64 0), (.int .i64 0), (.int .i64 0)])) 88 rfl Try.underlying45 info54 rfl (by decide) (by omega) v1 [] l0 _ _ _ (fun _ => True) (fun _ => False) rfl rfl ?aO ?aR (fun _ _ h => h) (fun _ h => h.elim) ?aF ?aB ?aS ?aL ?_; (case aR => repeat (first | exact (Kd.C_below HR0.out HB.out) | (with_reducible refine Kd.C_alloc ?_ _) | (with_reducible refine Kd.C_drewN ?_ _) | (with_reducible refine Kd.C_drew ?_))); (case aB => exact (bs HB)); (case aF => exact (fun _ _ => trivial)); (case aO => exact (rs HO1)); (case aS => exact (below_size (bs HB))); (case aL => have := HL.out; simp only [List.length_nil]; omega); intro v2 w6 ho hb hg hat; have HO2 := Aside0.mk ho; replace HB := Aside0.mk hb; clear ho hb hg hat HO1))
      go_ret
      exact ⟨_, rfl, by (with_reducible repeat (first | apply Kd.R_alloc | apply Kd.R_drewN | apply Kd.R_drew)); exact HO2.out, bs HB⟩
  · rw [if_neg hl] at h
    cases h
end Go.Proofs.Ytefmkmhjbfpelaa.QP
namespace Go.Proofs.Ytefmkmhjbfpelaa.QP
open Go.RowKit Go.Proofs.YtefmkmhjbfpelaaW.PrintWords Go.Proofs.YtefmkmhjbfpelaaW.PrintLast Go.Proofs.YtefmkmhjbfpelaaW.PrintMore
attribute [local go_sem] max2_int min2_int max_two min_two max_three min_three max_four min_four   -- for this text's walks alone
set_option linter.unusedVariables false
set_option linter.unusedSimpArgs false
set_option maxHeartbeats 8000000 in
set_option maxRecDepth 100000 in
theorem slices_Insert_implOrderLine_end (P0_ : Nat → Prop) (u : Value) (l0 : List S54) (P2_ : Nat → Prop) (u2 : Value) (l2 : List S54) (w0 w : World) (hB : Below w0.heap.size w0 w) (ho0 : Kd.R k54 54 w w0.heap.size P0_ u l0) (ho2 : Kd.R k54 54 w w0.heap.size P2_ u2 l2) (hl : l0.length + 1 < 1599289640401) (h1 : l2.length = 1) :
    Calls Try.prog 100 #[u, .int .i64 l0.length, u2] w fun e w' => ∃ v0_ : Value, e = .returned (v0_) ∧ Kd.R k54 54 w' w0.heap.size (fun k_ => ((P0_ k_ ∨ P2_ k_) ∨ w.heap.size ≤ k_)) v0_ (l0 ++ l2) ∧ Below w0.heap.size w0 w' ∧ Kept w w' (fun k_ => P0_ k_ ∨ P2_ k_) := by
  have HB := Aside0.mk hB; have HO := Aside0.mk (show Kd.R k54 54 w w0.heap.size (fun k_ => P0_ k_ ∨ w.heap.size ≤ k_) u l0 from Kd.R_mono ho0 (fun k hk => .inl hk)); have HP := Aside0.mk ho0; have HL := Aside0.mk hl; obtain ⟨A2, c2, rfl, hc2, hC2⟩ := Kd.R_reads ho2; have HC := Aside0.mk hC2; rw [h1]
  rw [h1] at HC hc2
  have HZ := Aside0.mk hB.size
  have hs : (u = .slice none 0 0 ∧ l0.length = 0) ∨ ∃ g cap, u = .slice (some ⟨g, 0, none⟩) l0.length cap ∧ l0.length ≤ cap := by
    obtain ⟨_, inner, hown, _⟩ := ho0
    rcases hown.2 with h | ⟨g, cap, cur, e, _, _, hle, _⟩
    · exact .inl h
    · exact .inr ⟨g, cap, e, hle⟩
  clear hB ho0 ho2 hl hC2 hc2; have key : ∀ (u : Value), Aside0 (Kd.R k54 54 w w0.heap.size (fun k_ => P0_ k_ ∨ w.heap.size ≤ k_) u l0) → Aside0 (Kd.R k54 54 w w0.heap.size P0_ u l0) →
      ((u = .slice none 0 0 ∧ l0.length = 0) ∨ ∃ g cap, u = .slice (some ⟨g, 0, none⟩) l0.length cap ∧ l0.length ≤ cap) → Calls Try.prog 100 #[u, .int .i64 l0.length, .slice A2 1 c2] w fun e w' => ∃ v0_ : Value, e = .returned (v0_) ∧ Kd.R k54 54 w' w0.heap.size (fun k_ => ((P0_ k_ ∨ P2_ k_) ∨ w.heap.size ≤ k_)) v0_ (l0 ++ l2) ∧ Below w0.heap.size w0 w' ∧ Kept w w' (fun k_ => P0_ k_ ∨ P2_ k_) := by
    intro u HO HP hs
    rcases hs with ⟨e, h0⟩ | ⟨g, cap, e, hle⟩
    · subst e; rw [h0]; clear h0
      go_enter Try.func100, Try.ntmps100
      go_wp2_with ((with_reducible refine gate_builtin (b := .append) (xs := #[.tmp 23, .tmp 24]) rfl ?_); at_builtin; refine Kd.R_append_rows k54 (w0 := w0) w0.heap.size rfl (.tmp 23) (.tmp 24) 45 54 ((.agg #[(.string ⟨#[]⟩), (.string ⟨#[]⟩), (.int .i64 0), (.string ⟨#[]⟩), (.int .i64 0), (.int .i64 0), (.int .i64 0), (.int .i64 0)])) 88 rfl Try.underlying45 info54 rfl (by decide) (by omega) _ l0 l2 A2 1 c2 _ (fun _ => False) rfl rfl HO.out HC.out (fun _ _ h => h) (fun _ h => h.elim) (fun k hk => .inr hk) HB.out HZ.out (by have := HL.out; omega) ?_; intro v2 w6 ho hb hg hat; have HO2 := Aside0.mk ho; have HG := Aside0.mk hg; replace HB := Aside0.mk hb; clear ho hb hg hat)
      go_ret
      exact ⟨_, rfl, Kd.R_mono HO2.out (fun k hk => hk.elim (fun h => .inl (.inl h)) .inr), HB.out, Kept.of_grown HG.out (Kept.refl _ _) (fun k hk => by cases hk)⟩
    · subst e
      have hq : ¬ ((l0.length : Int) < 0) := by omega
      by_cases hcap : cap = l0.length
      · subst hcap
        go_enter Try.func100, Try.ntmps100
        go_wp2_with ((with_reducible refine gate_builtin (b := .append) (xs := #[.tmp 23, .tmp 24]) rfl ?_); at_builtin; refine Kd.R_append_rows k54 (w0 := w0) w0.heap.size rfl (.tmp 23) (.tmp 24) 45 54 ((.agg #[(.string ⟨#[]⟩), (.string ⟨#[]⟩), (.int .i64 0), (.string ⟨#[]⟩), (.int .i64 0), (.int .i64 0), (.int .i64 0), (.int .i64 0)])) 88 rfl Try.underlying45 info54 rfl (by decide) (by omega) (.slice (some ⟨g, 0, none⟩) l0.length l0.length) l0 l2 A2 1 c2 _ (fun _ => False) rfl rfl HO.out HC.out (fun _ _ h => h) (fun _ h => h.elim) (fun k hk => .inr hk) HB.out HZ.out (by have := HL.out; omega) ?_; intro v2 w6 ho hb hg hat; have HO2 := Aside0.mk ho; have HG := Aside0.mk hg; replace HB := Aside0.mk hb; clear ho hb hg hat)
        go_ret
        exact ⟨_, rfl, Kd.R_mono HO2.out (fun k hk => hk.elim (fun h => .inl (.inl h)) .inr), HB.out, Kept.of_grown HG.out (Kept.refl _ _) (fun k hk => .inl (.inl (HP.out.1 k hk)))⟩
      · skip
        go_enter Try.func100, Try.ntmps100
        go_wp2_with ((with_reducible refine gate_builtin (b := .append) (xs := #[.tmp 23, .tmp 24]) rfl ?_); at_builtin; refine Kd.R_append_rows k54 (w0 := w0) w0.heap.size rfl (.tmp 23) (.tmp 24) 45 54 ((.agg #[(.string ⟨#[]⟩), (.string ⟨#[]⟩), (.int .i64 0), (.string ⟨#[]⟩), (.int .i64 0), (.int .i64 0), (.int .i64 0), (.int .i64 0)])) 88 rfl Try.underlying45 info54 rfl (by decide) (by omega) (.slice (some ⟨g, 0, none⟩) l0.length cap) l0 l2 A2 1 c2 _ (fun _ => False) rfl rfl HO.out HC.out (fun _ _ h => h) (fun _ h => h.elim) (fun k hk => .inr hk) HB.out HZ.out (by have := HL.out; omega) ?_; intro v2 w6 ho hb hg hat; have HO2 := Aside0.mk ho; have HG := Aside0.mk hg; replace HB := Aside0.mk hb; clear ho hb hg hat)
        go_ret
        exact ⟨_, rfl, Kd.R_mono HO2.out (fun k hk => hk.elim (fun h => .inl (.inl h)) .inr), HB.out, Kept.of_grown HG.out (Kept.refl _ _) (fun k hk => .inl (.inl (HP.out.1 k hk)))⟩
  exact key u HO HP hs
set_option maxHeartbeats 8000000 in
set_option maxRecDepth 100000 in
theorem slices_Insert_implOrderLine_room (P0_ : Nat → Prop) (u : Value) (l0 : List S54) (P2_ : Nat → Prop) (u2 : Value) (l2 : List S54) (i g cap : Nat) (w0 w : World) (hB : Below w0.heap.size w0 w) (ho0 : Kd.R k54 54 w w0.heap.size P0_ u l0) (hp : ∀ k_, P0_ k_ → ¬ P2_ k_) (ho2 : Kd.R k54 54 w w0.heap.size P2_ u2 l2) (h1 : l2.length = 1) (hi : i < l0.length) (hu : u = .slice (some ⟨g, 0, none⟩) l0.length cap) (hroom : l0.length + 1 ≤ cap) :
    Calls Try.prog 100 #[u, .int .i64 i, u2] w fun e w' => ∃ v0_ : Value, e = .returned (v0_) ∧ Kd.R k54 54 w' w0.heap.size (fun k_ => ((P0_ k_ ∨ P2_ k_) ∨ w.heap.size ≤ k_)) v0_ (l0.take i ++ l2 ++ l0.drop i) ∧ Below w0.heap.size w0 w' ∧ Kept w w' (fun k_ => P0_ k_ ∨ P2_ k_) := by
  rcases r_row ho0 with ⟨_, h0⟩ | ⟨g', cap', cur, e1, hbg, hPg, hg, hle, hm, hs, hr0, hone0⟩
  · subst h0; simp at hi
  rw [hu] at e1
  injection e1 with e1a e1b e1c
  injection e1a with e1a
  injection e1a with e1a
  subst e1a e1c hu
  rcases r_row ho2 with ⟨_, h0⟩ | ⟨gv, capv, curv, rfl, hbgv, hPv, hgv, hlev, hmv, hsv, hrv, honev⟩
  · subst h0; simp at h1
  rw [h1] at hrv honev hlev ⊢
  have hne : gv ≠ g := fun e => hp g hPg (e ▸ hPv)
  have hsz : (k54).sz = 8 := rfl
  rw [hsz] at hs hr0 hone0 hrv honev hsv
  obtain ⟨V, hV⟩ : ∃ V, V = curv.toList.take (1 * 8) := ⟨_, rfl⟩
  rw [← hV] at hrv honev
  have hVl : V.length = 8 := by rw [hV, List.length_take]; simp; omega
  obtain ⟨C, hC⟩ : ∃ C, C = cur.toList := ⟨_, rfl⟩
  rw [← hC] at hr0 hone0
  have hCl : C.length = cap * 8 := by rw [hC]; simpa using hs
  have hg' : w.heap[g]? = some (.cells C.toArray 54 (0, 0)) := by rw [hC]; simpa using hg
  have hN : l0.length * 8 + 8 ≤ C.length := by rw [hCl]; omega
  obtain ⟨X, hX⟩ : ∃ X, X = (C.take (l0.length * 8)).drop (i * 8) := ⟨_, rfl⟩
  have hXl : X.length = (l0.length - i) * 8 := by rw [hX, List.length_drop, List.length_take]; omega
  have hXo : ∀ v ∈ X, v.oneCell' = true := fun v hv => hone0 v (List.mem_of_mem_drop (hX ▸ hv))
  obtain ⟨C1, hC1⟩ : ∃ C1, C1 = splice C (i * 8 + 8) X := ⟨_, rfl⟩; obtain ⟨C2, hC2⟩ : ∃ C2, C2 = splice C1 (i * 8) V := ⟨_, rfl⟩; have hfin := ins_room C (l0.length * 8) (i * 8) 8 V (by omega) hVl hN
  rw [← hX, ← hC1, ← hC2] at hfin
  have hC1l : C1.length = C.length := by rw [hC1]; exact length_splice _ _ _ (by omega)
  have hcp1 : ∀ W : World, W.heap = w.heap → ∀ ty dc sc, (Builtin.copy_ #[45, 45] ty #[.slice (some ⟨g, (i + 1) * 8, none⟩) (l0.length - i) dc, .slice (some ⟨g, i * 8, none⟩) (l0.length + 1 - i) sc]).run Try.prog W = .ok (goInt ((l0.length - i : Nat) : Int)) (W.setRow g C1.toArray) := by
    intro W hW ty dc sc
    have hmin : Nat.min (l0.length + 1 - i) (l0.length - i) = l0.length - i := by simp only [Nat.min_def]; split <;> omega
    have h := run_copyN (P := Try.prog) W 45 45 ty 54 8 g ((i + 1) * 8) (l0.length - i) dc ⟨g, i * 8, none⟩ (l0.length + 1 - i) sc C 54 X Try.underlying45 (info_sz info54)
      (by rw [hW]; exact hg') (by rw [hmin, hXl]) (cellrow (cur := C.toArray) (by rw [hW]; exact hg') _ _ (fun j v hj => by
        rw [hX, List.getElem?_drop, List.getElem?_take] at hj
        split at hj
        · simpa using hj
        · cases hj)) (by omega) hXo
    rw [hmin] at h
    rw [h, hC1]
    have e : (i + 1) * 8 = i * 8 + 8 := by omega
    rw [e]
  have hcp2 : ∀ W : World, W.heap = (w.setRow g C1.toArray).heap → ∀ ty dc, (Builtin.copy_ #[45, 45] ty #[.slice (some ⟨g, i * 8, none⟩) (l0.length + 1 - i) dc, .slice (some ⟨gv, 0, none⟩) 1 capv]).run Try.prog W = .ok (goInt ((1 : Nat) : Int)) (W.setRow g C2.toArray) := by
    intro W hW ty dc
    have hmin : Nat.min 1 (l0.length + 1 - i) = 1 := by simp only [Nat.min_def]; split <;> omega
    have hWg : W.heap[g]? = some (.cells C1.toArray 54 (0, 0)) := by rw [hW]; exact setRow_heap w g _ _ _ _ hg'
    have hWv : W.heap[gv]? = some (.cells curv 54 (0, 0)) := by rw [hW, setRow_other _ _ _ _ hne]; exact hgv
    have h := run_copyN (P := Try.prog) W 45 45 ty 54 8 g (i * 8) (l0.length + 1 - i) dc ⟨gv, 0, none⟩ 1 capv C1 54 V Try.underlying45 (info_sz info54)
      hWg (by rw [hmin, hVl, Nat.one_mul]) (cellrow hWv _ _ (fun j v hj => by
        rw [hV, List.getElem?_take] at hj
        split at hj
        · simpa using hj
        · cases hj)) (by omega) honev
    rw [hmin] at h
    rw [h, hC2]
  have hov : ∀ lb cb, (callFunc 144 #[.slice (some ⟨gv, 0, none⟩) 1 capv, .slice (some ⟨g, (i + 1) * 8, none⟩) lb cb]).run Try.prog w = .ok (.value (.bool false)) w := fun lb cb => by
    rw [run_callFunc_extern Try.func144 (by kernel_rfl) (by kernel_rfl) (by kernel_rfl) (e := Extern.SlicesOverlaps.overlaps #[45, 45] #[4]) (by kernel_rfl),
      Lib.run_overlaps_apart w 45 4 54 Try.underlying45 8 (fun w => by kernel_rfl) ⟨gv, 0, none⟩ ⟨g, (i + 1) * 8, none⟩ 1 capv lb cb hne 54 54 curv.size C.toArray.size (by simp [World.shape?, hgv]) (by simp [World.shape?, hg']) (by rw [List.size_toArray]; omega) (by simp [World.frozen?, hgv]) (by simp [World.frozen?, hgv])]
    rfl
  have hw1 : IntKind.i64.wrap ((i : Int) + 1) = (i : Int) + 1 := by rw [IntKind.wrap_i64]; unfold maxLen at hm; omega
  have hw2 : IntKind.i64.wrap ((l0.length : Int) + 1) = (l0.length : Int) + 1 := by rw [IntKind.wrap_i64]; unfold maxLen at hm; omega
  have hb1 : (0 : Int) ≤ (i : Int) + 1 := by omega
  have htn : ((i : Int) + 1).toNat = i + 1 := by omega
  have htn2 : ((l0.length : Int) + 1).toNat = l0.length + 1 := by omega
  have hz2 : ¬ ((i : Int) = (l0.length : Int)) := by omega
  have hz3 : ¬ ((cap : Int) < (l0.length : Int) + 1) := by omega
  have hb2 : ¬ (cap = i + 1) := by omega
  have hb4 : ¬ (cap = i) := by omega
  have hb5 : i ≤ l0.length := by omega
  have hb6 : i + 1 ≤ l0.length + 1 := by omega
  have hb7 : (i : Int) ≤ (l0.length : Int) + 1 := by omega
  have HR := Aside0.mk hr0; have HV := Aside0.mk hrv; have HF := Aside0.mk hfin; have HB := Aside0.mk hB; have HG := Aside0.mk hg'; have HM := Aside0.mk hm; have HL := Aside0.mk hCl; have HS0 := Aside0.mk hbg; have HP0 := Aside0.mk hPg; have HC1 := Aside0.mk hC1l; have HXD := Aside0.mk hX; have HH1 := Aside0.mk h1; have HVL := Aside0.mk hVl; clear hr0 hrv hfin hB hg' hm hCl hbg hPg hC1l hX hC1 hC2 hV hC hXl hXo hVl hg hgv hs hsv hlev hmv hle ho0 ho2 hone0 honev hN hPv hbgv h1 hsz
  go_enter Try.func100, Try.ntmps100
  go_wp2_with (simp only [hov])
  go_region_law (refine step_copyN rfl (.tmp 73) (.tmp 76) 45 45 rfl (.slice (some ⟨g, (i + 1) * 8, none⟩) (l0.length - i) (cap - (i + 1))) (.slice (some ⟨g, i * 8, none⟩) (l0.length + 1 - i) (cap - i)) (by simp [Act.eval, Act.put]) (by simp [Act.eval, Act.put]) (hcp1 w.drew rfl 3 (cap - (i + 1)) (cap - i)) ?_)
  go_wp2_with ((with_reducible refine gate_builtin (b := .copy) (xs := #[.tmp 80, .tmp 81]) rfl ?_); refine wpList_copyN rfl (.tmp 80) (.tmp 81) 45 45 rfl (.slice (some ⟨g, i * 8, none⟩) (l0.length + 1 - i) (cap - i)) (.slice (some ⟨gv, 0, none⟩) 1 capv) rfl rfl (hcp2 (w.drew.setRow g C1.toArray) rfl 3 (cap - i)) ?_)
  go_ret
  refine ⟨.slice (some ⟨g, 0, none⟩) (l0.length + 1) cap, rfl, ?_, ?_, ?_⟩
  · have hlen : (l0.take i ++ l2 ++ l0.drop i).length = l0.length + 1 := by simp [HH1.out]; omega
    have e5 : (l0.length + 1) * 8 = l0.length * 8 + 8 := by omega
    rw [← hlen]; refine r_mk (L := C2) rfl (setRow_heap _ g _ _ _ _ (setRow_heap w.drew g _ _ _ _ HG.out)) HS0.out (.inl (.inl HP0.out)) (by rw [hlen]; exact hroom) HM.out (HF.out.2.trans HL.out) ?_; rw [hlen]
    show Reps _ 8 _ (C2.take ((l0.length + 1) * 8))
    rw [e5, HF.out.1]
    exact reps_app (reps_app (reps_take HR.out i) HV.out) (HXD.out ▸ reps_drop HR.out i)
  · exact below_setRow (below_setRow (below_drew1 HB.out) HS0.out _) HS0.out _
  · exact kept_setRow (kept_setRow (Kept.drew (Kept.refl _ _)) (.inl (.inl HP0.out)) _) (.inl (.inl HP0.out)) _
set_option maxHeartbeats 8000000 in
set_option maxRecDepth 100000 in
theorem slices_Insert_implOrderLine_grow (P0_ : Nat → Prop) (u : Value) (l0 : List S54) (P2_ : Nat → Prop) (u2 : Value) (l2 : List S54) (i g cap : Nat) (w0 w : World) (hB : Below w0.heap.size w0 w) (ho0 : Kd.R k54 54 w w0.heap.size P0_ u l0) (ho2 : Kd.R k54 54 w w0.heap.size P2_ u2 l2) (h1 : l2.length = 1) (hi : i < l0.length) (hu : u = .slice (some ⟨g, 0, none⟩) l0.length cap) (hroom : ¬ l0.length + 1 ≤ cap) (hlim : l0.length + 1 < 1599289640401) :
    Calls Try.prog 100 #[u, .int .i64 i, u2] w fun e w' => ∃ v0_ : Value, e = .returned (v0_) ∧ Kd.R k54 54 w' w0.heap.size (fun k_ => ((P0_ k_ ∨ P2_ k_) ∨ w.heap.size ≤ k_)) v0_ (l0.take i ++ l2 ++ l0.drop i) ∧ Below w0.heap.size w0 w' ∧ Kept w w' (fun k_ => P0_ k_ ∨ P2_ k_) := by
  rcases r_row ho0 with ⟨_, h0⟩ | ⟨g', cap', cur, e1, hbg, hPg, hg, hle, hm, hs, hr0, hone0⟩
  · subst h0; simp at hi
  rw [hu] at e1
  injection e1 with e1a e1b e1c
  injection e1a with e1a
  injection e1a with e1a
  subst e1a e1c hu
  rcases r_row ho2 with ⟨_, h0⟩ | ⟨gv, capv, curv, rfl, hbgv, hPv, hgv, hlev, hmv, hsv, hrv, honev⟩
  · subst h0; simp at h1
  rw [h1] at hrv honev hlev ⊢
  have hsz : (k54).sz = 8 := rfl
  rw [hsz] at hs hr0 hone0 hrv honev hsv
  have hglt : g < w.heap.size := (Array.getElem?_eq_some_iff.1 hg).1; have hvlt : gv < w.heap.size := (Array.getElem?_eq_some_iff.1 hgv).1; obtain ⟨V, hV⟩ : ∃ V, V = curv.toList.take (1 * 8) := ⟨_, rfl⟩
  rw [← hV] at hrv honev
  have hVl : V.length = 8 := by rw [hV, List.length_take]; simp; omega
  obtain ⟨C, hC⟩ : ∃ C, C = cur.toList := ⟨_, rfl⟩
  rw [← hC] at hr0 hone0
  have hCl : C.length = cap * 8 := by rw [hC]; simpa using hs
  have hg' : w.heap[g]? = some (.cells C.toArray 54 (0, 0)) := by rw [hC]; simpa using hg
  obtain ⟨X, hX⟩ : ∃ X, X = (C.take (l0.length * 8)).drop (i * 8) := ⟨_, rfl⟩
  have hXl : X.length = (l0.length - i) * 8 := by rw [hX, List.length_drop, List.length_take]; omega
  have hXo : ∀ v ∈ X, v.oneCell' = true := fun v hv => hone0 v (List.mem_of_mem_drop (hX ▸ hv))
  obtain ⟨O, hO⟩ : ∃ O, O = (C.take (l0.length * 8)).take (i * 8) := ⟨_, rfl⟩
  have hOl : O.length = i * 8 := by rw [hO, List.length_take, List.length_take]; omega
  obtain ⟨i0, hi0, hz⟩ := Option.map_eq_some_iff.1 info54
  simp only [Prod.mk.injEq] at hz
  obtain ⟨hz0, hz1, hz2⟩ := hz
  have hk : i + (l0.length + 1 - i) = l0.length + 1 := by omega
  obtain ⟨G, hG⟩ : ∃ G, G = grownCap w (l0.length + 1) cap 54 := ⟨_, rfl⟩
  have hGn : l0.length + 1 ≤ G := by rw [hG]; exact grownCap_ge w _ _ _
  have hGm : G ≤ maxLen := by rw [hG]; exact grownCap_le_maxLen w _ _ _ (by unfold maxLen; omega)
  obtain ⟨Z, hZ⟩ : ∃ Z : List Value, Z = (O.toArray ++ Builtin.zeroCells ((.agg #[(.string ⟨#[]⟩), (.string ⟨#[]⟩), (.int .i64 0), (.string ⟨#[]⟩), (.int .i64 0), (.int .i64 0), (.int .i64 0), (.int .i64 0)]) : Value).cells (l0.length + 1 - i) ++ Builtin.zeroCells ((.agg #[(.string ⟨#[]⟩), (.string ⟨#[]⟩), (.int .i64 0), (.string ⟨#[]⟩), (.int .i64 0), (.int .i64 0), (.int .i64 0), (.int .i64 0)]) : Value).cells (G - (l0.length + 1))).toList := ⟨_, rfl⟩
  have hZl : Z.length = G * 8 := by
    have e : ((.agg #[(.string ⟨#[]⟩), (.string ⟨#[]⟩), (.int .i64 0), (.string ⟨#[]⟩), (.int .i64 0), (.int .i64 0), (.int .i64 0), (.int .i64 0)]) : Value).cells.size = 8 := rfl; rw [hZ]; simp only [Array.length_toList, Array.size_append, size_zeroCells, List.size_toArray, e, hOl]
    omega
  have hZt : Z.take (i * 8) = O := by
    rw [hZ]; simp only [Array.toList_append, List.append_assoc]; rw [List.take_append_of_le_length (by simp [hOl]), List.take_of_length_le (by simp [hOl])]
  have hrz : ∀ ty, (Builtin.append_ #[45, 3] ty #[.slice (some ⟨g, 0, none⟩) i cap, .int .i64 ((l0.length : Int) + 1 - (i : Int))]).run Try.prog w = .ok (.slice (some ⟨w.heap.size, 0, none⟩) (l0.length + 1) G) (w.drew.alloc (.cells Z.toArray 54)) := by
    intro ty
    have hold : (Builtin.firstCells i0.size i (.slice (some ⟨g, 0, none⟩) i cap)).run Try.prog w.drew = .ok O.toArray w.drew := by
      rw [hz1]
      exact run_firstCells_some w.drew 8 i ⟨g, 0, none⟩ i cap O hOl (cellrow (w := w.drew) (cur := C.toArray) hg' 0 _ (fun j v hj => by
        rw [hO, List.getElem?_take, List.getElem?_take] at hj
        split at hj
        · split at hj
          · simpa using hj
          · cases hj
        · cases hj))
    have hbig : (l0.length + 1) * i0.bytes ≤ 140737488355328 := by rw [hz2]; omega
    have h := Lib.run_append_grow_zeros (P := Try.prog) w 45 3 ty 54 i0 ((.agg #[(.string ⟨#[]⟩), (.string ⟨#[]⟩), (.int .i64 0), (.string ⟨#[]⟩), (.int .i64 0), (.int .i64 0), (.int .i64 0), (.int .i64 0)])) .i64 .i64 Try.underlying45 Try.underlying3 hi0 hz0 (some ⟨g, 0, none⟩) i cap O hold (l0.length + 1 - i) (by omega) (by rw [hz1]; omega) (by omega) (by omega) (by rw [hz2]; omega) (by rw [hk]; exact growslice_fits (by omega) hbig)
    rw [hk, ← hG] at h
    have e : ((l0.length : Int) + 1 - (i : Int)) = ((l0.length + 1 - i : Nat) : Int) := by omega
    rw [e, h, hZ]
  obtain ⟨Z1, hZ1⟩ : ∃ Z1, Z1 = splice Z (i * 8) V := ⟨_, rfl⟩; obtain ⟨Z2, hZ2⟩ : ∃ Z2, Z2 = splice Z1 (i * 8 + 8) X := ⟨_, rfl⟩
  have hZfit : i * 8 + 8 + X.length ≤ Z.length := by rw [hZl, hXl]; omega
  have hfin := ins_new Z (i * 8) 8 V X hVl hZfit
  rw [← hZ1, ← hZ2, hZt] at hfin
  have hZ1l : Z1.length = Z.length := by rw [hZ1]; exact length_splice _ _ _ (by omega)
  have hN0 : (w.drew.alloc (.cells Z.toArray 54)).heap[w.heap.size]? = some (.cells Z.toArray 54 (0, 0)) := heap_alloc_new w.drew _
  have hold_ : ∀ k, k < w.heap.size → (w.drew.alloc (.cells Z.toArray 54)).heap[k]? = w.heap[k]? := fun k hk => heap_alloc_old w.drew _ hk
  have hcp1 : ∀ W : World, W.heap = (w.drew.alloc (.cells Z.toArray 54)).heap → ∀ ty dc, (Builtin.copy_ #[45, 45] ty #[.slice (some ⟨w.heap.size, i * 8, none⟩) (l0.length + 1 - i) dc, .slice (some ⟨gv, 0, none⟩) 1 capv]).run Try.prog W = .ok (goInt ((1 : Nat) : Int)) (W.setRow w.heap.size Z1.toArray) := by
    intro W hW ty dc
    have hmin : Nat.min 1 (l0.length + 1 - i) = 1 := by simp only [Nat.min_def]; split <;> omega
    have h := run_copyN (P := Try.prog) W 45 45 ty 54 8 w.heap.size (i * 8) (l0.length + 1 - i) dc ⟨gv, 0, none⟩ 1 capv Z 54 V Try.underlying45 (info_sz info54)
      (by rw [hW]; exact hN0) (by rw [hmin, hVl, Nat.one_mul]) (cellrow (by rw [hW, hold_ gv hvlt]; exact hgv) _ _ (fun j v hj => by
        rw [hV, List.getElem?_take] at hj
        split at hj
        · simpa using hj
        · cases hj)) (by omega) honev
    rw [hmin] at h
    rw [h, hZ1]
  have hcp2 : ∀ W : World, W.heap = ((w.drew.alloc (.cells Z.toArray 54)).setRow w.heap.size Z1.toArray).heap → ∀ ty dc sc, (Builtin.copy_ #[45, 45] ty #[.slice (some ⟨w.heap.size, (i + 1) * 8, none⟩) (l0.length - i) dc, .slice (some ⟨g, i * 8, none⟩) (l0.length - i) sc]).run Try.prog W = .ok (goInt ((l0.length - i : Nat) : Int)) (W.setRow w.heap.size Z2.toArray) := by
    intro W hW ty dc sc; have hmin : Nat.min (l0.length - i) (l0.length - i) = l0.length - i := Nat.min_self _; have h := run_copyN (P := Try.prog) W 45 45 ty 54 8 w.heap.size ((i + 1) * 8) (l0.length - i) dc ⟨g, i * 8, none⟩ (l0.length - i) sc Z1 54 X Try.underlying45 (info_sz info54)
      (by rw [hW]; exact setRow_heap _ _ _ _ _ _ hN0) (by rw [hmin, hXl]) (cellrow (cur := C.toArray) (by rw [hW, setRow_other _ _ _ _ (by omega), hold_ g hglt]; exact hg') _ _ (fun j v hj => by
        rw [hX, List.getElem?_drop, List.getElem?_take] at hj
        split at hj
        · simpa using hj
        · cases hj)) (by rw [hZ1l]; omega) hXo
    rw [hmin] at h
    have e : (i + 1) * 8 = i * 8 + 8 := by omega
    rw [h, hZ2, e]
  have hw1 : IntKind.i64.wrap ((i : Int) + 1) = (i : Int) + 1 := by rw [IntKind.wrap_i64]; unfold maxLen at hm; omega
  have hw2 : IntKind.i64.wrap ((l0.length : Int) + 1) = (l0.length : Int) + 1 := by rw [IntKind.wrap_i64]; unfold maxLen at hm; omega
  have hw3 : IntKind.i64.wrap ((l0.length : Int) + 1 - (i : Int)) = (l0.length : Int) + 1 - (i : Int) := by rw [IntKind.wrap_i64]; unfold maxLen at hm; omega
  have hb1 : (0 : Int) ≤ (i : Int) + 1 := by omega
  have htn : ((i : Int) + 1).toNat = i + 1 := by omega
  have htn2 : ((l0.length : Int) + 1).toNat = l0.length + 1 := by omega
  have hz2' : ¬ ((i : Int) = (l0.length : Int)) := by omega
  have hz3 : (cap : Int) < (l0.length : Int) + 1 := by omega
  have hb2 : ¬ (G = i + 1) := by omega
  have hb3 : ¬ (G = i) := by omega
  have hb4 : ¬ (cap = i) := by omega
  have hb5 : i ≤ l0.length := by omega
  have hb6 : i + 1 ≤ l0.length + 1 := by omega
  have hb7 : (i : Int) ≤ (l0.length : Int) + 1 := by omega
  have hb8 : i ≤ cap := by omega
  have hb9 : (i : Int) ≤ (l0.length : Int) := by omega
  have HR := Aside0.mk hr0; have HV := Aside0.mk hrv; have HF := Aside0.mk hfin; have HB := Aside0.mk hB; have HM := Aside0.mk hGm; have HL := Aside0.mk hZl; have HXD := Aside0.mk hX; have HXL := Aside0.mk hXl; have HOD := Aside0.mk hO; have HH1 := Aside0.mk h1; have HN := Aside0.mk hN0; have HGN := Aside0.mk hGn; clear hr0 hrv hfin hB hg' hm hCl hbg hPg hZ1l hX hZ1 hZ2 hV hC hXl hXo hVl hg hgv hs hsv hlev hmv hle ho0 ho2 hone0 honev hPv hbgv h1 hsz hO hOl hi0 hz0 hz1 hz2 hk hG hGm hZ hZl hZt hZfit hN0 hold_ hglt hvlt
  go_enter Try.func100, Try.ntmps100
  go_wp2_with (first | ((with_reducible refine gate_builtin (b := .append) (xs := #[.tmp 34, .tmp 39]) rfl ?_); refine wpList_runB rfl (.tmp 34) (.tmp 39) 45 3 rfl (.slice (some ⟨g, 0, none⟩) i cap) (.int .i64 ((l0.length : Int) + 1 - (i : Int))) rfl rfl (hrz _) ?_) | ((with_reducible refine gate_builtin (b := .copy) (xs := #[.tmp 43, .tmp 44]) rfl ?_); refine wpList_copyN rfl (.tmp 43) (.tmp 44) 45 45 rfl (.slice (some ⟨w.heap.size, i * 8, none⟩) (l0.length + 1 - i) (G - i)) (.slice (some ⟨gv, 0, none⟩) 1 capv) rfl rfl (hcp1 (w.drew.alloc (.cells Z.toArray 54)) rfl 3 (G - i)) ?_))
  go_region_law (refine step_copyN rfl (.tmp 50) (.tmp 53) 45 45 rfl (.slice (some ⟨w.heap.size, (i + 1) * 8, none⟩) (l0.length - i) (G - (i + 1))) (.slice (some ⟨g, i * 8, none⟩) (l0.length - i) (cap - i)) (by simp [Act.eval, Act.put]) (by simp [Act.eval, Act.put]) (hcp2 ((w.drew.alloc (.cells Z.toArray 54)).setRow w.heap.size Z1.toArray).drew rfl 3 (G - (i + 1)) (cap - i)) ?_)
  go_wp2
  go_ret
  refine ⟨.slice (some ⟨w.heap.size, 0, none⟩) (l0.length + 1) G, rfl, ?_, ?_, ?_⟩
  · have hlen : (l0.take i ++ l2 ++ l0.drop i).length = l0.length + 1 := by simp [HH1.out]; omega
    have e5 : (l0.length + 1) * 8 = i * 8 + 8 + X.length := by rw [HXL.out]; omega
    rw [← hlen]; refine r_mk (L := Z2) rfl (setRow_heap _ _ _ _ _ _ (setRow_heap _ _ _ _ _ _ HN.out)) HB.out.size (.inr (Nat.le_refl _)) (by rw [hlen]; exact HGN.out) HM.out (HF.out.2.trans HL.out) ?_; rw [hlen]
    show Reps _ 8 _ (Z2.take ((l0.length + 1) * 8))
    rw [e5, HF.out.1]
    exact reps_app (reps_app (HOD.out ▸ reps_take HR.out i) HV.out) (HXD.out ▸ reps_drop HR.out i)
  · exact below_setRow (below_drew1 (below_setRow (below_alloc (below_drew1 HB.out) _) HB.out.size _)) HB.out.size _
  · exact kept_setRow (Kept.drew (kept_setRow (Kept.alloc (Kept.drew (Kept.refl _ _)) _) (.inr (Nat.le_refl _)) _)) (.inr (Nat.le_refl _)) _
theorem slices_Insert_implOrderLine.calls (P0_ : Nat → Prop) (u9000_ : Value) (l0 : List S54) (a1 : Int) (P2_ : Nat → Prop) (u9001_ : Value) (l2 : List S54) (r : List S54) (w0 w : World) (hB : Below w0.heap.size w0 w) (ho0 : Kd.R k54 54 w w0.heap.size P0_ u9000_ l0) (hp0_2 : ∀ k_, P0_ k_ → ¬ P2_ k_) (ho2 : Kd.R k54 54 w w0.heap.size P2_ u9001_ l2) (hp2_0 : ∀ k_, P2_ k_ → ¬ P0_ k_) (h : slices_Insert_implOrderLine.f l0 a1 l2 = some r) :
    Calls Try.prog 100 #[u9000_, .int .i64 a1, u9001_] w fun e w' => ∃ v0_ : Value, e = .returned (v0_) ∧ Kd.R k54 54 w' w0.heap.size (fun k_ => ((P0_ k_ ∨ P2_ k_) ∨ w.heap.size ≤ k_)) v0_ r ∧ Below w0.heap.size w0 w' ∧ Kept w w' (fun k_ => (P0_ k_ ∨ P2_ k_)) := by
  unfold slices_Insert_implOrderLine.f at h
  by_cases c1 : 0 ≤ a1
  · rw [if_pos c1] at h
    by_cases c2 : a1 ≤ (l0.length : Int)
    · rw [if_pos c2] at h
      by_cases c3 : l2.length = 1
      · rw [if_pos c3] at h
        by_cases c4 : l0.length + 1 < 1599289640401
        · rw [if_pos c4] at h
          obtain rfl := Option.some.inj h
          by_cases e : a1 = (l0.length : Int)
          · subst e; have := slices_Insert_implOrderLine_end P0_ u9000_ l0 P2_ u9001_ l2 w0 w hB ho0 ho2 c4 c3; rw [Int.toNat_natCast, List.take_length, List.drop_length, List.append_nil]
            exact this
          · obtain ⟨i, rfl⟩ : ∃ i : Nat, a1 = i := ⟨a1.toNat, by omega⟩
            have hi : i < l0.length := by omega
            rw [Int.toNat_natCast]
            rcases r_row ho0 with ⟨_, h0⟩ | ⟨g, cap, cur, hu, _⟩
            · subst h0; simp at hi
            · by_cases hr : l0.length + 1 ≤ cap
              · exact slices_Insert_implOrderLine_room P0_ u9000_ l0 P2_ u9001_ l2 i g cap w0 w hB ho0 hp0_2 ho2 c3 hi hu hr
              · exact slices_Insert_implOrderLine_grow P0_ u9000_ l0 P2_ u9001_ l2 i g cap w0 w hB ho0 ho2 c3 hi hu hr c4
        · rw [if_neg c4] at h; cases h
      · rw [if_neg c3] at h; cases h
    · rw [if_neg c2] at h; cases h
  · rw [if_neg c1] at h; cases h
end Go.Proofs.Ytefmkmhjbfpelaa.QP
namespace Go.Proofs.Ytefmkmhjbfpelaa.QP
open Go.RowKit Go.Proofs.YtefmkmhjbfpelaaW.PrintWords Go.Proofs.YtefmkmhjbfpelaaW.PrintLast Go.Proofs.YtefmkmhjbfpelaaW.PrintMore
attribute [local go_sem] max2_int min2_int max_two min_two max_three min_three max_four min_four   -- for this text's walks alone
set_option linter.unusedVariables false
set_option linter.unusedSimpArgs false
set_option maxHeartbeats 8000000 in
set_option maxRecDepth 100000 in
theorem impl_LinesAdd.calls (k : Nat) (A0 : Option Addr) (c0 : Nat) (l0 : List (S54)) (a1_0 : ByteArray) (a1_1 : ByteArray) (a1_2 : Int) (a1_3 : ByteArray) (a1_4 : Int) (a1_5 : Int) (a1_6 : Int) (a1_7 : Int) (r : List (S54)) (w : World) (hr0 : Kd.C k54 w A0 l0.length l0) (hc0 : l0.length ≤ c0) (h : impl_LinesAdd.f k l0 a1_0 a1_1 a1_2 a1_3 a1_4 a1_5 a1_6 a1_7 = some r) :
    Calls Try.prog 33 #[.slice A0 l0.length c0, .agg #[.string a1_0, .string a1_1, .int .i64 a1_2, .string a1_3, .int .i64 a1_4, .int .i64 a1_5, .int .i64 a1_6, .int .i64 a1_7]] w fun e w' => ∃ v0_ : Value, e = .returned (v0_) ∧ Kd.R k54 54 w' w.heap.size (fun _ => True) v0_ r ∧ Below w.heap.size w w' := by
  have hu54 := Try.underlying54; have HR0 := Aside0.mk hr0; have HC0 := Aside0.mk hc0; clear hr0 hc0; have HB := Aside0.mk (Below.refl w.heap.size w); have H : ((impl_OrderLine_95.f l0).bind fun t354 => (if t354 = true then (some ([] : List (S54))) else ((impl_OrderLine_impl_lineOrder.f k l0 a1_0 a1_1 a1_2 a1_3 a1_4 a1_5 a1_6 a1_7).bind fun bt355 => ((impl_LinesRight.f k l0).bind fun t357 => (if t357 = true then ((impl_LineRight.f k a1_0 a1_1 a1_2 a1_3 a1_4 a1_5 a1_6 a1_7).bind fun t358 => (if t358 = true then (if bt355.2 = true then (impl_LinesAdd.j0 k l0 bt355.1 true a1_0 a1_1 a1_2 a1_3 a1_4 a1_5 a1_6 a1_7) else (impl_LinesAdd.j0 k l0 bt355.1 ((l0.length : Int) == 200) a1_0 a1_1 a1_2 a1_3 a1_4 a1_5 a1_6 a1_7)) else (impl_LinesAdd.j0 k l0 bt355.1 true a1_0 a1_1 a1_2 a1_3 a1_4 a1_5 a1_6 a1_7))) else (impl_LinesAdd.j0 k l0 bt355.1 true a1_0 a1_1 a1_2 a1_3 a1_4 a1_5 a1_6 a1_7)))))) = some r := h; clear h; replace H := Option.bind_eq_some_iff.mp H; obtain ⟨t354, A30, H⟩ := H; replace H : (if t354 = true then (some ([] : List (S54))) else ((impl_OrderLine_impl_lineOrder.f k l0 a1_0 a1_1 a1_2 a1_3 a1_4 a1_5 a1_6 a1_7).bind fun bt355 => ((impl_LinesRight.f k l0).bind fun t357 => (if t357 = true then ((impl_LineRight.f k a1_0 a1_1 a1_2 a1_3 a1_4 a1_5 a1_6 a1_7).bind fun t358 => (if t358 = true then (if bt355.2 = true then (impl_LinesAdd.j0 k l0 bt355.1 true a1_0 a1_1 a1_2 a1_3 a1_4 a1_5 a1_6 a1_7) else (impl_LinesAdd.j0 k l0 bt355.1 ((l0.length : Int) == 200) a1_0 a1_1 a1_2 a1_3 a1_4 a1_5 a1_6 a1_7)) else (impl_LinesAdd.j0 k l0 bt355.1 true a1_0 a1_1 a1_2 a1_3 a1_4 a1_5 a1_6 a1_7))) else (impl_LinesAdd.j0 k l0 bt355.1 true a1_0 a1_1 a1_2 a1_3 a1_4 a1_5 a1_6 a1_7))))) = some r := H; have A3 := Aside0.mk A30; clear A30
  go_enter Try.func33, Try.ntmps33
  try go_wp2_with (first | ((with_reducible refine gate_dst (N := 3) rfl ?_); (try (refine gate_guard (by rfl) ?_; dsimp only)); refine bx 3 (cs := #[.string a1_0, .string a1_1, .int .i64 a1_2, .string a1_3, .int .i64 a1_4, .int .i64 a1_5, .int .i64 a1_6, .int .i64 a1_7]) (t := 54) ?_; intro gb353 hg w4 hbox hb; have BK353 := Aside0.mk (hbox); have GW353 := Aside0.mk ((gs hg (bs HB))); have GE353 := Aside0.mk ((gs hg (bs HB))); replace HB := Aside0.mk (below_step (bs HB) hb); clear hb hbox hg))
  go_at_call 95; (with_reducible refine (impl_OrderLine_95.calls _ _ l0 t354 _ (Kd.C_below HR0.out (bs HB)) HC0.out A3.out).mono ?_); rintro e w' ⟨rfl, ⟨nd, rfl⟩⟩
  by_cases c5 : t354 = true
  · subst c5
    have H1 : (some ([] : List (S54))) = some r := by rw [if_pos rfl] at H; exact H
    clear H; have H := H1; clear H1; obtain rfl := Option.some.inj H
    go_wp2
    go_ret
    exact ⟨_, ff, by first | exact Kd.R_nil _ _ _ _ _ | exact Kd.N_nil _ _ _ _ _ | exact Kd.V_nil _ _ _ _ _ | exact Kd.Q_nil _ _ _ _ _ | exact Kd.S_nil _ _ _ _ _, bs HB⟩
  · replace c5 := Bool.eq_false_iff.mpr c5; subst c5
    have H1 : ((impl_OrderLine_impl_lineOrder.f k l0 a1_0 a1_1 a1_2 a1_3 a1_4 a1_5 a1_6 a1_7).bind fun bt355 => ((impl_LinesRight.f k l0).bind fun t357 => (if t357 = true then ((impl_LineRight.f k a1_0 a1_1 a1_2 a1_3 a1_4 a1_5 a1_6 a1_7).bind fun t358 => (if t358 = true then (if bt355.2 = true then (impl_LinesAdd.j0 k l0 bt355.1 true a1_0 a1_1 a1_2 a1_3 a1_4 a1_5 a1_6 a1_7) else (impl_LinesAdd.j0 k l0 bt355.1 ((l0.length : Int) == 200) a1_0 a1_1 a1_2 a1_3 a1_4 a1_5 a1_6 a1_7)) else (impl_LinesAdd.j0 k l0 bt355.1 true a1_0 a1_1 a1_2 a1_3 a1_4 a1_5 a1_6 a1_7))) else (impl_LinesAdd.j0 k l0 bt355.1 true a1_0 a1_1 a1_2 a1_3 a1_4 a1_5 a1_6 a1_7)))) = some r := by rw [if_neg (show ¬ (false = true) by decide)] at H; exact H
    clear H; have H := H1; clear H1; replace H := Option.bind_eq_some_iff.mp H; obtain ⟨⟨t355, t356⟩, A60, H⟩ := H; replace H : ((impl_LinesRight.f k l0).bind fun t357 => (if t357 = true then ((impl_LineRight.f k a1_0 a1_1 a1_2 a1_3 a1_4 a1_5 a1_6 a1_7).bind fun t358 => (if t358 = true then (if t356 = true then (impl_LinesAdd.j0 k l0 t355 true a1_0 a1_1 a1_2 a1_3 a1_4 a1_5 a1_6 a1_7) else (impl_LinesAdd.j0 k l0 t355 ((l0.length : Int) == 200) a1_0 a1_1 a1_2 a1_3 a1_4 a1_5 a1_6 a1_7)) else (impl_LinesAdd.j0 k l0 t355 true a1_0 a1_1 a1_2 a1_3 a1_4 a1_5 a1_6 a1_7))) else (impl_LinesAdd.j0 k l0 t355 true a1_0 a1_1 a1_2 a1_3 a1_4 a1_5 a1_6 a1_7))) = some r := H; have A6 := Aside0.mk A60; clear A60; obtain ⟨hcz7_0, hcz7_1, hcz7_2, hcz7_3, hcz7_4, hcz7_5, hcz7_6, hcz7_7, hfz7_0, hfz7_1, hfz7_2, hfz7_3, hfz7_4, hfz7_5, hfz7_6, hfz7_7⟩ := cf8 BK353
    try go_wp2_with (fail)
    go_at_call 96; (with_reducible refine (impl_OrderLine_impl_lineOrder.calls k _ _ l0 a1_0 a1_1 a1_2 a1_3 a1_4 a1_5 a1_6 a1_7  t355 t356 _ (Kd.C_below HR0.out (bs HB)) HC0.out A6.out).mono ?_); rintro e w8 ⟨rfl, hb⟩; replace BK353 := Aside0.mk (blk_below (ks BK353) hb); replace HB := Aside0.mk (below_step (bs HB) hb); (try clear hb); (try clear hb2); (try clear hk); (try clear hi); have HC9 := Aside0.mk H; clear H
    go_upto_region 4 with (fail)
    go_cut [30] (fun v30 wc => ∃ (kq : Nat) (x30_8 : Bool), v30 = .bool x30_8 ∧ Aside0 (impl_LinesAdd.j0 kq l0 t355 x30_8 a1_0 a1_1 a1_2 a1_3 a1_4 a1_5 a1_6 a1_7 = some r) ∧ Aside0 (kq ≤ k) ∧ Aside0 (wc.heap[gb353]? = some (.cells #[.string a1_0, .string a1_1, .int .i64 a1_2, .string a1_3, .int .i64 a1_4, .int .i64 a1_5, .int .i64 a1_6, .int .i64 a1_7] 54 (0, 0))) ∧ Aside0 (Below w.heap.size w wc))
    case first =>
      have H := HC9.out; clear HC9; replace H := Option.bind_eq_some_iff.mp H; obtain ⟨t357, A100, H⟩ := H; replace H : (if t357 = true then ((impl_LineRight.f k a1_0 a1_1 a1_2 a1_3 a1_4 a1_5 a1_6 a1_7).bind fun t358 => (if t358 = true then (if t356 = true then (impl_LinesAdd.j0 k l0 t355 true a1_0 a1_1 a1_2 a1_3 a1_4 a1_5 a1_6 a1_7) else (impl_LinesAdd.j0 k l0 t355 ((l0.length : Int) == 200) a1_0 a1_1 a1_2 a1_3 a1_4 a1_5 a1_6 a1_7)) else (impl_LinesAdd.j0 k l0 t355 true a1_0 a1_1 a1_2 a1_3 a1_4 a1_5 a1_6 a1_7))) else (impl_LinesAdd.j0 k l0 t355 true a1_0 a1_1 a1_2 a1_3 a1_4 a1_5 a1_6 a1_7)) = some r := H; have A10 := Aside0.mk A100; clear A100
      try go_wp2_with (fail)
      go_at_call 36; (with_reducible refine (impl_LinesRight.calls k _ _ l0 t357 _ (Kd.C_below HR0.out (bs HB)) HC0.out A10.out).mono ?_); rintro e w11 ⟨rfl, hb⟩; replace BK353 := Aside0.mk (blk_below (ks BK353) hb); replace HB := Aside0.mk (below_step (bs HB) hb); (try clear hb); (try clear hb2); (try clear hk); (try clear hi)
      by_cases c12 : t357 = true
      · subst c12
        have H1 : ((impl_LineRight.f k a1_0 a1_1 a1_2 a1_3 a1_4 a1_5 a1_6 a1_7).bind fun t358 => (if t358 = true then (if t356 = true then (impl_LinesAdd.j0 k l0 t355 true a1_0 a1_1 a1_2 a1_3 a1_4 a1_5 a1_6 a1_7) else (impl_LinesAdd.j0 k l0 t355 ((l0.length : Int) == 200) a1_0 a1_1 a1_2 a1_3 a1_4 a1_5 a1_6 a1_7)) else (impl_LinesAdd.j0 k l0 t355 true a1_0 a1_1 a1_2 a1_3 a1_4 a1_5 a1_6 a1_7))) = some r := by rw [if_pos rfl] at H; exact H
        clear H; have H := H1; clear H1; replace H := Option.bind_eq_some_iff.mp H; obtain ⟨t358, A130, H⟩ := H; replace H : (if t358 = true then (if t356 = true then (impl_LinesAdd.j0 k l0 t355 true a1_0 a1_1 a1_2 a1_3 a1_4 a1_5 a1_6 a1_7) else (impl_LinesAdd.j0 k l0 t355 ((l0.length : Int) == 200) a1_0 a1_1 a1_2 a1_3 a1_4 a1_5 a1_6 a1_7)) else (impl_LinesAdd.j0 k l0 t355 true a1_0 a1_1 a1_2 a1_3 a1_4 a1_5 a1_6 a1_7)) = some r := H; have A13 := Aside0.mk A130; clear A130; obtain ⟨hcz14_0, hcz14_1, hcz14_2, hcz14_3, hcz14_4, hcz14_5, hcz14_6, hcz14_7, hfz14_0, hfz14_1, hfz14_2, hfz14_3, hfz14_4, hfz14_5, hfz14_6, hfz14_7⟩ := cf8 BK353
        try go_wp2_with (fail)
        go_at_call 98; (with_reducible refine (impl_LineRight.calls k a1_0 a1_1 a1_2 a1_3 a1_4 a1_5 a1_6 a1_7 t358 _ A13.out).mono ?_); rintro e w15 ⟨rfl, hb⟩; replace BK353 := Aside0.mk (blk_below (ks BK353) hb); replace HB := Aside0.mk (below_step (bs HB) hb); (try clear hb); (try clear hb2); (try clear hk); (try clear hi)
        by_cases c16 : t358 = true
        · subst c16
          have H1 : (if t356 = true then (impl_LinesAdd.j0 k l0 t355 true a1_0 a1_1 a1_2 a1_3 a1_4 a1_5 a1_6 a1_7) else (impl_LinesAdd.j0 k l0 t355 ((l0.length : Int) == 200) a1_0 a1_1 a1_2 a1_3 a1_4 a1_5 a1_6 a1_7)) = some r := by rw [if_pos rfl] at H; exact H
          clear H; have H := H1; clear H1
          by_cases c17 : t356 = true
          · subst c17
            have H1 : (impl_LinesAdd.j0 k l0 t355 true a1_0 a1_1 a1_2 a1_3 a1_4 a1_5 a1_6 a1_7) = some r := by rw [if_pos rfl] at H; exact H
            clear H; have H := H1; clear H1; have H' := Aside0.mk H; clear H
            go_wp2
            go_meet
            case rel => exact ⟨_, (true), fg, H', ⟨fl⟩, ⟨ks BK353⟩, ⟨bs HB⟩⟩
          · replace c17 := Bool.eq_false_iff.mpr c17; subst c17
            have H1 : (impl_LinesAdd.j0 k l0 t355 ((l0.length : Int) == 200) a1_0 a1_1 a1_2 a1_3 a1_4 a1_5 a1_6 a1_7) = some r := by rw [if_neg (show ¬ (false = true) by decide)] at H; exact H
            clear H; have H := H1; clear H1; have H' := Aside0.mk H; clear H
            go_wp2
            go_meet
            case rel => exact ⟨_, (((l0.length : Int) == 200)), fg, H', ⟨fl⟩, ⟨ks BK353⟩, ⟨bs HB⟩⟩
        · replace c16 := Bool.eq_false_iff.mpr c16; subst c16
          have H1 : (impl_LinesAdd.j0 k l0 t355 true a1_0 a1_1 a1_2 a1_3 a1_4 a1_5 a1_6 a1_7) = some r := by rw [if_neg (show ¬ (false = true) by decide)] at H; exact H
          clear H; have H := H1; clear H1; have H' := Aside0.mk H; clear H
          go_wp2
          go_meet
          case rel => exact ⟨_, (true), fg, H', ⟨fl⟩, ⟨ks BK353⟩, ⟨bs HB⟩⟩
      · replace c12 := Bool.eq_false_iff.mpr c12; subst c12
        have H1 : (impl_LinesAdd.j0 k l0 t355 true a1_0 a1_1 a1_2 a1_3 a1_4 a1_5 a1_6 a1_7) = some r := by rw [if_neg (show ¬ (false = true) by decide)] at H; exact H
        clear H; have H := H1; clear H1; have H' := Aside0.mk H; clear H
        go_wp2
        go_meet
        case rel => exact ⟨_, (true), fg, H', ⟨fl⟩, ⟨ks BK353⟩, ⟨bs HB⟩⟩
    case rest =>
      clear HC9
      try clear c1
      try clear p2
      try clear c3
      try clear c5
      try clear c12
      try clear c16
      try clear c17
      try clear hcz14_0
      try clear hcz14_1
      try clear hcz14_2
      try clear hcz14_3
      try clear hcz14_4
      try clear hcz14_5
      try clear hcz14_6
      try clear hcz14_7
      try clear hcz7_0
      try clear hcz7_1
      try clear hcz7_2
      try clear hcz7_3
      try clear hcz7_4
      try clear hcz7_5
      try clear hcz7_6
      try clear hcz7_7
      try clear hfz14_0
      try clear hfz14_1
      try clear hfz14_2
      try clear hfz14_3
      try clear hfz14_4
      try clear hfz14_5
      try clear hfz14_6
      try clear hfz14_7
      try clear hfz7_0
      try clear hfz7_1
      try clear hfz7_2
      try clear hfz7_3
      try clear hfz7_4
      try clear hfz7_5
      try clear hfz7_6
      try clear hfz7_7
      obtain ⟨kq, x30_8, rfl, HA, HJ8, BK353, HB⟩ := hcut
      cases kq with
      | zero => exact absurd HA.out (by simp [impl_LinesAdd.j0])
      | succ kj8 =>
        have H := HA.out; clear HA; simp only [impl_LinesAdd.j0] at H
        by_cases c18 : x30_8 = true
        · subst c18
          have H1 : ((slices_Clone_implOrderLine.f l0).bind fun t359 => (some t359)) = some r := by rw [if_pos rfl] at H; exact H
          clear H; have H := H1; clear H1; replace H := Option.bind_eq_some_iff.mp H; obtain ⟨t359, A190, H⟩ := H; replace H : (some t359) = some r := H; have A19 := Aside0.mk A190; clear A190; obtain rfl := Option.some.inj H
          go_wp2_with (first | ((first | ((with_reducible refine gate_callee (f := 99) rfl ?_); refine goesL_ (some 32) rfl rfl Try.func99 (by kernel_rfl) rfl #[.slice A0 l0.length c0] rfl (by (try simp only [List.map_toArray, List.map_cons, List.map_nil]); first | done | rfl | (simp only [List.length_drop, List.length_take]; rfl)) ?_; (with_reducible refine (slices_Clone_implOrderLine.calls _ _ l0 t359 _ (Kd.C_below HR0.out (bs HB)) HC0.out A19.out).mono ?_); rintro e w20 ⟨v360, rfl, ho0, hb⟩; refine ⟨_, rfl, ?_⟩) | (go_at_call 99; (with_reducible refine (slices_Clone_implOrderLine.calls _ _ l0 t359 _ (Kd.C_below HR0.out (bs HB)) HC0.out A19.out).mono ?_); rintro e w20 ⟨v360, rfl, ho0, hb⟩)); have HO361 := Aside0.mk (Kd.R_lower (Kd.R_newB ho0 (g := gb353) (o := .cells #[.string a1_0, .string a1_1, .int .i64 a1_2, .string a1_3, .int .i64 a1_4, .int .i64 a1_5, .int .i64 a1_6, .int .i64 a1_7] 54 (0, 0)) (ks BK353)) (below_size (bs HB))); replace BK353 := Aside0.mk (blk_below (ks BK353) hb); replace HB := Aside0.mk (below_step (bs HB) hb); (try clear hb); (try clear hb2); (try clear hk); (try clear hi); (try clear ho0)))
          go_ret
          exact ⟨_, ff, by (with_reducible repeat (first | apply Kd.R_alloc | apply Kd.R_drewN | apply Kd.R_drew)); exact Kd.R_mono HO361.out (fun _ hk => trivial), bs HB⟩
        · replace c18 := Bool.eq_false_iff.mpr c18; subst c18
          have H1 : ((slices_Clone_implOrderLine.f l0).bind fun t362 => ((slices_Insert_implOrderLine.f t362 t355 (([(⟨a1_0, a1_1, a1_2, a1_3, a1_4, a1_5, a1_6, a1_7⟩ : S54)] : List (S54)))).bind fun t368 => (some t368))) = some r := by rw [if_neg (show ¬ (false = true) by decide)] at H; exact H
          clear H; have H := H1; clear H1; replace H := Option.bind_eq_some_iff.mp H; obtain ⟨t362, A210, H⟩ := H; replace H : ((slices_Insert_implOrderLine.f t362 t355 (([(⟨a1_0, a1_1, a1_2, a1_3, a1_4, a1_5, a1_6, a1_7⟩ : S54)] : List (S54)))).bind fun t368 => (some t368)) = some r := H; have A21 := Aside0.mk A210; clear A210; obtain ⟨y365, hy365⟩ : ∃ y_ : List (S54), y_ = (([(⟨a1_0, a1_1, a1_2, a1_3, a1_4, a1_5, a1_6, a1_7⟩ : S54)] : List (S54))) := ⟨_, rfl⟩
          replace H : ((slices_Insert_implOrderLine.f t362 t355 y365).bind fun t368 => (some t368)) = some r := by first | (rw [hy365]; with_reducible exact H) | (have H2_ := (Option.bind_some _ _).symm.trans H; rw [hy365]; with_reducible exact H2_) | (have H2_ := (Option.bind_some _ _).symm.trans H; with_reducible exact H2_) | with_reducible exact H | (rw [hy365]; exact H) | exact H
          have Ny365 := Aside0.mk hy365; clear hy365; replace H := Option.bind_eq_some_iff.mp H; obtain ⟨t368, A220, H⟩ := H; replace H : (some t368) = some r := H; have A22 := Aside0.mk A220; clear A220; obtain rfl := Option.some.inj H
          try go_wp2
          replace BK353 := Aside0.mk (blk_drew BK353.out); replace HB := Aside0.mk (below_drew1 HB.out); refine start_ (n := 7) (S := fun w' => w'.cell? ⟨gb353, 0, none⟩ = some (.string a1_0) ∧ w'.cell? ⟨gb353, 1, none⟩ = some (.string a1_1) ∧ w'.cell? ⟨gb353, 2, none⟩ = some (.int .i64 a1_2) ∧ w'.cell? ⟨gb353, 3, none⟩ = some (.string a1_3) ∧ w'.cell? ⟨gb353, 4, none⟩ = some (.int .i64 a1_4) ∧ w'.cell? ⟨gb353, 5, none⟩ = some (.int .i64 a1_5) ∧ w'.cell? ⟨gb353, 6, none⟩ = some (.int .i64 a1_6) ∧ w'.cell? ⟨gb353, 7, none⟩ = some (.int .i64 a1_7)) (ds := []) #[false, false, false, false, false, false, false] (by kernel_rfl) rfl rfl ⟨(blk_cell BK353.out 0).trans rfl, (blk_cell BK353.out 1).trans rfl, (blk_cell BK353.out 2).trans rfl, (blk_cell BK353.out 3).trans rfl, (blk_cell BK353.out 4).trans rfl, (blk_cell BK353.out 5).trans rfl, (blk_cell BK353.out 6).trans rfl, (blk_cell BK353.out 7).trans rfl⟩ (fun hHeld => ?_)
          generalize wc.drew = w23 at BK353 HB hHeld ⊢
          refine pure_ (i := 0) (N := some 33) (v := ?_) (a' := ?_) #[true, false, false, false, false, false, false] rfl rfl (by kernel_rfl) (fun _ _ _ h => h) (Or.inl ⟨by rfl, ?_⟩) ?_ ?_
          rotate_left
          · intro w'
            go_simp
            (with_reducible rfl)
          rotate_left
          · simp only [Act.put, List.setIfInBounds_toArray, List.set_cons_zero, List.set_cons_succ, i64_w, i32_w]
            rfl
          refine pure_ (i := 2) (N := some 35) (v := ?_) (a' := ?_) #[true, false, true, false, false, false, false] rfl rfl (by kernel_rfl) (fun _ _ _ h => h) (Or.inl ⟨by rfl, ?_⟩) ?_ ?_
          rotate_left
          · intro w'
            go_simp
            (with_reducible rfl)
          rotate_left
          · simp only [Act.put, List.setIfInBounds_toArray, List.set_cons_zero, List.set_cons_succ, i64_w, i32_w]
            rfl
          refine take_ (i := 3) (N := some 36) (v := ?_) (a' := ?_) #[true, false, true, true, false, false, false] rfl rfl (by kernel_rfl) (fun _ _ _ h => h) (Or.inl ⟨by rfl, ?_⟩) hHeld ?_ ?_
          rotate_left
          · rintro w' ⟨s0, s1, s2, s3, s4, s5, s6, s7⟩
            go_simp
            (with_reducible rfl)
          rotate_left
          · simp only [Act.put, List.setIfInBounds_toArray, List.set_cons_zero, List.set_cons_succ, i64_w, i32_w]
            rfl
          refine join_ (σ := Value × Value) 2 #[true, true, true, true, true, false, false] (fun s_ => [(34, s_.1), (37, s_.2)]) (fun s_ w' => (w'.cell? ⟨gb353, 0, none⟩ = some (.string a1_0) ∧ w'.cell? ⟨gb353, 1, none⟩ = some (.string a1_1) ∧ w'.cell? ⟨gb353, 2, none⟩ = some (.int .i64 a1_2) ∧ w'.cell? ⟨gb353, 3, none⟩ = some (.string a1_3) ∧ w'.cell? ⟨gb353, 4, none⟩ = some (.int .i64 a1_4) ∧ w'.cell? ⟨gb353, 5, none⟩ = some (.int .i64 a1_5) ∧ w'.cell? ⟨gb353, 6, none⟩ = some (.int .i64 a1_6) ∧ w'.cell? ⟨gb353, 7, none⟩ = some (.int .i64 a1_7)) ∧ (Kd.R k54 54 w' w.heap.size (fun k_ => some k_ ≠ (s_.2 : Value).ownBlock ∧ k_ ≠ gb353) s_.1 t362) ∧ (Kd.R k54 54 w' w.heap.size (fun k_ => some k_ ≠ (s_.1 : Value).ownBlock ∧ k_ ≠ gb353) s_.2 y365) ∧ (w'.heap[gb353]? = some (.cells #[.string a1_0, .string a1_1, .int .i64 a1_2, .string a1_3, .int .i64 a1_4, .int .i64 a1_5, .int .i64 a1_6, .int .i64 a1_7] 54 (0, 0))) ∧ (Below w.heap.size w w')) ?_ ?_
          rotate_left
          · intro hCont; refine two_ (i := 1) (j := 4) (Ni := some 34) (Nj := some 37) #[true, true, true, true, false, false, false] #[true, false, true, true, true, false, false] rfl rfl rfl rfl (by kernel_rfl) (by decide) (by decide) (fun K hK => ?_) (fun K hK => ?_)
            · skip
              refine gA Try.func99 #[.slice A0 l0.length c0] ?_; (with_reducible refine (slices_Clone_implOrderLine.calls _ _ l0 t362 _ ?side1 ?side2 A21.out).mono ?_)
              (case side1 => repeat (first | exact (Kd.C_below HR0.out HB.out) | (with_reducible refine Kd.C_alloc ?_ _) | (with_reducible refine Kd.C_drewN ?_ _) | (with_reducible refine Kd.C_drew ?_)))
              (case side2 => exact HC0.out)
              rintro e w24 ⟨v363, rfl, ho0, hb⟩; refine ⟨_, rfl, ?_⟩; have HO364 := Aside0.mk (Kd.R_lower (Kd.R_newB ho0 (g := gb353) (o := .cells #[.string a1_0, .string a1_1, .int .i64 a1_2, .string a1_3, .int .i64 a1_4, .int .i64 a1_5, .int .i64 a1_6, .int .i64 a1_7] 54 (0, 0)) (ks BK353)) (below_size (bs HB))); replace BK353 := Aside0.mk (blk_below (ks BK353) hb); replace HB := Aside0.mk (below_step (bs HB) hb); (try clear hb); (try clear hb2); (try clear hk); (try clear hi); (try clear ho0); refine hK.out _ _ ⟨(blk_cell BK353.out 0).trans rfl, (blk_cell BK353.out 1).trans rfl, (blk_cell BK353.out 2).trans rfl, (blk_cell BK353.out 3).trans rfl, (blk_cell BK353.out 4).trans rfl, (blk_cell BK353.out 5).trans rfl, (blk_cell BK353.out 6).trans rfl, (blk_cell BK353.out 7).trans rfl⟩ (fun hHeld => ?_); clear hK K; refine nA 34 ?_; refine one_ (i := 4) (N := some 37) #[true, true, true, true, true, false, false] rfl rfl (by kernel_rfl) (by decide) (fun K hK => ?_); refine Kd.R_lit_step k54 _ 54 ?hg (N := 37) ?hd (xs := ([(⟨a1_0, a1_1, a1_2, a1_3, a1_4, a1_5, a1_6, a1_7⟩ : S54)] : List (S54))) (inner := [.string a1_0, .string a1_1, .int .i64 a1_2, .string a1_3, .int .i64 a1_4, .int .i64 a1_5, .int .i64 a1_6, .int .i64 a1_7]) (ok := fun _ => True) (okp := fun _ => True) ?hr ?hp (fun _ hk => hk) trivial (Below.refl _ _) (Nat.le_refl _) (by simp) ?_; (case hd => rfl); (case hg => rfl); (case hr => first | (go_simp; done) | (go_simp; rfl)); (case hp => exact (Reps.c8 (show Kd.M k54 _ _ _ (⟨a1_0, a1_1, a1_2, a1_3, a1_4, a1_5, a1_6, a1_7⟩ : S54) [.string a1_0, .string a1_1, .int .i64 a1_2, .string a1_3, .int .i64 a1_4, .int .i64 a1_5, .int .i64 a1_6, .int .i64 a1_7] from (k54_mkM _ _ _ (⟨a1_0, a1_1, a1_2, a1_3, a1_4, a1_5, a1_6, a1_7⟩ : S54) )) (Reps.none _ _))); intro v366 w25 ho26 hb hg_ hnew_; clear hg_ hnew_
              (first | rw [← Ny365.out] at ho26 | (simp only [Int.reduceToNat] at ho26; rw [← Ny365.out] at ho26))
              have HO367 := Aside0.mk (Kd.R_lower (Kd.R_newB (Kd.R_new' ho26 (Kd.R_lt (rs HO364))) (g := gb353) (o := .cells #[.string a1_0, .string a1_1, .int .i64 a1_2, .string a1_3, .int .i64 a1_4, .int .i64 a1_5, .int .i64 a1_6, .int .i64 a1_7] 54 (0, 0)) (ks BK353)) (below_size (bs HB))); replace HO364 := Aside0.mk (Kd.R_elder' (rs HO364) (Kd.R_base ho26) hb); replace BK353 := Aside0.mk (blk_below (ks BK353) hb); replace HB := Aside0.mk (below_step (bs HB) hb); clear hb ho26; refine hK.out _ _ ⟨(blk_cell BK353.out 0).trans rfl, (blk_cell BK353.out 1).trans rfl, (blk_cell BK353.out 2).trans rfl, (blk_cell BK353.out 3).trans rfl, (blk_cell BK353.out 4).trans rfl, (blk_cell BK353.out 5).trans rfl, (blk_cell BK353.out 6).trans rfl, (blk_cell BK353.out 7).trans rfl⟩ (fun hHeld => ?_); clear hK K; refine nA 37 ?_
              exact norm_ (by simp only [putAll, Act.put, List.setIfInBounds_toArray, List.set_cons_zero, List.set_cons_succ]) (hCont (v363, v366) _ ⟨hHeld, (by (with_reducible repeat (first | apply Kd.R_alloc | apply Kd.R_drewN | apply Kd.R_drew)); exact Kd.R_mono HO364.out (fun _ hk => ⟨hk.2, hk.1.2⟩)), (by (with_reducible repeat (first | apply Kd.R_alloc | apply Kd.R_drewN | apply Kd.R_drew)); exact Kd.R_mono HO367.out (fun _ hk => ⟨hk.1.2, hk.2⟩)), (ks BK353), (bs HB)⟩)
            · skip
              refine Kd.R_lit_step k54 _ 54 ?hg (N := 37) ?hd (xs := ([(⟨a1_0, a1_1, a1_2, a1_3, a1_4, a1_5, a1_6, a1_7⟩ : S54)] : List (S54))) (inner := [.string a1_0, .string a1_1, .int .i64 a1_2, .string a1_3, .int .i64 a1_4, .int .i64 a1_5, .int .i64 a1_6, .int .i64 a1_7]) (ok := fun _ => True) (okp := fun _ => True) ?hr ?hp (fun _ hk => hk) trivial (Below.refl _ _) (Nat.le_refl _) (by simp) ?_; (case hd => rfl); (case hg => rfl); (case hr => first | (go_simp; done) | (go_simp; rfl)); (case hp => exact (Reps.c8 (show Kd.M k54 _ _ _ (⟨a1_0, a1_1, a1_2, a1_3, a1_4, a1_5, a1_6, a1_7⟩ : S54) [.string a1_0, .string a1_1, .int .i64 a1_2, .string a1_3, .int .i64 a1_4, .int .i64 a1_5, .int .i64 a1_6, .int .i64 a1_7] from (k54_mkM _ _ _ (⟨a1_0, a1_1, a1_2, a1_3, a1_4, a1_5, a1_6, a1_7⟩ : S54) )) (Reps.none _ _))); intro v366 w24 ho25 hb hg_ hnew_; clear hg_ hnew_
              (first | rw [← Ny365.out] at ho25 | (simp only [Int.reduceToNat] at ho25; rw [← Ny365.out] at ho25))
              have HO367 := Aside0.mk (Kd.R_lower (Kd.R_newB ho25 (g := gb353) (o := .cells #[.string a1_0, .string a1_1, .int .i64 a1_2, .string a1_3, .int .i64 a1_4, .int .i64 a1_5, .int .i64 a1_6, .int .i64 a1_7] 54 (0, 0)) (ks BK353)) (below_size (bs HB))); replace BK353 := Aside0.mk (blk_below (ks BK353) hb); replace HB := Aside0.mk (below_step (bs HB) hb); clear hb ho25; refine hK.out _ _ ⟨(blk_cell BK353.out 0).trans rfl, (blk_cell BK353.out 1).trans rfl, (blk_cell BK353.out 2).trans rfl, (blk_cell BK353.out 3).trans rfl, (blk_cell BK353.out 4).trans rfl, (blk_cell BK353.out 5).trans rfl, (blk_cell BK353.out 6).trans rfl, (blk_cell BK353.out 7).trans rfl⟩ (fun hHeld => ?_); clear hK K; refine nA 37 ?_; refine one_ (i := 1) (N := some 34) #[true, true, true, true, true, false, false] rfl rfl (by kernel_rfl) (by decide) (fun K hK => ?_); refine gA Try.func99 #[.slice A0 l0.length c0] ?_; (with_reducible refine (slices_Clone_implOrderLine.calls _ _ l0 t362 _ ?side1 ?side2 A21.out).mono ?_)
              (case side1 => repeat (first | exact (Kd.C_below HR0.out HB.out) | (with_reducible refine Kd.C_alloc ?_ _) | (with_reducible refine Kd.C_drewN ?_ _) | (with_reducible refine Kd.C_drew ?_)))
              (case side2 => exact HC0.out)
              rintro e w26 ⟨v363, rfl, ho0, hb⟩; refine ⟨_, rfl, ?_⟩; have HO364 := Aside0.mk (Kd.R_lower (Kd.R_newB (Kd.R_new' ho0 (Kd.R_lt (rs HO367))) (g := gb353) (o := .cells #[.string a1_0, .string a1_1, .int .i64 a1_2, .string a1_3, .int .i64 a1_4, .int .i64 a1_5, .int .i64 a1_6, .int .i64 a1_7] 54 (0, 0)) (ks BK353)) (below_size (bs HB))); replace HO367 := Aside0.mk (Kd.R_elder' (rs HO367) (Kd.R_base ho0) hb); replace BK353 := Aside0.mk (blk_below (ks BK353) hb); replace HB := Aside0.mk (below_step (bs HB) hb); (try clear hb); (try clear hb2); (try clear hk); (try clear hi); (try clear ho0); refine hK.out _ _ ⟨(blk_cell BK353.out 0).trans rfl, (blk_cell BK353.out 1).trans rfl, (blk_cell BK353.out 2).trans rfl, (blk_cell BK353.out 3).trans rfl, (blk_cell BK353.out 4).trans rfl, (blk_cell BK353.out 5).trans rfl, (blk_cell BK353.out 6).trans rfl, (blk_cell BK353.out 7).trans rfl⟩ (fun hHeld => ?_); clear hK K; refine nA 34 ?_
              exact norm_ (by simp only [putAll, Act.put, List.setIfInBounds_toArray, List.set_cons_zero, List.set_cons_succ]) (hCont (v363, v366) _ ⟨hHeld, (by (with_reducible repeat (first | apply Kd.R_alloc | apply Kd.R_drewN | apply Kd.R_drew)); exact Kd.R_mono HO364.out (fun _ hk => ⟨hk.1.2, hk.2⟩)), (by (with_reducible repeat (first | apply Kd.R_alloc | apply Kd.R_drewN | apply Kd.R_drew)); exact Kd.R_mono HO367.out (fun _ hk => ⟨hk.2, hk.1.2⟩)), (ks BK353), (bs HB)⟩)
          rintro ⟨v363, v366⟩ w27 ⟨hS_, h0_, h1_, h2_, h3_⟩; have n0_ : Aside0 (Kd.R k54 54 w27 w.heap.size (fun k_ => some k_ ≠ (v366 : Value).ownBlock ∧ k_ ≠ gb353) v363 t362) := ⟨h0_⟩; have n1_ : Aside0 (Kd.R k54 54 w27 w.heap.size (fun k_ => some k_ ≠ (v363 : Value).ownBlock ∧ k_ ≠ gb353) v366 y365) := ⟨h1_⟩; have n2_ : Aside0 (w27.heap[gb353]? = some (.cells #[.string a1_0, .string a1_1, .int .i64 a1_2, .string a1_3, .int .i64 a1_4, .int .i64 a1_5, .int .i64 a1_6, .int .i64 a1_7] 54 (0, 0))) := ⟨h2_⟩; have n3_ : Aside0 (Below w.heap.size w w27) := ⟨h3_⟩; clear BK353; clear HB; clear h0_ h1_ h2_ h3_; have HO364 := n0_; have HO367 := n1_; have BK353 := n2_; have HB := n3_; clear n0_ n1_ n2_ n3_; have hHeld : w27.cell? ⟨gb353, 0, none⟩ = some (.string a1_0) ∧ w27.cell? ⟨gb353, 1, none⟩ = some (.string a1_1) ∧ w27.cell? ⟨gb353, 2, none⟩ = some (.int .i64 a1_2) ∧ w27.cell? ⟨gb353, 3, none⟩ = some (.string a1_3) ∧ w27.cell? ⟨gb353, 4, none⟩ = some (.int .i64 a1_4) ∧ w27.cell? ⟨gb353, 5, none⟩ = some (.int .i64 a1_5) ∧ w27.cell? ⟨gb353, 6, none⟩ = some (.int .i64 a1_6) ∧ w27.cell? ⟨gb353, 7, none⟩ = some (.int .i64 a1_7) := hS_; obtain ⟨Ao28, co28, eo28⟩ := Kd.R_slice HO364.out
          (first | subst eo28 | (injection eo28 with f1_ f2_ f3_; have f4_ := f1_.symm; have f5_ := f3_.symm; clear f1_ f2_ f3_; subst f4_; subst f5_))
          obtain ⟨Ao29, co29, eo29⟩ := Kd.R_slice HO367.out
          (first | subst eo29 | (injection eo29 with f1_ f2_ f3_; have f4_ := f1_.symm; have f5_ := f3_.symm; clear f1_ f2_ f3_; subst f4_; subst f5_))
          refine norm_ (a' := ?_) ?_ ?_
          rotate_left
          · simp only [putAll, Act.put, List.setIfInBounds_toArray, List.set_cons_zero, List.set_cons_succ]
            rfl
          refine one_ (i := 5) (N := some 38) #[true, true, true, true, true, true, false] rfl rfl (by kernel_rfl) (by decide) (fun K hK => ?_); refine gA Try.func100 #[.slice Ao28 t362.length co28, .int .i64 t355, .slice Ao29 y365.length co29] ?_; (with_reducible refine (slices_Insert_implOrderLine.calls (fun k_ => some k_ = (.slice Ao28 t362.length co28 : Value).ownBlock) (.slice Ao28 t362.length co28) t362 t355 (fun k_ => some k_ = (.slice Ao29 y365.length co29 : Value).ownBlock) (.slice Ao29 y365.length co29) y365 t368 w _ ?side1 ?side2 ?side3 ?side4 ?side5 A22.out).mono ?_)
          (case side1 => repeat (first | (with_reducible first | exact HB.out | apply below_alloc | apply pw_below_drewN | apply below_drew1 | refine below_set ?_ GE353.out) | exact HB.out))
          (case side2 => exact Kd.R_tight rfl HO364.out)
          (case side3 => exact fun k_ e_ => (HO364.out.1 k_ e_.symm).1)
          (case side4 => exact Kd.R_tight rfl HO367.out)
          (case side5 => exact fun k_ e_ => (HO367.out.1 k_ e_.symm).1)
          rintro e w30 ⟨v369, rfl, ho0, hb, hkp⟩; refine ⟨_, rfl, ?_⟩; have n0_ := Aside0.mk (blk_kept (ks BK353) hkp (fun hs_ => Or.elim hs_ (fun e_ => (fun e_ => (Kd.R_away HO364.out (fun _ hk => hk.2)) e_) e_) (fun e_ => (fun e_ => (Kd.R_away HO367.out (fun _ hk => hk.2)) e_) e_))); have n1_ := Aside0.mk (Kd.R_mono (ok' := fun k_ => k_ ≠ gb353) ho0 (fun k_ hk_ => Or.elim hk_ (fun hs_ => Or.elim hs_ (fun hs_ => fun e_ => (Kd.R_away HO364.out (fun _ hk => hk.2)) (by rw [← e_]; exact hs_)) (fun hs_ => fun e_ => (Kd.R_away HO367.out (fun _ hk => hk.2)) (by rw [← e_]; exact hs_))) (fun hn_ => (Kd.freshB (g := gb353) (o := .cells #[.string a1_0, .string a1_1, .int .i64 a1_2, .string a1_3, .int .i64 a1_4, .int .i64 a1_5, .int .i64 a1_6, .int .i64 a1_7] 54 (0, 0)) (ks BK353) k_ hn_)))); have n2_ := Aside0.mk (hb); clear BK353; clear HB; clear HO364; clear HO367; have BK353 := n0_; have HO370 := n1_; have HB := n2_; clear n0_ n1_ n2_; (try clear hb); (try clear hkp); (try clear ho0); refine hK.out _ _ ⟨(blk_cell BK353.out 0).trans rfl, (blk_cell BK353.out 1).trans rfl, (blk_cell BK353.out 2).trans rfl, (blk_cell BK353.out 3).trans rfl, (blk_cell BK353.out 4).trans rfl, (blk_cell BK353.out 5).trans rfl, (blk_cell BK353.out 6).trans rfl, (blk_cell BK353.out 7).trans rfl⟩ (fun hHeld => ?_); clear hK K; refine nA 38 ?_; refine pure_ (i := 6) (N := some 4) (v := ?_) (a' := ?_) #[true, true, true, true, true, true, true] rfl rfl (by kernel_rfl) (fun _ _ _ h => h) (Or.inl ⟨by rfl, ?_⟩) ?_ ?_
          rotate_left
          · intro w'
            go_simp
            (with_reducible rfl)
          rotate_left
          · simp only [Act.put, List.setIfInBounds_toArray, List.set_cons_zero, List.set_cons_succ, i64_w, i32_w]
            rfl
          refine done_ (by kernel_rfl) ?_
          try go_wp2
          go_ret
          exact ⟨_, ff, by (with_reducible repeat (first | apply Kd.R_alloc | apply Kd.R_drewN | apply Kd.R_drew)); exact Kd.R_mono HO370.out (fun _ hk => trivial), bs HB⟩
end Go.Proofs.Ytefmkmhjbfpelaa.QP
