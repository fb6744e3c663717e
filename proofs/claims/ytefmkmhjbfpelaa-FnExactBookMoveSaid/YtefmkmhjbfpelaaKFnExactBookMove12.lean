-- Merged by a program of this session (wip/tool/pack.py) out of its own texts for this claim.
import Derived.Test.YtefmkmhjbfpelaaKFnExactBookMove0
import Derived.Test.YtefmkmhjbfpelaaKFnExactBookMove1
import Derived.Test.YtefmkmhjbfpelaaKFnExactBookMove2
import Derived.Test.YtefmkmhjbfpelaaKFnExactBookMove3
import Derived.Test.YtefmkmhjbfpelaaKFnExactBookMove6
import Derived.Test.YtefmkmhjbfpelaaKFnExactBookMove7
import Derived.Test.YtefmkmhjbfpelaaKFnExactBookMove9
import Derived.Test.YtefmkmhjbfpelaaKFnExactBookMove10
import Derived.Test.YtefmkmhjbfpelaaKFnExactBookMove11
namespace Go.Proofs.Ytefmkmhjbfpelaa.QM
open Go.RowKit Go.Proofs.YtefmkmhjbfpelaaW.PrintWords Go.Proofs.YtefmkmhjbfpelaaW.PrintLast Go.Proofs.YtefmkmhjbfpelaaW.PrintMore
attribute [local go_sem] max2_int min2_int max_two min_two max_three min_three max_four min_four   -- for this text's walks alone
set_option linter.unusedVariables false
set_option linter.unusedSimpArgs false
set_option maxHeartbeats 8000000 in
set_option maxRecDepth 100000 in
theorem slices_Insert_implStock_end (P0_ : Nat → Prop) (u : Value) (l0 : List S117) (P2_ : Nat → Prop) (u2 : Value) (l2 : List S117) (w0 w : World) (hB : Below w0.heap.size w0 w) (ho0 : Kd.R k117 117 w w0.heap.size P0_ u l0) (ho2 : Kd.R k117 117 w w0.heap.size P2_ u2 l2) (hl : l0.length + 1 < 5864062014805) (h1 : l2.length = 1) :
    Calls Try.prog 156 #[u, .int .i64 l0.length, u2] w fun e w' => ∃ v0_ : Value, e = .returned (v0_) ∧ Kd.R k117 117 w' w0.heap.size (fun k_ => ((P0_ k_ ∨ P2_ k_) ∨ w.heap.size ≤ k_)) v0_ (l0 ++ l2) ∧ Below w0.heap.size w0 w' ∧ Kept w w' (fun k_ => P0_ k_ ∨ P2_ k_) := by
  have HB := Aside0.mk hB; have HO := Aside0.mk (show Kd.R k117 117 w w0.heap.size (fun k_ => P0_ k_ ∨ w.heap.size ≤ k_) u l0 from Kd.R_mono ho0 (fun k hk => .inl hk)); have HP := Aside0.mk ho0; have HL := Aside0.mk hl; obtain ⟨A2, c2, rfl, hc2, hC2⟩ := Kd.R_reads ho2; have HC := Aside0.mk hC2; rw [h1]
  rw [h1] at HC hc2
  have HZ := Aside0.mk hB.size
  have hs : (u = .slice none 0 0 ∧ l0.length = 0) ∨ ∃ g cap, u = .slice (some ⟨g, 0, none⟩) l0.length cap ∧ l0.length ≤ cap := by
    obtain ⟨_, inner, hown, _⟩ := ho0
    rcases hown.2 with h | ⟨g, cap, cur, e, _, _, hle, _⟩
    · exact .inl h
    · exact .inr ⟨g, cap, e, hle⟩
  clear hB ho0 ho2 hl hC2 hc2; have key : ∀ (u : Value), Aside0 (Kd.R k117 117 w w0.heap.size (fun k_ => P0_ k_ ∨ w.heap.size ≤ k_) u l0) → Aside0 (Kd.R k117 117 w w0.heap.size P0_ u l0) →
      ((u = .slice none 0 0 ∧ l0.length = 0) ∨ ∃ g cap, u = .slice (some ⟨g, 0, none⟩) l0.length cap ∧ l0.length ≤ cap) → Calls Try.prog 156 #[u, .int .i64 l0.length, .slice A2 1 c2] w fun e w' => ∃ v0_ : Value, e = .returned (v0_) ∧ Kd.R k117 117 w' w0.heap.size (fun k_ => ((P0_ k_ ∨ P2_ k_) ∨ w.heap.size ≤ k_)) v0_ (l0 ++ l2) ∧ Below w0.heap.size w0 w' ∧ Kept w w' (fun k_ => P0_ k_ ∨ P2_ k_) := by
    intro u HO HP hs
    rcases hs with ⟨e, h0⟩ | ⟨g, cap, e, hle⟩
    · subst e; rw [h0]; clear h0
      go_enter Try.func156, Try.ntmps156
      go_wp2_with ((with_reducible refine gate_builtin (b := .append) (xs := #[.tmp 23, .tmp 24]) rfl ?_); at_builtin; refine Kd.R_append_rows k117 (w0 := w0) w0.heap.size rfl (.tmp 23) (.tmp 24) 44 117 ((.agg #[(.string ⟨#[]⟩), (.int .i64 0)])) 24 rfl Try.underlying44 info117 rfl (by decide) (by omega) _ l0 l2 A2 1 c2 _ (fun _ => False) rfl rfl HO.out HC.out (fun _ _ h => h) (fun _ h => h.elim) (fun k hk => .inr hk) HB.out HZ.out (by have := HL.out; omega) ?_; intro v2 w6 ho hb hg hat; have HO2 := Aside0.mk ho; have HG := Aside0.mk hg; replace HB := Aside0.mk hb; clear ho hb hg hat)
      go_ret
      exact ⟨_, rfl, Kd.R_mono HO2.out (fun k hk => hk.elim (fun h => .inl (.inl h)) .inr), HB.out, Kept.of_grown HG.out (Kept.refl _ _) (fun k hk => by cases hk)⟩
    · subst e
      have hq : ¬ ((l0.length : Int) < 0) := by omega
      by_cases hcap : cap = l0.length
      · subst hcap
        go_enter Try.func156, Try.ntmps156
        go_wp2_with ((with_reducible refine gate_builtin (b := .append) (xs := #[.tmp 23, .tmp 24]) rfl ?_); at_builtin; refine Kd.R_append_rows k117 (w0 := w0) w0.heap.size rfl (.tmp 23) (.tmp 24) 44 117 ((.agg #[(.string ⟨#[]⟩), (.int .i64 0)])) 24 rfl Try.underlying44 info117 rfl (by decide) (by omega) (.slice (some ⟨g, 0, none⟩) l0.length l0.length) l0 l2 A2 1 c2 _ (fun _ => False) rfl rfl HO.out HC.out (fun _ _ h => h) (fun _ h => h.elim) (fun k hk => .inr hk) HB.out HZ.out (by have := HL.out; omega) ?_; intro v2 w6 ho hb hg hat; have HO2 := Aside0.mk ho; have HG := Aside0.mk hg; replace HB := Aside0.mk hb; clear ho hb hg hat)
        go_ret
        exact ⟨_, rfl, Kd.R_mono HO2.out (fun k hk => hk.elim (fun h => .inl (.inl h)) .inr), HB.out, Kept.of_grown HG.out (Kept.refl _ _) (fun k hk => .inl (.inl (HP.out.1 k hk)))⟩
      · skip
        go_enter Try.func156, Try.ntmps156
        go_wp2_with ((with_reducible refine gate_builtin (b := .append) (xs := #[.tmp 23, .tmp 24]) rfl ?_); at_builtin; refine Kd.R_append_rows k117 (w0 := w0) w0.heap.size rfl (.tmp 23) (.tmp 24) 44 117 ((.agg #[(.string ⟨#[]⟩), (.int .i64 0)])) 24 rfl Try.underlying44 info117 rfl (by decide) (by omega) (.slice (some ⟨g, 0, none⟩) l0.length cap) l0 l2 A2 1 c2 _ (fun _ => False) rfl rfl HO.out HC.out (fun _ _ h => h) (fun _ h => h.elim) (fun k hk => .inr hk) HB.out HZ.out (by have := HL.out; omega) ?_; intro v2 w6 ho hb hg hat; have HO2 := Aside0.mk ho; have HG := Aside0.mk hg; replace HB := Aside0.mk hb; clear ho hb hg hat)
        go_ret
        exact ⟨_, rfl, Kd.R_mono HO2.out (fun k hk => hk.elim (fun h => .inl (.inl h)) .inr), HB.out, Kept.of_grown HG.out (Kept.refl _ _) (fun k hk => .inl (.inl (HP.out.1 k hk)))⟩
  exact key u HO HP hs
set_option maxHeartbeats 8000000 in
set_option maxRecDepth 100000 in
theorem slices_Insert_implStock_room (P0_ : Nat → Prop) (u : Value) (l0 : List S117) (P2_ : Nat → Prop) (u2 : Value) (l2 : List S117) (i g cap : Nat) (w0 w : World) (hB : Below w0.heap.size w0 w) (ho0 : Kd.R k117 117 w w0.heap.size P0_ u l0) (hp : ∀ k_, P0_ k_ → ¬ P2_ k_) (ho2 : Kd.R k117 117 w w0.heap.size P2_ u2 l2) (h1 : l2.length = 1) (hi : i < l0.length) (hu : u = .slice (some ⟨g, 0, none⟩) l0.length cap) (hroom : l0.length + 1 ≤ cap) :
    Calls Try.prog 156 #[u, .int .i64 i, u2] w fun e w' => ∃ v0_ : Value, e = .returned (v0_) ∧ Kd.R k117 117 w' w0.heap.size (fun k_ => ((P0_ k_ ∨ P2_ k_) ∨ w.heap.size ≤ k_)) v0_ (l0.take i ++ l2 ++ l0.drop i) ∧ Below w0.heap.size w0 w' ∧ Kept w w' (fun k_ => P0_ k_ ∨ P2_ k_) := by
  rcases r_row ho0 with ⟨_, h0⟩ | ⟨g', cap', cur, e1, hbg, hPg, hg, hle, hm, hs, hr0, hone0⟩
  · subst h0; simp at hi
  rw [hu] at e1
  injection e1 with e1a e1b e1c
  injection e1a with e1a
  injection e1a with e1a
  subst e1a e1c hu
  rcases r_row ho2 with ⟨_, h0⟩ | ⟨gv, capv, curv, rfl, hbgv, hPv, hgv, hlev, hmv, hsv, hrv, honev⟩
  · subst h0; simp at h1
  rw [h1] at hrv honev hlev ⊢
  have hne : gv ≠ g := fun e => hp g hPg (e ▸ hPv)
  have hsz : (k117).sz = 2 := rfl
  rw [hsz] at hs hr0 hone0 hrv honev hsv
  obtain ⟨V, hV⟩ : ∃ V, V = curv.toList.take (1 * 2) := ⟨_, rfl⟩
  rw [← hV] at hrv honev
  have hVl : V.length = 2 := by rw [hV, List.length_take]; simp; omega
  obtain ⟨C, hC⟩ : ∃ C, C = cur.toList := ⟨_, rfl⟩
  rw [← hC] at hr0 hone0
  have hCl : C.length = cap * 2 := by rw [hC]; simpa using hs
  have hg' : w.heap[g]? = some (.cells C.toArray 117 (0, 0)) := by rw [hC]; simpa using hg
  have hN : l0.length * 2 + 2 ≤ C.length := by rw [hCl]; omega
  obtain ⟨X, hX⟩ : ∃ X, X = (C.take (l0.length * 2)).drop (i * 2) := ⟨_, rfl⟩
  have hXl : X.length = (l0.length - i) * 2 := by rw [hX, List.length_drop, List.length_take]; omega
  have hXo : ∀ v ∈ X, v.oneCell' = true := fun v hv => hone0 v (List.mem_of_mem_drop (hX ▸ hv))
  obtain ⟨C1, hC1⟩ : ∃ C1, C1 = splice C (i * 2 + 2) X := ⟨_, rfl⟩; obtain ⟨C2, hC2⟩ : ∃ C2, C2 = splice C1 (i * 2) V := ⟨_, rfl⟩; have hfin := ins_room C (l0.length * 2) (i * 2) 2 V (by omega) hVl hN
  rw [← hX, ← hC1, ← hC2] at hfin
  have hC1l : C1.length = C.length := by rw [hC1]; exact length_splice _ _ _ (by omega)
  have hcp1 : ∀ W : World, W.heap = w.heap → ∀ ty dc sc, (Builtin.copy_ #[44, 44] ty #[.slice (some ⟨g, (i + 1) * 2, none⟩) (l0.length - i) dc, .slice (some ⟨g, i * 2, none⟩) (l0.length + 1 - i) sc]).run Try.prog W = .ok (goInt ((l0.length - i : Nat) : Int)) (W.setRow g C1.toArray) := by
    intro W hW ty dc sc
    have hmin : Nat.min (l0.length + 1 - i) (l0.length - i) = l0.length - i := by simp only [Nat.min_def]; split <;> omega
    have h := run_copyN (P := Try.prog) W 44 44 ty 117 2 g ((i + 1) * 2) (l0.length - i) dc ⟨g, i * 2, none⟩ (l0.length + 1 - i) sc C 117 X Try.underlying44 (info_sz info117)
      (by rw [hW]; exact hg') (by rw [hmin, hXl]) (cellrow (cur := C.toArray) (by rw [hW]; exact hg') _ _ (fun j v hj => by
        rw [hX, List.getElem?_drop, List.getElem?_take] at hj
        split at hj
        · simpa using hj
        · cases hj)) (by omega) hXo
    rw [hmin] at h
    rw [h, hC1]
    have e : (i + 1) * 2 = i * 2 + 2 := by omega
    rw [e]
  have hcp2 : ∀ W : World, W.heap = (w.setRow g C1.toArray).heap → ∀ ty dc, (Builtin.copy_ #[44, 44] ty #[.slice (some ⟨g, i * 2, none⟩) (l0.length + 1 - i) dc, .slice (some ⟨gv, 0, none⟩) 1 capv]).run Try.prog W = .ok (goInt ((1 : Nat) : Int)) (W.setRow g C2.toArray) := by
    intro W hW ty dc
    have hmin : Nat.min 1 (l0.length + 1 - i) = 1 := by simp only [Nat.min_def]; split <;> omega
    have hWg : W.heap[g]? = some (.cells C1.toArray 117 (0, 0)) := by rw [hW]; exact setRow_heap w g _ _ _ _ hg'
    have hWv : W.heap[gv]? = some (.cells curv 117 (0, 0)) := by rw [hW, setRow_other _ _ _ _ hne]; exact hgv
    have h := run_copyN (P := Try.prog) W 44 44 ty 117 2 g (i * 2) (l0.length + 1 - i) dc ⟨gv, 0, none⟩ 1 capv C1 117 V Try.underlying44 (info_sz info117)
      hWg (by rw [hmin, hVl, Nat.one_mul]) (cellrow hWv _ _ (fun j v hj => by
        rw [hV, List.getElem?_take] at hj
        split at hj
        · simpa using hj
        · cases hj)) (by omega) honev
    rw [hmin] at h
    rw [h, hC2]
  have hov : ∀ lb cb, (callFunc 165 #[.slice (some ⟨gv, 0, none⟩) 1 capv, .slice (some ⟨g, (i + 1) * 2, none⟩) lb cb]).run Try.prog w = .ok (.value (.bool false)) w := fun lb cb => by
    rw [run_callFunc_extern Try.func165 (by kernel_rfl) (by kernel_rfl) (by kernel_rfl) (e := Extern.SlicesOverlaps.overlaps #[44, 44] #[4]) (by kernel_rfl),
      Lib.run_overlaps_apart w 44 4 117 Try.underlying44 2 (fun w => by kernel_rfl) ⟨gv, 0, none⟩ ⟨g, (i + 1) * 2, none⟩ 1 capv lb cb hne 117 117 curv.size C.toArray.size (by simp [World.shape?, hgv]) (by simp [World.shape?, hg']) (by rw [List.size_toArray]; omega) (by simp [World.frozen?, hgv]) (by simp [World.frozen?, hgv])]
    rfl
  have hw1 : IntKind.i64.wrap ((i : Int) + 1) = (i : Int) + 1 := by rw [IntKind.wrap_i64]; unfold maxLen at hm; omega
  have hw2 : IntKind.i64.wrap ((l0.length : Int) + 1) = (l0.length : Int) + 1 := by rw [IntKind.wrap_i64]; unfold maxLen at hm; omega
  have hb1 : (0 : Int) ≤ (i : Int) + 1 := by omega
  have htn : ((i : Int) + 1).toNat = i + 1 := by omega
  have htn2 : ((l0.length : Int) + 1).toNat = l0.length + 1 := by omega
  have hz2 : ¬ ((i : Int) = (l0.length : Int)) := by omega
  have hz3 : ¬ ((cap : Int) < (l0.length : Int) + 1) := by omega
  have hb2 : ¬ (cap = i + 1) := by omega
  have hb4 : ¬ (cap = i) := by omega
  have hb5 : i ≤ l0.length := by omega
  have hb6 : i + 1 ≤ l0.length + 1 := by omega
  have hb7 : (i : Int) ≤ (l0.length : Int) + 1 := by omega
  have HR := Aside0.mk hr0; have HV := Aside0.mk hrv; have HF := Aside0.mk hfin; have HB := Aside0.mk hB; have HG := Aside0.mk hg'; have HM := Aside0.mk hm; have HL := Aside0.mk hCl; have HS0 := Aside0.mk hbg; have HP0 := Aside0.mk hPg; have HC1 := Aside0.mk hC1l; have HXD := Aside0.mk hX; have HH1 := Aside0.mk h1; have HVL := Aside0.mk hVl; clear hr0 hrv hfin hB hg' hm hCl hbg hPg hC1l hX hC1 hC2 hV hC hXl hXo hVl hg hgv hs hsv hlev hmv hle ho0 ho2 hone0 honev hN hPv hbgv h1 hsz
  go_enter Try.func156, Try.ntmps156
  go_wp2_with (simp only [hov])
  go_region_law (refine step_copyN rfl (.tmp 73) (.tmp 76) 44 44 rfl (.slice (some ⟨g, (i + 1) * 2, none⟩) (l0.length - i) (cap - (i + 1))) (.slice (some ⟨g, i * 2, none⟩) (l0.length + 1 - i) (cap - i)) (by simp [Act.eval, Act.put]) (by simp [Act.eval, Act.put]) (hcp1 w.drew rfl 3 (cap - (i + 1)) (cap - i)) ?_)
  go_wp2_with ((with_reducible refine gate_builtin (b := .copy) (xs := #[.tmp 80, .tmp 81]) rfl ?_); refine wpList_copyN rfl (.tmp 80) (.tmp 81) 44 44 rfl (.slice (some ⟨g, i * 2, none⟩) (l0.length + 1 - i) (cap - i)) (.slice (some ⟨gv, 0, none⟩) 1 capv) rfl rfl (hcp2 (w.drew.setRow g C1.toArray) rfl 3 (cap - i)) ?_)
  go_ret
  refine ⟨.slice (some ⟨g, 0, none⟩) (l0.length + 1) cap, rfl, ?_, ?_, ?_⟩
  · have hlen : (l0.take i ++ l2 ++ l0.drop i).length = l0.length + 1 := by simp [HH1.out]; omega
    have e5 : (l0.length + 1) * 2 = l0.length * 2 + 2 := by omega
    rw [← hlen]; refine r_mk (L := C2) rfl (setRow_heap _ g _ _ _ _ (setRow_heap w.drew g _ _ _ _ HG.out)) HS0.out (.inl (.inl HP0.out)) (by rw [hlen]; exact hroom) HM.out (HF.out.2.trans HL.out) ?_; rw [hlen]
    show Reps _ 2 _ (C2.take ((l0.length + 1) * 2))
    rw [e5, HF.out.1]
    exact reps_app (reps_app (reps_take HR.out i) HV.out) (HXD.out ▸ reps_drop HR.out i)
  · exact below_setRow (below_setRow (below_drew1 HB.out) HS0.out _) HS0.out _
  · exact kept_setRow (kept_setRow (Kept.drew (Kept.refl _ _)) (.inl (.inl HP0.out)) _) (.inl (.inl HP0.out)) _
set_option maxHeartbeats 8000000 in
set_option maxRecDepth 100000 in
theorem slices_Insert_implStock_grow (P0_ : Nat → Prop) (u : Value) (l0 : List S117) (P2_ : Nat → Prop) (u2 : Value) (l2 : List S117) (i g cap : Nat) (w0 w : World) (hB : Below w0.heap.size w0 w) (ho0 : Kd.R k117 117 w w0.heap.size P0_ u l0) (ho2 : Kd.R k117 117 w w0.heap.size P2_ u2 l2) (h1 : l2.length = 1) (hi : i < l0.length) (hu : u = .slice (some ⟨g, 0, none⟩) l0.length cap) (hroom : ¬ l0.length + 1 ≤ cap) (hlim : l0.length + 1 < 5864062014805) :
    Calls Try.prog 156 #[u, .int .i64 i, u2] w fun e w' => ∃ v0_ : Value, e = .returned (v0_) ∧ Kd.R k117 117 w' w0.heap.size (fun k_ => ((P0_ k_ ∨ P2_ k_) ∨ w.heap.size ≤ k_)) v0_ (l0.take i ++ l2 ++ l0.drop i) ∧ Below w0.heap.size w0 w' ∧ Kept w w' (fun k_ => P0_ k_ ∨ P2_ k_) := by
  rcases r_row ho0 with ⟨_, h0⟩ | ⟨g', cap', cur, e1, hbg, hPg, hg, hle, hm, hs, hr0, hone0⟩
  · subst h0; simp at hi
  rw [hu] at e1
  injection e1 with e1a e1b e1c
  injection e1a with e1a
  injection e1a with e1a
  subst e1a e1c hu
  rcases r_row ho2 with ⟨_, h0⟩ | ⟨gv, capv, curv, rfl, hbgv, hPv, hgv, hlev, hmv, hsv, hrv, honev⟩
  · subst h0; simp at h1
  rw [h1] at hrv honev hlev ⊢
  have hsz : (k117).sz = 2 := rfl
  rw [hsz] at hs hr0 hone0 hrv honev hsv
  have hglt : g < w.heap.size := (Array.getElem?_eq_some_iff.1 hg).1; have hvlt : gv < w.heap.size := (Array.getElem?_eq_some_iff.1 hgv).1; obtain ⟨V, hV⟩ : ∃ V, V = curv.toList.take (1 * 2) := ⟨_, rfl⟩
  rw [← hV] at hrv honev
  have hVl : V.length = 2 := by rw [hV, List.length_take]; simp; omega
  obtain ⟨C, hC⟩ : ∃ C, C = cur.toList := ⟨_, rfl⟩
  rw [← hC] at hr0 hone0
  have hCl : C.length = cap * 2 := by rw [hC]; simpa using hs
  have hg' : w.heap[g]? = some (.cells C.toArray 117 (0, 0)) := by rw [hC]; simpa using hg
  obtain ⟨X, hX⟩ : ∃ X, X = (C.take (l0.length * 2)).drop (i * 2) := ⟨_, rfl⟩
  have hXl : X.length = (l0.length - i) * 2 := by rw [hX, List.length_drop, List.length_take]; omega
  have hXo : ∀ v ∈ X, v.oneCell' = true := fun v hv => hone0 v (List.mem_of_mem_drop (hX ▸ hv))
  obtain ⟨O, hO⟩ : ∃ O, O = (C.take (l0.length * 2)).take (i * 2) := ⟨_, rfl⟩
  have hOl : O.length = i * 2 := by rw [hO, List.length_take, List.length_take]; omega
  obtain ⟨i0, hi0, hz⟩ := Option.map_eq_some_iff.1 info117
  simp only [Prod.mk.injEq] at hz
  obtain ⟨hz0, hz1, hz2⟩ := hz
  have hk : i + (l0.length + 1 - i) = l0.length + 1 := by omega
  obtain ⟨G, hG⟩ : ∃ G, G = grownCap w (l0.length + 1) cap 117 := ⟨_, rfl⟩
  have hGn : l0.length + 1 ≤ G := by rw [hG]; exact grownCap_ge w _ _ _
  have hGm : G ≤ maxLen := by rw [hG]; exact grownCap_le_maxLen w _ _ _ (by unfold maxLen; omega)
  obtain ⟨Z, hZ⟩ : ∃ Z : List Value, Z = (O.toArray ++ Builtin.zeroCells ((.agg #[(.string ⟨#[]⟩), (.int .i64 0)]) : Value).cells (l0.length + 1 - i) ++ Builtin.zeroCells ((.agg #[(.string ⟨#[]⟩), (.int .i64 0)]) : Value).cells (G - (l0.length + 1))).toList := ⟨_, rfl⟩
  have hZl : Z.length = G * 2 := by
    have e : ((.agg #[(.string ⟨#[]⟩), (.int .i64 0)]) : Value).cells.size = 2 := rfl; rw [hZ]; simp only [Array.length_toList, Array.size_append, size_zeroCells, List.size_toArray, e, hOl]
    omega
  have hZt : Z.take (i * 2) = O := by
    rw [hZ]; simp only [Array.toList_append, List.append_assoc]; rw [List.take_append_of_le_length (by simp [hOl]), List.take_of_length_le (by simp [hOl])]
  have hrz : ∀ ty, (Builtin.append_ #[44, 3] ty #[.slice (some ⟨g, 0, none⟩) i cap, .int .i64 ((l0.length : Int) + 1 - (i : Int))]).run Try.prog w = .ok (.slice (some ⟨w.heap.size, 0, none⟩) (l0.length + 1) G) (w.drew.alloc (.cells Z.toArray 117)) := by
    intro ty
    have hold : (Builtin.firstCells i0.size i (.slice (some ⟨g, 0, none⟩) i cap)).run Try.prog w.drew = .ok O.toArray w.drew := by
      rw [hz1]
      exact run_firstCells_some w.drew 2 i ⟨g, 0, none⟩ i cap O hOl (cellrow (w := w.drew) (cur := C.toArray) hg' 0 _ (fun j v hj => by
        rw [hO, List.getElem?_take, List.getElem?_take] at hj
        split at hj
        · split at hj
          · simpa using hj
          · cases hj
        · cases hj))
    have hbig : (l0.length + 1) * i0.bytes ≤ 140737488355328 := by rw [hz2]; omega
    have h := Lib.run_append_grow_zeros (P := Try.prog) w 44 3 ty 117 i0 ((.agg #[(.string ⟨#[]⟩), (.int .i64 0)])) .i64 .i64 Try.underlying44 Try.underlying3 hi0 hz0 (some ⟨g, 0, none⟩) i cap O hold (l0.length + 1 - i) (by omega) (by rw [hz1]; omega) (by omega) (by omega) (by rw [hz2]; omega) (by rw [hk]; exact growslice_fits (by omega) hbig)
    rw [hk, ← hG] at h
    have e : ((l0.length : Int) + 1 - (i : Int)) = ((l0.length + 1 - i : Nat) : Int) := by omega
    rw [e, h, hZ]
  obtain ⟨Z1, hZ1⟩ : ∃ Z1, Z1 = splice Z (i * 2) V := ⟨_, rfl⟩; obtain ⟨Z2, hZ2⟩ : ∃ Z2, Z2 = splice Z1 (i * 2 + 2) X := ⟨_, rfl⟩
  have hZfit : i * 2 + 2 + X.length ≤ Z.length := by rw [hZl, hXl]; omega
  have hfin := ins_new Z (i * 2) 2 V X hVl hZfit
  rw [← hZ1, ← hZ2, hZt] at hfin
  have hZ1l : Z1.length = Z.length := by rw [hZ1]; exact length_splice _ _ _ (by omega)
  have hN0 : (w.drew.alloc (.cells Z.toArray 117)).heap[w.heap.size]? = some (.cells Z.toArray 117 (0, 0)) := heap_alloc_new w.drew _
  have hold_ : ∀ k, k < w.heap.size → (w.drew.alloc (.cells Z.toArray 117)).heap[k]? = w.heap[k]? := fun k hk => heap_alloc_old w.drew _ hk
  have hcp1 : ∀ W : World, W.heap = (w.drew.alloc (.cells Z.toArray 117)).heap → ∀ ty dc, (Builtin.copy_ #[44, 44] ty #[.slice (some ⟨w.heap.size, i * 2, none⟩) (l0.length + 1 - i) dc, .slice (some ⟨gv, 0, none⟩) 1 capv]).run Try.prog W = .ok (goInt ((1 : Nat) : Int)) (W.setRow w.heap.size Z1.toArray) := by
    intro W hW ty dc
    have hmin : Nat.min 1 (l0.length + 1 - i) = 1 := by simp only [Nat.min_def]; split <;> omega
    have h := run_copyN (P := Try.prog) W 44 44 ty 117 2 w.heap.size (i * 2) (l0.length + 1 - i) dc ⟨gv, 0, none⟩ 1 capv Z 117 V Try.underlying44 (info_sz info117)
      (by rw [hW]; exact hN0) (by rw [hmin, hVl, Nat.one_mul]) (cellrow (by rw [hW, hold_ gv hvlt]; exact hgv) _ _ (fun j v hj => by
        rw [hV, List.getElem?_take] at hj
        split at hj
        · simpa using hj
        · cases hj)) (by omega) honev
    rw [hmin] at h
    rw [h, hZ1]
  have hcp2 : ∀ W : World, W.heap = ((w.drew.alloc (.cells Z.toArray 117)).setRow w.heap.size Z1.toArray).heap → ∀ ty dc sc, (Builtin.copy_ #[44, 44] ty #[.slice (some ⟨w.heap.size, (i + 1) * 2, none⟩) (l0.length - i) dc, .slice (some ⟨g, i * 2, none⟩) (l0.length - i) sc]).run Try.prog W = .ok (goInt ((l0.length - i : Nat) : Int)) (W.setRow w.heap.size Z2.toArray) := by
    intro W hW ty dc sc; have hmin : Nat.min (l0.length - i) (l0.length - i) = l0.length - i := Nat.min_self _; have h := run_copyN (P := Try.prog) W 44 44 ty 117 2 w.heap.size ((i + 1) * 2) (l0.length - i) dc ⟨g, i * 2, none⟩ (l0.length - i) sc Z1 117 X Try.underlying44 (info_sz info117)
      (by rw [hW]; exact setRow_heap _ _ _ _ _ _ hN0) (by rw [hmin, hXl]) (cellrow (cur := C.toArray) (by rw [hW, setRow_other _ _ _ _ (by omega), hold_ g hglt]; exact hg') _ _ (fun j v hj => by
        rw [hX, List.getElem?_drop, List.getElem?_take] at hj
        split at hj
        · simpa using hj
        · cases hj)) (by rw [hZ1l]; omega) hXo
    rw [hmin] at h
    have e : (i + 1) * 2 = i * 2 + 2 := by omega
    rw [h, hZ2, e]
  have hw1 : IntKind.i64.wrap ((i : Int) + 1) = (i : Int) + 1 := by rw [IntKind.wrap_i64]; unfold maxLen at hm; omega
  have hw2 : IntKind.i64.wrap ((l0.length : Int) + 1) = (l0.length : Int) + 1 := by rw [IntKind.wrap_i64]; unfold maxLen at hm; omega
  have hw3 : IntKind.i64.wrap ((l0.length : Int) + 1 - (i : Int)) = (l0.length : Int) + 1 - (i : Int) := by rw [IntKind.wrap_i64]; unfold maxLen at hm; omega
  have hb1 : (0 : Int) ≤ (i : Int) + 1 := by omega
  have htn : ((i : Int) + 1).toNat = i + 1 := by omega
  have htn2 : ((l0.length : Int) + 1).toNat = l0.length + 1 := by omega
  have hz2' : ¬ ((i : Int) = (l0.length : Int)) := by omega
  have hz3 : (cap : Int) < (l0.length : Int) + 1 := by omega
  have hb2 : ¬ (G = i + 1) := by omega
  have hb3 : ¬ (G = i) := by omega
  have hb4 : ¬ (cap = i) := by omega
  have hb5 : i ≤ l0.length := by omega
  have hb6 : i + 1 ≤ l0.length + 1 := by omega
  have hb7 : (i : Int) ≤ (l0.length : Int) + 1 := by omega
  have hb8 : i ≤ cap := by omega
  have hb9 : (i : Int) ≤ (l0.length : Int) := by omega
  have HR := Aside0.mk hr0; have HV := Aside0.mk hrv; have HF := Aside0.mk hfin; have HB := Aside0.mk hB; have HM := Aside0.mk hGm; have HL := Aside0.mk hZl; have HXD := Aside0.mk hX; have HXL := Aside0.mk hXl; have HOD := Aside0.mk hO; have HH1 := Aside0.mk h1; have HN := Aside0.mk hN0; have HGN := Aside0.mk hGn; clear hr0 hrv hfin hB hg' hm hCl hbg hPg hZ1l hX hZ1 hZ2 hV hC hXl hXo hVl hg hgv hs hsv hlev hmv hle ho0 ho2 hone0 honev hPv hbgv h1 hsz hO hOl hi0 hz0 hz1 hz2 hk hG hGm hZ hZl hZt hZfit hN0 hold_ hglt hvlt
  go_enter Try.func156, Try.ntmps156
  go_wp2_with (first | ((with_reducible refine gate_builtin (b := .append) (xs := #[.tmp 34, .tmp 39]) rfl ?_); refine wpList_runB rfl (.tmp 34) (.tmp 39) 44 3 rfl (.slice (some ⟨g, 0, none⟩) i cap) (.int .i64 ((l0.length : Int) + 1 - (i : Int))) rfl rfl (hrz _) ?_) | ((with_reducible refine gate_builtin (b := .copy) (xs := #[.tmp 43, .tmp 44]) rfl ?_); refine wpList_copyN rfl (.tmp 43) (.tmp 44) 44 44 rfl (.slice (some ⟨w.heap.size, i * 2, none⟩) (l0.length + 1 - i) (G - i)) (.slice (some ⟨gv, 0, none⟩) 1 capv) rfl rfl (hcp1 (w.drew.alloc (.cells Z.toArray 117)) rfl 3 (G - i)) ?_))
  go_region_law (refine step_copyN rfl (.tmp 50) (.tmp 53) 44 44 rfl (.slice (some ⟨w.heap.size, (i + 1) * 2, none⟩) (l0.length - i) (G - (i + 1))) (.slice (some ⟨g, i * 2, none⟩) (l0.length - i) (cap - i)) (by simp [Act.eval, Act.put]) (by simp [Act.eval, Act.put]) (hcp2 ((w.drew.alloc (.cells Z.toArray 117)).setRow w.heap.size Z1.toArray).drew rfl 3 (G - (i + 1)) (cap - i)) ?_)
  go_wp2
  go_ret
  refine ⟨.slice (some ⟨w.heap.size, 0, none⟩) (l0.length + 1) G, rfl, ?_, ?_, ?_⟩
  · have hlen : (l0.take i ++ l2 ++ l0.drop i).length = l0.length + 1 := by simp [HH1.out]; omega
    have e5 : (l0.length + 1) * 2 = i * 2 + 2 + X.length := by rw [HXL.out]; omega
    rw [← hlen]; refine r_mk (L := Z2) rfl (setRow_heap _ _ _ _ _ _ (setRow_heap _ _ _ _ _ _ HN.out)) HB.out.size (.inr (Nat.le_refl _)) (by rw [hlen]; exact HGN.out) HM.out (HF.out.2.trans HL.out) ?_; rw [hlen]
    show Reps _ 2 _ (Z2.take ((l0.length + 1) * 2))
    rw [e5, HF.out.1]
    exact reps_app (reps_app (HOD.out ▸ reps_take HR.out i) HV.out) (HXD.out ▸ reps_drop HR.out i)
  · exact below_setRow (below_drew1 (below_setRow (below_alloc (below_drew1 HB.out) _) HB.out.size _)) HB.out.size _
  · exact kept_setRow (Kept.drew (kept_setRow (Kept.alloc (Kept.drew (Kept.refl _ _)) _) (.inr (Nat.le_refl _)) _)) (.inr (Nat.le_refl _)) _
theorem slices_Insert_implStock.calls (P0_ : Nat → Prop) (u9000_ : Value) (l0 : List S117) (a1 : Int) (P2_ : Nat → Prop) (u9001_ : Value) (l2 : List S117) (r : List S117) (w0 w : World) (hB : Below w0.heap.size w0 w) (ho0 : Kd.R k117 117 w w0.heap.size P0_ u9000_ l0) (hp0_2 : ∀ k_, P0_ k_ → ¬ P2_ k_) (ho2 : Kd.R k117 117 w w0.heap.size P2_ u9001_ l2) (hp2_0 : ∀ k_, P2_ k_ → ¬ P0_ k_) (h : slices_Insert_implStock.f l0 a1 l2 = some r) :
    Calls Try.prog 156 #[u9000_, .int .i64 a1, u9001_] w fun e w' => ∃ v0_ : Value, e = .returned (v0_) ∧ Kd.R k117 117 w' w0.heap.size (fun k_ => ((P0_ k_ ∨ P2_ k_) ∨ w.heap.size ≤ k_)) v0_ r ∧ Below w0.heap.size w0 w' ∧ Kept w w' (fun k_ => (P0_ k_ ∨ P2_ k_)) := by
  unfold slices_Insert_implStock.f at h
  by_cases c1 : 0 ≤ a1
  · rw [if_pos c1] at h
    by_cases c2 : a1 ≤ (l0.length : Int)
    · rw [if_pos c2] at h
      by_cases c3 : l2.length = 1
      · rw [if_pos c3] at h
        by_cases c4 : l0.length + 1 < 5864062014805
        · rw [if_pos c4] at h
          obtain rfl := Option.some.inj h
          by_cases e : a1 = (l0.length : Int)
          · subst e; have := slices_Insert_implStock_end P0_ u9000_ l0 P2_ u9001_ l2 w0 w hB ho0 ho2 c4 c3; rw [Int.toNat_natCast, List.take_length, List.drop_length, List.append_nil]
            exact this
          · obtain ⟨i, rfl⟩ : ∃ i : Nat, a1 = i := ⟨a1.toNat, by omega⟩
            have hi : i < l0.length := by omega
            rw [Int.toNat_natCast]
            rcases r_row ho0 with ⟨_, h0⟩ | ⟨g, cap, cur, hu, _⟩
            · subst h0; simp at hi
            · by_cases hr : l0.length + 1 ≤ cap
              · exact slices_Insert_implStock_room P0_ u9000_ l0 P2_ u9001_ l2 i g cap w0 w hB ho0 hp0_2 ho2 c3 hi hu hr
              · exact slices_Insert_implStock_grow P0_ u9000_ l0 P2_ u9001_ l2 i g cap w0 w hB ho0 ho2 c3 hi hu hr c4
        · rw [if_neg c4] at h; cases h
      · rw [if_neg c3] at h; cases h
    · rw [if_neg c2] at h; cases h
  · rw [if_neg c1] at h; cases h
end Go.Proofs.Ytefmkmhjbfpelaa.QM
namespace Go.Proofs.Ytefmkmhjbfpelaa.QM
open Go.RowKit Go.Proofs.YtefmkmhjbfpelaaW.PrintWords Go.Proofs.YtefmkmhjbfpelaaW.PrintLast Go.Proofs.YtefmkmhjbfpelaaW.PrintMore
attribute [local go_sem] max2_int min2_int max_two min_two max_three min_three max_four min_four   -- for this text's walks alone
set_option linter.unusedVariables false
set_option linter.unusedSimpArgs false
set_option maxHeartbeats 8000000 in
set_option maxRecDepth 100000 in
theorem impl_Book_hand.callsB (k g : Nat) (A0 : Option Addr) (c0 : Nat) (l0 : List S117) (v1 : Value) (l1 : List S54) (a1 : ByteArray) (r : Int) (w : World) (hbx : w.heap[g]? = some (.cells #[.slice A0 l0.length c0, v1] 47 (0, 0)))
    (hr0 : Kd.C k117 w A0 l0.length l0) (hc0 : l0.length ≤ c0) (h : impl_Book_hand.f k l0 l1 a1 = some r) :
    Calls Try.prog 91 #[.pointer (some ⟨g, 0, none⟩), .string a1] w fun e w' => e = .returned (.int .i64 r) ∧ Below w.heap.size w w' := by
  have HB := Aside0.mk (Below.refl w.heap.size w); have HR := Aside0.mk hr0; have hcz0 : w.cell? ⟨g, 0, none⟩ = some (.slice A0 l0.length c0) := (blk_cell hbx 0).trans rfl; have BK := Aside0.mk hbx; have H := h
  unfold impl_Book_hand.f at H
  clear h hbx hr0; obtain ⟨⟨t1, t2⟩, A30, H⟩ := Option.bind_eq_some_iff.mp H; have A3 := Aside0.mk A30; clear A30
  dsimp only at H
  go_enter Try.func91, Try.ntmps91
  try go_wp2_with (fail)
  go_at_call 141; (with_reducible refine (impl_Stock_string_impl_stockOrder.calls k _ _ l0 a1 t1 t2 _ (Kd.C_below HR.out HB.out) hc0 A3.out).mono ?_); rintro e w5 ⟨rfl, hb⟩; have HB5 := Aside0.mk (below_step HB.out hb); have hcz5 : w5.cell? ⟨g, 0, none⟩ = some (.slice A0 l0.length c0) := (blk_cell (blk_below BK.out hb) 0).trans rfl; clear hcz0 hb
  by_cases c6 : t2 = true
  · subst c6; rw [if_pos rfl] at H
    by_cases c7 : 0 ≤ t1
    · rw [if_pos c7] at H
      by_cases c8 : t1 < (l0.length : Int)
      · rw [if_pos c8] at H; obtain rfl := Option.some.inj H; obtain ⟨ad, e9, hx0, hx1⟩ := at_T117 HR.out t1 c7 c8
        cases e9
        replace hx0 := pw_cell_below HB5.out hx0; replace hx1 := pw_cell_below HB5.out hx1; replace c7 := eq_true c7; replace c8 := eq_true c8
        go_wp2
        go_ret
        exact ⟨rfl, HB5.out⟩
      · rw [if_neg c8] at H; cases H
    · rw [if_neg c7] at H; cases H
  · replace c6 := Bool.eq_false_iff.mpr c6; subst c6; rw [if_neg (by decide)] at H; obtain rfl := Option.some.inj H
    go_wp2
    go_ret
    exact ⟨rfl, HB5.out⟩
theorem impl_Book_move_own {A0 : Option Addr} {n c : Nat} {go : Nat} (h : A0 = some ⟨go, 0, none⟩) : some go = (.slice A0 n c : Value).ownBlock := by subst h; simp [Value.ownBlock]
set_option maxHeartbeats 8000000 in
set_option maxRecDepth 100000 in
theorem impl_Book_move.calls (k g : Nat) (A0 : Option Addr) (c0 : Nat) (l0 : List S117) (v1 : Value) (l1 : List S54) (a1 : ByteArray) (a2 : Int) (r : Bool) (r0 : List S117) (w0 w : World) (hB : Below w0.heap.size w0 w) (hg : w0.heap.size ≤ g)
    (hbx : w.heap[g]? = some (.cells #[.slice A0 l0.length c0, v1] 47 (0, 0))) (ho : Kd.R k117 117 w w0.heap.size (fun k_ => k_ ≠ g) (.slice A0 l0.length c0) l0) (h : impl_Book_move.f k l0 l1 a1 a2 = some (r, r0)) :
    Calls Try.prog 121 #[.pointer (some ⟨g, 0, none⟩), .string a1, .int .i64 a2] w fun e w' => ∃ A c, e = .returned (.bool r) ∧ w'.heap[g]? = some (.cells #[.slice A r0.length c, v1] 47 (0, 0)) ∧ Kd.R k117 117 w' w0.heap.size (fun k_ => k_ ≠ g) (.slice A r0.length c) r0 ∧ Kept w w' (fun k_ => some k_ = (.slice A0 l0.length c0 : Value).ownBlock ∨ k_ = g) ∧ Below w0.heap.size w0 w' := by
  have HB := Aside0.mk hB; have HO : Aside0 (Kd.R k117 117 w w0.heap.size (fun k_ => k_ ≠ g ∧ (some k_ = (.slice A0 l0.length c0 : Value).ownBlock ∨ w.heap.size ≤ k_)) (.slice A0 l0.length c0) l0) := Aside0.mk (Kd.R_mono (Kd.R_tight rfl ho) (fun k_ e_ => ⟨ho.1 k_ e_.symm, .inl e_⟩)); have BK := Aside0.mk hbx; have GE := Aside0.mk hg; have H := h
  unfold impl_Book_move.f at H
  clear h hB hbx ho hg; replace H := Option.bind_eq_some_iff.mp H; obtain ⟨⟨t1, t2⟩, A30, H⟩ := H; replace H := Option.bind_eq_some_iff.mp H; obtain ⟨old, A40, H⟩ := H; have A3 := Aside0.mk A30; have A4 := Aside0.mk A40; clear A30 A40
  dsimp only at H
  have hcz0 : w.cell? ⟨g, 0, none⟩ = some (.slice A0 l0.length c0) := (blk_cell BK.out 0).trans rfl
  go_enter Try.func121, Try.ntmps121
  try go_wp2_with (fail)
  go_at_call 141; (with_reducible refine (impl_Stock_string_impl_stockOrder.calls k _ _ l0 a1 t1 t2 _ (Kd.R_reads' HO.out).2.2 (Kd.R_reads' HO.out).2.1 A3.out).mono ?_); rintro e w5 ⟨rfl, hb⟩; have HK := Aside0.mk (Kept.of_below hb (fun k_ => some k_ = (.slice A0 l0.length c0 : Value).ownBlock ∨ k_ = g)); replace HO := Aside0.mk (Kd.R_below HO.out hb); replace BK := Aside0.mk (blk_below BK.out hb); replace HB := Aside0.mk (below_step HB.out hb); clear hcz0 hb
  try go_wp2_with (fail)
  go_at_call 91; (with_reducible refine (impl_Book_hand.callsB k g A0 c0 l0 v1 l1 a1 old _ BK.out (Kd.R_reads' HO.out).2.2 (Kd.R_reads' HO.out).2.1 A4.out).mono ?_); rintro e w6 ⟨rfl, hb⟩; replace HK := Aside0.mk (Kept.below HK.out hb); replace HO := Aside0.mk (Kd.R_below HO.out hb); replace BK := Aside0.mk (blk_below BK.out hb); replace HB := Aside0.mk (below_step HB.out hb); clear hb; obtain ⟨ng, hng⟩ : ∃ x, wrap64 (-old) = x := ⟨_, rfl⟩; rw [hng] at H
  have hngw : IntKind.i64.wrap (-old) = ng := by rw [i64_w]; exact hng
  obtain ⟨sb, hsb⟩ : ∃ x, wrap64 (1000000000 - old) = x := ⟨_, rfl⟩; rw [hsb] at H
  have hsbw : IntKind.i64.wrap (1000000000 - old) = sb := by rw [i64_w]; exact hsb
  have hcz6 : w6.cell? ⟨g, 0, none⟩ = some (.slice A0 l0.length c0) := (blk_cell BK.out 0).trans rfl
  by_cases c1 : a2 < ng
  · rw [if_pos c1] at H; have c1b : decide (a2 < ng) = true := decide_eq_true c1; clear c1; simp only [Option.some.injEq, Prod.mk.injEq] at H; obtain ⟨rfl, rfl⟩ := H
    go_wp2
    go_ret
    exact ⟨A0, c0, rfl, BK.out, Kd.R_mono HO.out (fun _ hk => hk.1), HK.out, HB.out⟩
  · rw [if_neg c1] at H; have c1b : decide (a2 < ng) = false := decide_eq_false c1; clear c1
    by_cases c2 : a2 > sb
    · rw [if_pos c2] at H; have c2b : decide (a2 > sb) = true := decide_eq_true c2; clear c2; simp only [Option.some.injEq, Prod.mk.injEq] at H; obtain ⟨rfl, rfl⟩ := H
      go_wp2
      go_ret
      exact ⟨A0, c0, rfl, BK.out, Kd.R_mono HO.out (fun _ hk => hk.1), HK.out, HB.out⟩
    · rw [if_neg c2] at H; have c2b : decide (a2 > sb) = false := decide_eq_false c2; clear c2
      by_cases c3 : t2 = true
      · subst c3; rw [if_pos rfl] at H
        by_cases c7 : 0 ≤ t1
        · rw [if_pos c7] at H
          by_cases c8 : t1 < (l0.length : Int)
          · rw [if_pos c8] at H; simp only [Option.some.injEq, Prod.mk.injEq] at H; obtain ⟨rfl, rfl⟩ := H; obtain ⟨go, co, eo, gb, gl, cl, HG⟩ := Kd.R_form HO.out (by omega)
            cases eo
            obtain ⟨ce, hcl, hM, hcc, hfr⟩ := Kd.R_elem HO.out z117 t1 c7 c8; obtain rfl := k117_openM hM; have hx1 : w6.cell? ⟨go, t1.toNat * 2 + 1, none⟩ = some (.int .i64 ((rd_T117 l0 t1).f1)) := hcc 1 _ rfl; have hf1 : w6.frozen? ⟨go, t1.toNat * 2 + 1, none⟩ = false := hfr 1; have HP := Kd.R_seg HO.out t1 c7 c8 (seg := [.int .i64 (wrap64 ((rd_T117 l0 t1).f1 + a2))]) (j := 1) hcl hcc (show 2 ≤ 2 from by decide) (x' := (⟨(rd_T117 l0 t1).f0, wrap64 ((rd_T117 l0 t1).f1 + a2)⟩ : S117)) (k117_mkM _ _ _ (⟨(rd_T117 l0 t1).f0, wrap64 ((rd_T117 l0 t1).f1 + a2)⟩ : S117)) (fun _ hk => hk); clear hcl hcc hfr hM; have gne : go ≠ g := (HO.out.1 go rfl).1; replace c7 := eq_true c7; replace c8 := eq_true c8
            go_wp2_with ((with_reducible refine gate_store (t := 2) (p := 69) rfl ?_); refine store_event (t := 2) (p := 69) (v := ?vo_1) (w1 := (w6.setCell ⟨go, t1.toNat * 2 + 1, none⟩ (.int .i64 (wrap64 ((rd_T117 l0 t1).f1 + a2))))) ?hg ?ho ?hn ?hr ?_; (case ho => rfl); (case hg => rfl); (case hn => rfl); (case hr => first | (go_simp; done) | (go_simp; rfl)); intro w11 hw)
            go_ret
            have e : (impl_Book_move_put.f l0 t1 a2).length = l0.length := by simp [impl_Book_move_put.f]
            rw [e]; subst hw
            exact ⟨some ⟨go, 0, none⟩, _, rfl, blk_far BK.out gne.symm _, Kd.R_mono HP.1 (fun _ hk => hk.1), Kept.setCell HK.out (.inl (.inl (impl_Book_move_own rfl))) _, HB.out.setCell gb _⟩
          · rw [if_neg c8] at H; cases H
        · rw [if_neg c7] at H; cases H
      · replace c3 := Bool.eq_false_iff.mpr c3; subst c3; rw [if_neg (by decide)] at H
        by_cases c4 : (l0.length : Int) = 100
        · rw [if_pos c4] at H; have c4b : ((l0.length : Int) == 100) = true := beq_iff_eq.mpr c4; clear c4; simp only [Option.some.injEq, Prod.mk.injEq] at H; obtain ⟨rfl, rfl⟩ := H
          go_wp2
          go_ret
          exact ⟨A0, c0, rfl, BK.out, Kd.R_mono HO.out (fun _ hk => hk.1), HK.out, HB.out⟩
        · rw [if_neg c4] at H; have c4b : ((l0.length : Int) == 100) = false := beq_eq_false_iff_ne.mpr c4; clear c4; replace H := Option.bind_eq_some_iff.mp H; obtain ⟨l2, A50, H⟩ := H; have A5 := Aside0.mk A50; clear A50
          by_cases c7 : 0 ≤ t1
          · rw [if_pos c7] at H
            by_cases c8 : t1 < (l2.length : Int)
            · rw [if_pos c8] at H; simp only [Option.some.injEq, Prod.mk.injEq] at H; obtain ⟨rfl, rfl⟩ := H
              try go_wp2_with ((with_reducible refine gate_dst (N := 54) rfl ?_); refine Kd.R_lit k117 _ 117 ?hg (N := 54) ?hd (xs := ([⟨a1, 0⟩] : List S117)) (inner := [.string a1, .int .i64 0]) (ok := fun _ => True) (okp := fun _ => True) ?hr ?hp (fun _ hk => hk) trivial (Below.refl _ _) (Nat.le_refl _) (by simp) ?_; (case hd => rfl); (case hg => rfl); (case hr => first | (go_simp; done) | (go_simp; rfl)); (case hp => exact (Reps.c2 (show Kd.M k117 _ _ _ (⟨a1, 0⟩ : S117) [.string a1, .int .i64 0] from (k117_mkM _ _ _ (⟨a1, 0⟩ : S117))) (Reps.none _ _))); intro v2 w7 ho2 hb hg_ hnew_)
              have b2 : ∀ k_, v2.ownBlock = some k_ → w6.heap.size ≤ k_ := Kd.R_base ho2; have HO7 := Kd.R_below HO.out hb; have BK7 := blk_below BK.out hb; have HB7 := below_step HB.out hb; have HK7 := Kept.below HK.out hb; have hz6 : w.heap.size ≤ w6.heap.size := HK.out.1; have hg6 : g < w6.heap.size := blk_lt BK.out; have lt6 := Kd.R_lt HO.out; clear hcz6; go_at_call 156
              (refine (slices_Insert_implStock.calls (fun k_ => some k_ = (.slice A0 l0.length c0 : Value).ownBlock) (.slice A0 l0.length c0) l0 t1 (fun k_ => some k_ = v2.ownBlock) v2 [⟨a1, 0⟩] l2 w0 _ HB7 (Kd.R_tight rfl HO7) (fun k_ e1 e2 => by have h1 := lt6 k_ e1.symm; have h2 := b2 k_ e2.symm; omega) (Kd.R_tight rfl (Kd.R_lower ho2 (below_size HB.out))) (fun k_ e1 e2 => by have h1 := lt6 k_ e2.symm; have h2 := b2 k_ e1.symm; omega) A5.out).mono ?_)
              rintro e w8 ⟨v8, rfl, ho8, hb8, hkp⟩; have BK8 := blk_kept BK7 hkp (fun hs => hs.elim (fun e1 => (HO7.1 g e1.symm).1 rfl) (fun e1 => by have h2 := b2 g e1.symm; omega)); have HK8 := Kept.then_ HK7 hkp (fun k_ hs => hs.elim (fun e1 => .inl (.inl e1)) (fun e1 => .inr (by have h2 := b2 k_ e1.symm; omega)))
              have HO8 : Kd.R k117 117 w8 w0.heap.size (fun k_ => k_ ≠ g ∧ (some k_ = (.slice A0 l0.length c0 : Value).ownBlock ∨ w.heap.size ≤ k_)) v8 l2 := Kd.R_mono ho8 (fun k_ hs => by
                have hz7 : w6.heap.size ≤ w7.heap.size := hb.size
                rcases hs with (e1 | e1) | e1
                · exact HO7.1 k_ e1.symm
                · have h2 := b2 k_ e1.symm
                  exact ⟨by omega, .inr (by omega)⟩
                · exact ⟨by omega, .inr (by omega)⟩)
              obtain ⟨A8, c8', e8⟩ := Kd.R_slice HO8; subst e8; have hcz8 : w8.cell? ⟨g, 0, none⟩ = some (.slice A0 l0.length c0) := (blk_cell BK8 0).trans rfl; have hfz8 := blk_frozen BK8 0; have BKs := blk_put BK8 0 (.slice A8 l2.length c8') rfl; have HOs := Aside0.mk (Kd.R_far (p := ⟨g, 0, none⟩) HO8 (fun k_ hk => hk.1) (.slice A8 l2.length c8')); have HKs := Aside0.mk (Kept.setCell (p := ⟨g, 0, none⟩) HK8 (.inl (.inr rfl)) (.slice A8 l2.length c8')); have HBs := Aside0.mk (below_set (j := 0) (v := .slice A8 l2.length c8') hb8 GE.out); clear HO8 HO7 BK7 HB7 HK7 hkp ho8 hb8 BK8 HK8 ho2 b2 lt6 hb hg_ hnew_ HO BK HB HK
              go_wp2_with (first | ((with_reducible refine gate_store (t := 44) (p := 57) rfl ?_); refine store_event (t := 44) (p := 57) (v := ?vo_2) (w1 := (w8.setCell ⟨g, 0, none⟩ (.slice A8 l2.length c8'))) ?hg ?ho ?hn ?hr ?_; (case ho => rfl); (case hg => rfl); (case hn => rfl); (case hr => first | (go_simp; done) | (go_simp; rfl)); intro w9 hw; rw [← hw] at BKs HOs HKs HBs; clear hw hcz8 hfz8; have hcz9 : w9.cell? ⟨g, 0, none⟩ = some (.slice A8 l2.length c8') := (blk_cell BKs 0).trans rfl; obtain ⟨go, co, eo, gb, gl, cl, HG⟩ := Kd.R_form HOs.out (by omega); cases eo; obtain ⟨ce, hcl, hM, hcc, hfr⟩ := Kd.R_elem HOs.out z117 t1 c7 c8; obtain rfl := k117_openM hM; have hx1 : w9.cell? ⟨go, t1.toNat * 2 + 1, none⟩ = some (.int .i64 ((rd_T117 l2 t1).f1)) := hcc 1 _ rfl; have hf1 : w9.frozen? ⟨go, t1.toNat * 2 + 1, none⟩ = false := hfr 1; have HP := Kd.R_seg HOs.out t1 c7 c8 (seg := [.int .i64 (wrap64 ((rd_T117 l2 t1).f1 + a2))]) (j := 1) hcl hcc (show 2 ≤ 2 from by decide) (x' := (⟨(rd_T117 l2 t1).f0, wrap64 ((rd_T117 l2 t1).f1 + a2)⟩ : S117)) (k117_mkM _ _ _ (⟨(rd_T117 l2 t1).f0, wrap64 ((rd_T117 l2 t1).f1 + a2)⟩ : S117)) (fun _ hk => hk); clear hcl hcc hfr hM; have gne : go ≠ g := (HOs.out.1 go rfl).1; have gS := (HOs.out.1 go rfl).2; replace BKs := Aside0.mk BKs; replace c7 := eq_true c7; replace c8 := eq_true c8) | ((with_reducible refine gate_store (t := 2) (p := 69) rfl ?_); refine store_event (t := 2) (p := 69) (v := ?vo_3) (w1 := (w9.setCell ⟨go, t1.toNat * 2 + 1, none⟩ (.int .i64 (wrap64 ((rd_T117 l2 t1).f1 + a2))))) ?hg ?ho ?hn ?hr ?_; (case ho => rfl); (case hg => rfl); (case hn => rfl); (case hr => first | (go_simp; done) | (go_simp; rfl)); intro w11 hw))
              go_ret
              have e : (impl_Book_move_put.f l2 t1 a2).length = l2.length := by simp [impl_Book_move_put.f]
              rw [e]; subst hw
              exact ⟨some ⟨go, 0, none⟩, _, rfl, blk_far BKs.out gne.symm _, Kd.R_mono HP.1 (fun _ hk => hk.1), Kept.setCell HKs.out (gS.imp .inl id) _, HBs.out.setCell gb _⟩
            · rw [if_neg c8] at H; cases H
          · rw [if_neg c7] at H; cases H
set_option maxHeartbeats 8000000 in
set_option maxRecDepth 100000 in
theorem impl_BookMove.calls (k : Nat) (A0_0 : Option Addr) (c0_0 : Nat) (l0_0 : List S117) (A0_1 : Option Addr) (c0_1 : Nat) (l0_1 : List S54) (a1 : ByteArray) (a2 : Int) (r1 : List S117) (r2 : List S54) (w : World) (hr0_0 : Kd.C k117 w A0_0 l0_0.length l0_0) (hc0_0 : l0_0.length ≤ c0_0) (hr0_1 : Kd.C k54 w A0_1 l0_1.length l0_1) (hc0_1 : l0_1.length ≤ c0_1) (h : impl_BookMove.f k l0_0 l0_1 a1 a2 = some (r1, r2)) :
    Calls Try.prog 61 #[.agg #[.slice A0_0 l0_0.length c0_0, .slice A0_1 l0_1.length c0_1], .string a1, .int .i64 a2] w fun e w' => ∃ v0_ v1_ : Value, e = .returned (.agg #[v0_, v1_]) ∧ Kd.R k117 117 w' w.heap.size (fun _ => True) v0_ r1 ∧ Kd.R k54 54 w' w.heap.size (fun _ => True) v1_ r2 ∧ Below w.heap.size w w' := by
  have hu47 := Try.underlying47; have HR0 := Aside0.mk hr0_0; have HC0 := Aside0.mk hc0_0; have HR1 := Aside0.mk hr0_1; have HC1 := Aside0.mk hc0_1; have HB := Aside0.mk (Below.refl w.heap.size w); have H := h
  unfold impl_BookMove.f at H
  clear h hr0_0 hc0_0 hr0_1 hc0_1; replace H := Option.bind_eq_some_iff.mp H; obtain ⟨t, A10, H⟩ := H; have A1 := Aside0.mk A10; clear A10
  go_enter Try.func61, Try.ntmps61
  try go_wp2_with (first | ((with_reducible refine gate_dst (N := 3) rfl ?_); refine bx 3 (cs := #[.slice A0_0 l0_0.length c0_0, .slice A0_1 l0_1.length c0_1]) (t := 47) ?_; intro g3 hg w4 hbox hb; have BK3 := Aside0.mk (hbox); have GE3 := Aside0.mk ((gs hg (bs HB))); replace HB := Aside0.mk (below_step (bs HB) hb); clear hb hbox hg) | ((with_reducible refine gate_dst (N := 6) rfl ?_); refine bx 6 (cs := #[.slice none 0 0, .slice none 0 0]) (t := 47) ?_; intro g6 hg w5 hbox hb; have BK6 := Aside0.mk (hbox); have GE6 := Aside0.mk ((gs hg (bs HB))); have NB36 := Aside0.mk ((gn hg (ks BK3))); have NB63 := Aside0.mk ((gm hg (ks BK3))); replace BK3 := Aside0.mk (blk_below (ks BK3) hb); replace HB := Aside0.mk (below_step (bs HB) hb); clear hb hbox hg) | ((with_reducible refine gate_dst (N := 9) rfl ?_); refine Kd.R_lit Kd.string _ 9 ?hg (N := 9) ?hd (xs := ([a1] : List ByteArray)) (inner := [.string a1]) (ok := fun _ => True) (okp := fun _ => True) ?hr ?hp (fun _ hk => hk) trivial (Below.refl _ _) (Nat.le_refl _) (by simp) ?_; (case hd => rfl); (case hg => rfl); (case hr => first | (go_simp; done) | (go_simp; rfl)); (case hp => exact (Reps.one (show Kd.M Kd.string _ _ _ a1 [.string a1] from rfl) (Reps.none _ _))); intro v9 w6 ho9 hb hg_ hnew_; clear hg_ hnew_; have HO9 := Aside0.mk ho9; replace BK3 := Aside0.mk (blk_below (ks BK3) hb); replace BK6 := Aside0.mk (blk_below (ks BK6) hb); replace HB := Aside0.mk (below_step (bs HB) hb); clear hb ho9; obtain ⟨Ao9, co9, eo9⟩ := Kd.R_slice HO9.out; subst eo9))
  go_at_call 85; refine (impl_longText.calls k _ _ [a1] t _ ?side1 ?side2 A1.out).mono ?_
  (case side1 => repeat (first | exact (Kd.R_reads' HO9.out).2.2 | (with_reducible refine Kd.C_alloc ?_ _) | (with_reducible refine Kd.C_drewN ?_ _) | (with_reducible refine Kd.C_drew ?_)))
  (case side2 => exact (Kd.R_reads' HO9.out).2.1)
  rintro e w7 ⟨rfl, hd⟩; have hb := hd.below; clear hd; replace BK3 := Aside0.mk (blk_below (ks BK3) hb); replace BK6 := Aside0.mk (blk_below (ks BK6) hb); replace HB := Aside0.mk (below_step (bs HB) hb); clear hb HO9; have hcz3_0 : w7.cell? ⟨g3, 0, none⟩ = some (.slice A0_0 l0_0.length c0_0) := (blk_cell BK3.out 0).trans rfl; have hcz3_1 : w7.cell? ⟨g3, 1, none⟩ = some (.slice A0_1 l0_1.length c0_1) := (blk_cell BK3.out 1).trans rfl
  by_cases c1 : t = true
  · subst c1; rw [if_pos rfl] at H; simp only [Option.some.injEq, Prod.mk.injEq] at H; obtain ⟨rfl, rfl⟩ := H; obtain ⟨hcz6_0, hcz6_1, hfz6_0, hfz6_1⟩ := cf2 BK6
    go_wp2
    refine bodyPost_ret (results_cell_row rfl _ _ g6 47 #[.slice none 0 0, .slice none 0 0] (0, 0) _ rfl (blk_put (blk_put BK6.out 0 (.slice none 0 0) rfl) 1 (.slice none 0 0) rfl) Try.underlying47 rfl (by kernel_rfl)) rfl ?_
    exact ⟨_, _, rfl, Kd.R_nil _ _ _ _ _, Kd.R_nil _ _ _ _ _, below_set (below_set HB.out GE6.out) GE6.out⟩
  · replace c1 := Bool.eq_false_iff.mpr c1; subst c1; rw [if_neg (by decide)] at H; replace H := Option.bind_eq_some_iff.mp H; obtain ⟨⟨x, y⟩, A20, H⟩ := H; replace H := Option.bind_eq_some_iff.mp H; obtain ⟨b, A30, H⟩ := H; have A2 := Aside0.mk A20; have A3 := Aside0.mk A30; clear A20 A30
    dsimp only at H
    try go_wp2_with (fail)
    go_at_call 119; (with_reducible refine (impl_ownBook.calls _ _ l0_0 _ _ l0_1 x y _ (Kd.C_below HR0.out HB.out) HC0.out (Kd.C_below HR1.out HB.out) HC1.out A2.out).mono ?_); rintro e w8 ⟨v0, v1, rfl, hoa, hob, hb⟩; have HOa := Aside0.mk (Kd.R_lower hoa (below_size HB.out)); have HOb := Aside0.mk (Kd.R_lower hob (below_size HB.out)); replace BK3 := Aside0.mk (blk_below (ks BK3) hb); replace BK6 := Aside0.mk (blk_below (ks BK6) hb); replace HB := Aside0.mk (below_step (bs HB) hb); clear hoa hob hb hcz3_0 hcz3_1; obtain ⟨Aa, ca, ea⟩ := Kd.R_slice HOa.out; obtain ⟨Ab, cb, eb⟩ := Kd.R_slice HOb.out; subst ea; subst eb
    try go_wp2_with (first | ((with_reducible refine gate_dst (N := 7) rfl ?_); refine bx 7 (cs := #[.slice none 0 0, .slice none 0 0]) (t := 47) ?_; intro g7 hg w9 hbox hb; have BK7 := Aside0.mk (hbox); have GE7 := Aside0.mk ((gs hg (bs HB))); have NB37 := Aside0.mk ((gn hg (ks BK3))); have NB73 := Aside0.mk ((gm hg (ks BK3))); have NB67 := Aside0.mk ((gn hg (ks BK6))); have NB76 := Aside0.mk ((gm hg (ks BK6))); replace BK3 := Aside0.mk (blk_below (ks BK3) hb); replace BK6 := Aside0.mk (blk_below (ks BK6) hb); replace HOa := Aside0.mk (Kd.R_below HOa.out hb); replace HOb := Aside0.mk (Kd.R_below HOb.out hb); replace HB := Aside0.mk (below_step (bs HB) hb); clear hb hbox hg; have hcz7_0 : w9.cell? ⟨g7, 0, none⟩ = some (.slice none 0 0) := (blk_cell BK7.out 0).trans rfl; have hcz7_1 : w9.cell? ⟨g7, 1, none⟩ = some (.slice none 0 0) := (blk_cell BK7.out 1).trans rfl; have hfz7_0 := blk_frozen BK7.out 0; have hfz7_1 := blk_frozen BK7.out 1) | ((with_reducible refine gate_store (t := 47) (p := 7) rfl ?_); refine store_event (t := 47) (p := 7) (v := ?vo_10) (w1 := ((w9.setCell ⟨g7, 0, none⟩ (.slice Aa x.length ca)).setCell ⟨g7, 1, none⟩ (.slice Ab y.length cb))) ?hg ?ho ?hn ?hr ?_; (case ho => rfl); (case hg => rfl); (case hn => rfl); (case hr => first | (go_simp; done) | (go_simp; rfl)); intro w10 hw; have B3 := blk_far (blk_far BK3.out (p := ⟨g7, 0, none⟩) NB37.out (.slice Aa x.length ca)) (p := ⟨g7, 1, none⟩) NB37.out (.slice Ab y.length cb); have B6 := blk_far (blk_far BK6.out (p := ⟨g7, 0, none⟩) NB67.out (.slice Aa x.length ca)) (p := ⟨g7, 1, none⟩) NB67.out (.slice Ab y.length cb); have B7 := blk_put (blk_put BK7.out 0 (.slice Aa x.length ca) rfl) 1 (.slice Ab y.length cb) rfl; have O0 := Kd.R_far (p := ⟨g7, 1, none⟩) (Kd.R_far (p := ⟨g7, 0, none⟩) (Kd.R_types HOa.out BK7.out (by decide)) (fun k_ hk_ => hk_.2) (.slice Aa x.length ca)) (fun k_ hk_ => hk_.2) (.slice Ab y.length cb); have O1 := Kd.R_far (p := ⟨g7, 1, none⟩) (Kd.R_far (p := ⟨g7, 0, none⟩) (Kd.R_types HOb.out BK7.out (by decide)) (fun k_ hk_ => hk_.2) (.slice Aa x.length ca)) (fun k_ hk_ => hk_.2) (.slice Ab y.length cb); have B := below_set (j := 1) (v := .slice Ab y.length cb) (below_set (j := 0) (v := .slice Aa x.length ca) HB.out GE7.out) GE7.out; rw [← hw] at B3 B6 B7 O0 O1 B; clear hw hcz7_0 hcz7_1 hfz7_0 hfz7_1 BK3 BK6 BK7 HOa HOb HB; have BK3 := Aside0.mk B3; have BK6 := Aside0.mk B6; have BK7 := Aside0.mk B7; have HOa := Aside0.mk O0; have HOb := Aside0.mk O1; have HB := Aside0.mk B; clear B3 B6 B7 O0 O1 B; have hcz3_0 : w10.cell? ⟨g3, 0, none⟩ = some (.slice A0_0 l0_0.length c0_0) := (blk_cell BK3.out 0).trans rfl; have hcz3_1 : w10.cell? ⟨g3, 1, none⟩ = some (.slice A0_1 l0_1.length c0_1) := (blk_cell BK3.out 1).trans rfl))
    go_at_call 64; (with_reducible refine (impl_BookRight.calls k _ _ l0_0 _ _ l0_1 b _ (Kd.C_below HR0.out HB.out) HC0.out (Kd.C_below HR1.out HB.out) HC1.out A3.out).mono ?_); rintro e w11 ⟨rfl, hb⟩; replace BK3 := Aside0.mk (blk_below (ks BK3) hb); replace BK6 := Aside0.mk (blk_below (ks BK6) hb); replace BK7 := Aside0.mk (blk_below (ks BK7) hb); replace HOa := Aside0.mk (Kd.R_below HOa.out hb); replace HOb := Aside0.mk (Kd.R_below HOb.out hb); replace HB := Aside0.mk (below_step (bs HB) hb); clear hb hcz3_0 hcz3_1
    by_cases c2 : b = true
    · subst c2; rw [if_pos rfl] at H; replace H := Option.bind_eq_some_iff.mp H; obtain ⟨n, A40, H⟩ := H; have A4 := Aside0.mk A40; clear A40
      try go_wp2_with (fail)
      go_at_call 120; (with_reducible refine (impl_isName.calls k a1 n _ A4.out).mono ?_); rintro e w12 ⟨rfl, hd⟩; have hb := hd.below; clear hd; replace BK3 := Aside0.mk (blk_below (ks BK3) hb); replace BK6 := Aside0.mk (blk_below (ks BK6) hb); replace BK7 := Aside0.mk (blk_below (ks BK7) hb); replace HOa := Aside0.mk (Kd.R_below HOa.out hb); replace HOb := Aside0.mk (Kd.R_below HOb.out hb); replace HB := Aside0.mk (below_step (bs HB) hb); clear hb
      by_cases c3 : n = true
      · subst c3; rw [if_pos rfl] at H; replace H := Option.bind_eq_some_iff.mp H; obtain ⟨⟨m, z⟩, A50, H⟩ := H; have A5 := Aside0.mk A50; clear A50
        dsimp only at H
        simp only [Option.some.injEq, Prod.mk.injEq] at H; obtain ⟨rfl, rfl⟩ := H
        try go_wp2_with (fail)
        have B7m : w12.heap[g7]? = some (.cells #[.slice Aa x.length ca, .slice Ab y.length cb] 47 (0, 0)) := BK7.out; go_at_call 121; (with_reducible refine (impl_Book_move.calls k g7 Aa ca x (.slice Ab y.length cb) y a1 a2 m z w w12 HB.out GE7.out B7m (Kd.R_mono HOa.out (fun _ hk => hk.2)) A5.out).mono ?_); rintro e w13 ⟨Az, cz, rfl, hbx, hoz, hkp, hbz⟩
        have n6 : ¬ (some g6 = (.slice Aa x.length ca : Value).ownBlock ∨ g6 = g7) := fun hs => hs.elim (fun e_ => Kd.R_ne HOa.out BK6.out (by decide) e_) (fun e_ => NB67.out e_)
        have BK6z := Aside0.mk (blk_kept BK6.out hkp n6)
        have HObz := Aside0.mk (Kd.R_kept (Kd.R_tight rfl HOb.out) hkp (fun k_ e_ hs => hs.elim (fun e2 => by
          obtain ⟨cs1, h1⟩ := Kd.R_typed HOb.out k_ e_.symm; obtain ⟨cs2, h2⟩ := Kd.R_typed HOa.out k_ e2.symm
          rw [h1] at h2
          simp at h2) (fun e2 => Kd.R_ne HOb.out BK7.out (by decide) (by rw [← e2]; exact e_))))
        have BK7z := Aside0.mk hbx; have HOz := Aside0.mk hoz; have HBz := Aside0.mk hbz; clear BK3 BK6 BK7 HOa HOb HB hbx hoz hkp hbz n6; have hcz7_0 : w13.cell? ⟨g7, 0, none⟩ = some (.slice Az z.length cz) := (blk_cell BK7z.out 0).trans rfl; have hcz7_1 : w13.cell? ⟨g7, 1, none⟩ = some (.slice Ab y.length cb) := (blk_cell BK7z.out 1).trans rfl; obtain ⟨hcz6_0, hcz6_1, hfz6_0, hfz6_1⟩ := cf2 BK6z
        go_wp2
        refine bodyPost_ret (results_cell_row rfl _ _ g6 47 #[.slice Az z.length cz, .slice Ab y.length cb] (0, 0) _ rfl (blk_put (blk_put BK6z.out 0 (.slice Az z.length cz) rfl) 1 (.slice Ab y.length cb) rfl) Try.underlying47 rfl (by kernel_rfl)) rfl ?_
        exact ⟨_, _, rfl, Kd.R_mono (rf (Kd.R_types HOz.out BK6z.out (by decide))) (fun _ _ => trivial), Kd.R_mono (rf (Kd.R_types HObz.out BK6z.out (by decide))) (fun _ _ => trivial), below_set (below_set HBz.out GE6.out) GE6.out⟩
      · replace c3 := Bool.eq_false_iff.mpr c3; subst c3; rw [if_neg (by decide)] at H; simp only [Option.some.injEq, Prod.mk.injEq] at H; obtain ⟨rfl, rfl⟩ := H; have hcz7_0 : w12.cell? ⟨g7, 0, none⟩ = some (.slice Aa x.length ca) := (blk_cell BK7.out 0).trans rfl; have hcz7_1 : w12.cell? ⟨g7, 1, none⟩ = some (.slice Ab y.length cb) := (blk_cell BK7.out 1).trans rfl; obtain ⟨hcz6_0, hcz6_1, hfz6_0, hfz6_1⟩ := cf2 BK6
        go_wp2
        refine bodyPost_ret (results_cell_row rfl _ _ g6 47 #[.slice Aa x.length ca, .slice Ab y.length cb] (0, 0) _ rfl (blk_put (blk_put BK6.out 0 (.slice Aa x.length ca) rfl) 1 (.slice Ab y.length cb) rfl) Try.underlying47 rfl (by kernel_rfl)) rfl ?_
        exact ⟨_, _, rfl, Kd.R_mono (rf (Kd.R_types HOa.out BK6.out (by decide))) (fun _ _ => trivial), Kd.R_mono (rf (Kd.R_types HOb.out BK6.out (by decide))) (fun _ _ => trivial), below_set (below_set HB.out GE6.out) GE6.out⟩
    · replace c2 := Bool.eq_false_iff.mpr c2; subst c2; rw [if_neg (by decide)] at H; simp only [Option.some.injEq, Prod.mk.injEq] at H; obtain ⟨rfl, rfl⟩ := H; have hcz7_0 : w11.cell? ⟨g7, 0, none⟩ = some (.slice Aa x.length ca) := (blk_cell BK7.out 0).trans rfl; have hcz7_1 : w11.cell? ⟨g7, 1, none⟩ = some (.slice Ab y.length cb) := (blk_cell BK7.out 1).trans rfl; obtain ⟨hcz6_0, hcz6_1, hfz6_0, hfz6_1⟩ := cf2 BK6
      go_wp2
      refine bodyPost_ret (results_cell_row rfl _ _ g6 47 #[.slice Aa x.length ca, .slice Ab y.length cb] (0, 0) _ rfl (blk_put (blk_put BK6.out 0 (.slice Aa x.length ca) rfl) 1 (.slice Ab y.length cb) rfl) Try.underlying47 rfl (by kernel_rfl)) rfl ?_
      exact ⟨_, _, rfl, Kd.R_mono (rf (Kd.R_types HOa.out BK6.out (by decide))) (fun _ _ => trivial), Kd.R_mono (rf (Kd.R_types HOb.out BK6.out (by decide))) (fun _ _ => trivial), below_set (below_set HB.out GE6.out) GE6.out⟩
end Go.Proofs.Ytefmkmhjbfpelaa.QM
namespace Go.Proofs.Ytefmkmhjbfpelaa.QM
open Go.RowKit Go.Proofs.YtefmkmhjbfpelaaW.PrintWords Go.Proofs.YtefmkmhjbfpelaaW.PrintLast Go.Proofs.YtefmkmhjbfpelaaW.PrintMore
attribute [local go_sem] max2_int min2_int max_two min_two max_three min_three max_four min_four   -- for this text's walks alone
set_option linter.unusedVariables false
set_option linter.unusedSimpArgs false
set_option maxHeartbeats 8000000 in
set_option maxRecDepth 100000 in
theorem laws_eqStock.calls (a0_0 : ByteArray) (a0_1 : Int) (a1_0 : ByteArray) (a1_1 : Int) (r : Bool) (w : World) (h : laws_eqStock.f a0_0 a0_1 a1_0 a1_1 = some r) :
    Calls Try.prog 139 #[.agg #[.string a0_0, .int .i64 a0_1], .agg #[.string a1_0, .int .i64 a1_1]] w fun e w' => e = .returned (.bool r) ∧ Below w.heap.size w w' := by
  have hu117 := Try.underlying117; have HB := Aside0.mk (Below.refl w.heap.size w); have H : (if a0_0.toList = a1_0.toList then (if a0_1 = a1_1 then (some true) else (some false)) else (some false)) = some r := h; clear h
  by_cases c3 : a0_0.toList = a1_0.toList
  · rw [if_pos c3] at H; have c3b0 : (a0_0.toList == a1_0.toList) = true := beq_iff_eq.mpr c3; have c3b1 : (a0_0.toList != a1_0.toList) = false := bne_eq_false_iff_eq.mpr c3; clear c3
    by_cases c4 : a0_1 = a1_1
    · rw [if_pos c4] at H; have c4b0 : (a0_1 == a1_1) = true := beq_iff_eq.mpr c4; have c4b1 : (a0_1 != a1_1) = false := bne_eq_false_iff_eq.mpr c4; clear c4; obtain rfl := Option.some.inj H
      go_enter Try.func139, Try.ntmps139
      go_wp2_with (first | ((with_reducible refine gate_dst (N := 2) rfl ?_); refine bx 2 (cs := #[.string a0_0, .int .i64 a0_1]) (t := 117) ?_; intro gb286 hg w5 hbox hb; have BK286 := Aside0.mk (hbox); have GW286 := Aside0.mk ((gs hg (bs HB))); have GE286 := Aside0.mk ((gs hg (bs HB))); replace HB := Aside0.mk (below_step (bs HB) hb); clear hb hbox hg) | ((with_reducible refine gate_dst (N := 3) rfl ?_); refine bx 3 (cs := #[.string a1_0, .int .i64 a1_1]) (t := 117) ?_; intro gb287 hg w6 hbox hb; have BK287 := Aside0.mk (hbox); have GW287 := Aside0.mk ((gs hg (bs HB))); have GE287 := Aside0.mk ((gs hg (bs HB))); replace HB := Aside0.mk (below_step (bs HB) hb); have NB286_287 := Aside0.mk ((gn hg (ks BK286))); have NB287_286 := Aside0.mk ((gm hg (ks BK286))); replace BK286 := Aside0.mk (blk_below (ks BK286) hb); clear hb hbox hg; have hnb7 := NB286_287.out; have hnc7 := NB287_286.out; obtain ⟨hcz8_0, hcz8_1, hfz8_0, hfz8_1⟩ := cf2 BK286; obtain ⟨hcz9_0, hcz9_1, hfz9_0, hfz9_1⟩ := cf2 BK287))
      go_ret
      exact ⟨ff, bs HB⟩
    · rw [if_neg c4] at H; have c4b0 : (a0_1 == a1_1) = false := beq_eq_false_iff_ne.mpr c4; have c4b1 : (a0_1 != a1_1) = true := bne_iff_ne.mpr c4; obtain rfl := Option.some.inj H
      go_enter Try.func139, Try.ntmps139
      go_wp2_with (first | ((with_reducible refine gate_dst (N := 2) rfl ?_); refine bx 2 (cs := #[.string a0_0, .int .i64 a0_1]) (t := 117) ?_; intro gb286 hg w10 hbox hb; have BK286 := Aside0.mk (hbox); have GW286 := Aside0.mk ((gs hg (bs HB))); have GE286 := Aside0.mk ((gs hg (bs HB))); replace HB := Aside0.mk (below_step (bs HB) hb); clear hb hbox hg) | ((with_reducible refine gate_dst (N := 3) rfl ?_); refine bx 3 (cs := #[.string a1_0, .int .i64 a1_1]) (t := 117) ?_; intro gb287 hg w11 hbox hb; have BK287 := Aside0.mk (hbox); have GW287 := Aside0.mk ((gs hg (bs HB))); have GE287 := Aside0.mk ((gs hg (bs HB))); replace HB := Aside0.mk (below_step (bs HB) hb); have NB286_287 := Aside0.mk ((gn hg (ks BK286))); have NB287_286 := Aside0.mk ((gm hg (ks BK286))); replace BK286 := Aside0.mk (blk_below (ks BK286) hb); clear hb hbox hg; have hnb12 := NB286_287.out; have hnc12 := NB287_286.out; obtain ⟨hcz13_0, hcz13_1, hfz13_0, hfz13_1⟩ := cf2 BK286; obtain ⟨hcz14_0, hcz14_1, hfz14_0, hfz14_1⟩ := cf2 BK287))
      go_ret
      exact ⟨ff, bs HB⟩
  · rw [if_neg c3] at H; have c3b0 : (a0_0.toList == a1_0.toList) = false := beq_eq_false_iff_ne.mpr c3; have c3b1 : (a0_0.toList != a1_0.toList) = true := bne_iff_ne.mpr c3; obtain rfl := Option.some.inj H
    go_enter Try.func139, Try.ntmps139
    go_wp2_with (first | ((with_reducible refine gate_dst (N := 2) rfl ?_); refine bx 2 (cs := #[.string a0_0, .int .i64 a0_1]) (t := 117) ?_; intro gb286 hg w15 hbox hb; have BK286 := Aside0.mk (hbox); have GW286 := Aside0.mk ((gs hg (bs HB))); have GE286 := Aside0.mk ((gs hg (bs HB))); replace HB := Aside0.mk (below_step (bs HB) hb); clear hb hbox hg) | ((with_reducible refine gate_dst (N := 3) rfl ?_); refine bx 3 (cs := #[.string a1_0, .int .i64 a1_1]) (t := 117) ?_; intro gb287 hg w16 hbox hb; have BK287 := Aside0.mk (hbox); have GW287 := Aside0.mk ((gs hg (bs HB))); have GE287 := Aside0.mk ((gs hg (bs HB))); replace HB := Aside0.mk (below_step (bs HB) hb); have NB286_287 := Aside0.mk ((gn hg (ks BK286))); have NB287_286 := Aside0.mk ((gm hg (ks BK286))); replace BK286 := Aside0.mk (blk_below (ks BK286) hb); clear hb hbox hg; have hnb17 := NB286_287.out; have hnc17 := NB287_286.out; obtain ⟨hcz18_0, hcz18_1, hfz18_0, hfz18_1⟩ := cf2 BK286; obtain ⟨hcz19_0, hcz19_1, hfz19_0, hfz19_1⟩ := cf2 BK287))
    go_ret
    exact ⟨ff, bs HB⟩
end Go.Proofs.Ytefmkmhjbfpelaa.QM
