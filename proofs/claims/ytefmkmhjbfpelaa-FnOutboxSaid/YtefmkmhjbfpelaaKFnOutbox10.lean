-- Merged by a program of this session (wip/tool/pack.py) out of its own texts for this claim.
import Derived.Test.YtefmkmhjbfpelaaKFnOutbox0
import Derived.Test.YtefmkmhjbfpelaaKFnOutbox1
import Derived.Test.YtefmkmhjbfpelaaKFnOutbox2
import Derived.Test.YtefmkmhjbfpelaaKFnOutbox5
import Derived.Test.YtefmkmhjbfpelaaKFnOutbox8
import Derived.Test.YtefmkmhjbfpelaaKFnOutbox9
namespace Go.Proofs.Ytefmkmhjbfpelaa.QR
open Go.RowKit Go.Proofs.YtefmkmhjbfpelaaW.PrintWords Go.Proofs.YtefmkmhjbfpelaaW.PrintLast Go.Proofs.YtefmkmhjbfpelaaW.PrintMore
attribute [local go_sem] max2_int min2_int max_two min_two max_three min_three max_four min_four   -- for this text's walks alone
set_option linter.unusedVariables false
set_option linter.unusedSimpArgs false
set_option maxHeartbeats 8000000 in
set_option maxRecDepth 100000 in
theorem slices_Insert_implOut_end (P0_ : Nat → Prop) (u : Value) (l0 : List S24) (P2_ : Nat → Prop) (u2 : Value) (l2 : List S24) (w0 w : World) (hB : Below w0.heap.size w0 w) (ho0 : Kd.R k24 24 w w0.heap.size P0_ u l0) (ho2 : Kd.R k24 24 w w0.heap.size P2_ u2 l2) (hl : l0.length + 1 < 2513169434916) (h1 : l2.length = 1) :
    Calls Try.prog 113 #[u, .int .i64 l0.length, u2] w fun e w' => ∃ v0_ : Value, e = .returned (v0_) ∧ Kd.R k24 24 w' w0.heap.size (fun k_ => ((P0_ k_ ∨ P2_ k_) ∨ w.heap.size ≤ k_)) v0_ (l0 ++ l2) ∧ Below w0.heap.size w0 w' ∧ Kept w w' (fun k_ => P0_ k_ ∨ P2_ k_) := by
  have HB := Aside0.mk hB; have HO := Aside0.mk (show Kd.R k24 24 w w0.heap.size (fun k_ => P0_ k_ ∨ w.heap.size ≤ k_) u l0 from Kd.R_mono ho0 (fun k hk => .inl hk)); have HP := Aside0.mk ho0; have HL := Aside0.mk hl; obtain ⟨A2, c2, rfl, hc2, hC2⟩ := Kd.R_reads ho2; have HC := Aside0.mk hC2; rw [h1]
  rw [h1] at HC hc2
  have HZ := Aside0.mk hB.size
  have hs : (u = .slice none 0 0 ∧ l0.length = 0) ∨ ∃ g cap, u = .slice (some ⟨g, 0, none⟩) l0.length cap ∧ l0.length ≤ cap := by
    obtain ⟨_, inner, hown, _⟩ := ho0
    rcases hown.2 with h | ⟨g, cap, cur, e, _, _, hle, _⟩
    · exact .inl h
    · exact .inr ⟨g, cap, e, hle⟩
  clear hB ho0 ho2 hl hC2 hc2; have key : ∀ (u : Value), Aside0 (Kd.R k24 24 w w0.heap.size (fun k_ => P0_ k_ ∨ w.heap.size ≤ k_) u l0) → Aside0 (Kd.R k24 24 w w0.heap.size P0_ u l0) →
      ((u = .slice none 0 0 ∧ l0.length = 0) ∨ ∃ g cap, u = .slice (some ⟨g, 0, none⟩) l0.length cap ∧ l0.length ≤ cap) → Calls Try.prog 113 #[u, .int .i64 l0.length, .slice A2 1 c2] w fun e w' => ∃ v0_ : Value, e = .returned (v0_) ∧ Kd.R k24 24 w' w0.heap.size (fun k_ => ((P0_ k_ ∨ P2_ k_) ∨ w.heap.size ≤ k_)) v0_ (l0 ++ l2) ∧ Below w0.heap.size w0 w' ∧ Kept w w' (fun k_ => P0_ k_ ∨ P2_ k_) := by
    intro u HO HP hs
    rcases hs with ⟨e, h0⟩ | ⟨g, cap, e, hle⟩
    · subst e; rw [h0]; clear h0
      go_enter Try.func113, Try.ntmps113
      go_wp2_with ((with_reducible refine gate_builtin (b := .append) (xs := #[.tmp 23, .tmp 24]) rfl ?_); at_builtin; refine Kd.R_append_rows k24 (w0 := w0) w0.heap.size rfl (.tmp 23) (.tmp 24) 29 24 ((.agg #[(.string ⟨#[]⟩), (.int .i64 0), (.string ⟨#[]⟩), (.int .i64 0), (.int .i64 0)])) 56 rfl Try.underlying29 info24 rfl (by decide) (by omega) _ l0 l2 A2 1 c2 _ (fun _ => False) rfl rfl HO.out HC.out (fun _ _ h => h) (fun _ h => h.elim) (fun k hk => .inr hk) HB.out HZ.out (by have := HL.out; omega) ?_; intro v2 w6 ho hb hg hat; have HO2 := Aside0.mk ho; have HG := Aside0.mk hg; replace HB := Aside0.mk hb; clear ho hb hg hat)
      go_ret
      exact ⟨_, rfl, Kd.R_mono HO2.out (fun k hk => hk.elim (fun h => .inl (.inl h)) .inr), HB.out, Kept.of_grown HG.out (Kept.refl _ _) (fun k hk => by cases hk)⟩
    · subst e
      have hq : ¬ ((l0.length : Int) < 0) := by omega
      by_cases hcap : cap = l0.length
      · subst hcap
        go_enter Try.func113, Try.ntmps113
        go_wp2_with ((with_reducible refine gate_builtin (b := .append) (xs := #[.tmp 23, .tmp 24]) rfl ?_); at_builtin; refine Kd.R_append_rows k24 (w0 := w0) w0.heap.size rfl (.tmp 23) (.tmp 24) 29 24 ((.agg #[(.string ⟨#[]⟩), (.int .i64 0), (.string ⟨#[]⟩), (.int .i64 0), (.int .i64 0)])) 56 rfl Try.underlying29 info24 rfl (by decide) (by omega) (.slice (some ⟨g, 0, none⟩) l0.length l0.length) l0 l2 A2 1 c2 _ (fun _ => False) rfl rfl HO.out HC.out (fun _ _ h => h) (fun _ h => h.elim) (fun k hk => .inr hk) HB.out HZ.out (by have := HL.out; omega) ?_; intro v2 w6 ho hb hg hat; have HO2 := Aside0.mk ho; have HG := Aside0.mk hg; replace HB := Aside0.mk hb; clear ho hb hg hat)
        go_ret
        exact ⟨_, rfl, Kd.R_mono HO2.out (fun k hk => hk.elim (fun h => .inl (.inl h)) .inr), HB.out, Kept.of_grown HG.out (Kept.refl _ _) (fun k hk => .inl (.inl (HP.out.1 k hk)))⟩
      · skip
        go_enter Try.func113, Try.ntmps113
        go_wp2_with ((with_reducible refine gate_builtin (b := .append) (xs := #[.tmp 23, .tmp 24]) rfl ?_); at_builtin; refine Kd.R_append_rows k24 (w0 := w0) w0.heap.size rfl (.tmp 23) (.tmp 24) 29 24 ((.agg #[(.string ⟨#[]⟩), (.int .i64 0), (.string ⟨#[]⟩), (.int .i64 0), (.int .i64 0)])) 56 rfl Try.underlying29 info24 rfl (by decide) (by omega) (.slice (some ⟨g, 0, none⟩) l0.length cap) l0 l2 A2 1 c2 _ (fun _ => False) rfl rfl HO.out HC.out (fun _ _ h => h) (fun _ h => h.elim) (fun k hk => .inr hk) HB.out HZ.out (by have := HL.out; omega) ?_; intro v2 w6 ho hb hg hat; have HO2 := Aside0.mk ho; have HG := Aside0.mk hg; replace HB := Aside0.mk hb; clear ho hb hg hat)
        go_ret
        exact ⟨_, rfl, Kd.R_mono HO2.out (fun k hk => hk.elim (fun h => .inl (.inl h)) .inr), HB.out, Kept.of_grown HG.out (Kept.refl _ _) (fun k hk => .inl (.inl (HP.out.1 k hk)))⟩
  exact key u HO HP hs
set_option maxHeartbeats 8000000 in
set_option maxRecDepth 100000 in
theorem slices_Insert_implOut_room (P0_ : Nat → Prop) (u : Value) (l0 : List S24) (P2_ : Nat → Prop) (u2 : Value) (l2 : List S24) (i g cap : Nat) (w0 w : World) (hB : Below w0.heap.size w0 w) (ho0 : Kd.R k24 24 w w0.heap.size P0_ u l0) (hp : ∀ k_, P0_ k_ → ¬ P2_ k_) (ho2 : Kd.R k24 24 w w0.heap.size P2_ u2 l2) (h1 : l2.length = 1) (hi : i < l0.length) (hu : u = .slice (some ⟨g, 0, none⟩) l0.length cap) (hroom : l0.length + 1 ≤ cap) :
    Calls Try.prog 113 #[u, .int .i64 i, u2] w fun e w' => ∃ v0_ : Value, e = .returned (v0_) ∧ Kd.R k24 24 w' w0.heap.size (fun k_ => ((P0_ k_ ∨ P2_ k_) ∨ w.heap.size ≤ k_)) v0_ (l0.take i ++ l2 ++ l0.drop i) ∧ Below w0.heap.size w0 w' ∧ Kept w w' (fun k_ => P0_ k_ ∨ P2_ k_) := by
  rcases r_row ho0 with ⟨_, h0⟩ | ⟨g', cap', cur, e1, hbg, hPg, hg, hle, hm, hs, hr0, hone0⟩
  · subst h0; simp at hi
  rw [hu] at e1
  injection e1 with e1a e1b e1c
  injection e1a with e1a
  injection e1a with e1a
  subst e1a e1c hu
  rcases r_row ho2 with ⟨_, h0⟩ | ⟨gv, capv, curv, rfl, hbgv, hPv, hgv, hlev, hmv, hsv, hrv, honev⟩
  · subst h0; simp at h1
  rw [h1] at hrv honev hlev ⊢
  have hne : gv ≠ g := fun e => hp g hPg (e ▸ hPv)
  have hsz : (k24).sz = 5 := rfl
  rw [hsz] at hs hr0 hone0 hrv honev hsv
  obtain ⟨V, hV⟩ : ∃ V, V = curv.toList.take (1 * 5) := ⟨_, rfl⟩
  rw [← hV] at hrv honev
  have hVl : V.length = 5 := by rw [hV, List.length_take]; simp; omega
  obtain ⟨C, hC⟩ : ∃ C, C = cur.toList := ⟨_, rfl⟩
  rw [← hC] at hr0 hone0
  have hCl : C.length = cap * 5 := by rw [hC]; simpa using hs
  have hg' : w.heap[g]? = some (.cells C.toArray 24 (0, 0)) := by rw [hC]; simpa using hg
  have hN : l0.length * 5 + 5 ≤ C.length := by rw [hCl]; omega
  obtain ⟨X, hX⟩ : ∃ X, X = (C.take (l0.length * 5)).drop (i * 5) := ⟨_, rfl⟩
  have hXl : X.length = (l0.length - i) * 5 := by rw [hX, List.length_drop, List.length_take]; omega
  have hXo : ∀ v ∈ X, v.oneCell' = true := fun v hv => hone0 v (List.mem_of_mem_drop (hX ▸ hv))
  obtain ⟨C1, hC1⟩ : ∃ C1, C1 = splice C (i * 5 + 5) X := ⟨_, rfl⟩; obtain ⟨C2, hC2⟩ : ∃ C2, C2 = splice C1 (i * 5) V := ⟨_, rfl⟩; have hfin := ins_room C (l0.length * 5) (i * 5) 5 V (by omega) hVl hN
  rw [← hX, ← hC1, ← hC2] at hfin
  have hC1l : C1.length = C.length := by rw [hC1]; exact length_splice _ _ _ (by omega)
  have hcp1 : ∀ W : World, W.heap = w.heap → ∀ ty dc sc, (Builtin.copy_ #[29, 29] ty #[.slice (some ⟨g, (i + 1) * 5, none⟩) (l0.length - i) dc, .slice (some ⟨g, i * 5, none⟩) (l0.length + 1 - i) sc]).run Try.prog W = .ok (goInt ((l0.length - i : Nat) : Int)) (W.setRow g C1.toArray) := by
    intro W hW ty dc sc
    have hmin : Nat.min (l0.length + 1 - i) (l0.length - i) = l0.length - i := by simp only [Nat.min_def]; split <;> omega
    have h := run_copyN (P := Try.prog) W 29 29 ty 24 5 g ((i + 1) * 5) (l0.length - i) dc ⟨g, i * 5, none⟩ (l0.length + 1 - i) sc C 24 X Try.underlying29 (info_sz info24)
      (by rw [hW]; exact hg') (by rw [hmin, hXl]) (cellrow (cur := C.toArray) (by rw [hW]; exact hg') _ _ (fun j v hj => by
        rw [hX, List.getElem?_drop, List.getElem?_take] at hj
        split at hj
        · simpa using hj
        · cases hj)) (by omega) hXo
    rw [hmin] at h
    rw [h, hC1]
    have e : (i + 1) * 5 = i * 5 + 5 := by omega
    rw [e]
  have hcp2 : ∀ W : World, W.heap = (w.setRow g C1.toArray).heap → ∀ ty dc, (Builtin.copy_ #[29, 29] ty #[.slice (some ⟨g, i * 5, none⟩) (l0.length + 1 - i) dc, .slice (some ⟨gv, 0, none⟩) 1 capv]).run Try.prog W = .ok (goInt ((1 : Nat) : Int)) (W.setRow g C2.toArray) := by
    intro W hW ty dc
    have hmin : Nat.min 1 (l0.length + 1 - i) = 1 := by simp only [Nat.min_def]; split <;> omega
    have hWg : W.heap[g]? = some (.cells C1.toArray 24 (0, 0)) := by rw [hW]; exact setRow_heap w g _ _ _ _ hg'
    have hWv : W.heap[gv]? = some (.cells curv 24 (0, 0)) := by rw [hW, setRow_other _ _ _ _ hne]; exact hgv
    have h := run_copyN (P := Try.prog) W 29 29 ty 24 5 g (i * 5) (l0.length + 1 - i) dc ⟨gv, 0, none⟩ 1 capv C1 24 V Try.underlying29 (info_sz info24)
      hWg (by rw [hmin, hVl, Nat.one_mul]) (cellrow hWv _ _ (fun j v hj => by
        rw [hV, List.getElem?_take] at hj
        split at hj
        · simpa using hj
        · cases hj)) (by omega) honev
    rw [hmin] at h
    rw [h, hC2]
  have hov : ∀ lb cb, (callFunc 150 #[.slice (some ⟨gv, 0, none⟩) 1 capv, .slice (some ⟨g, (i + 1) * 5, none⟩) lb cb]).run Try.prog w = .ok (.value (.bool false)) w := fun lb cb => by
    rw [run_callFunc_extern Try.func150 (by kernel_rfl) (by kernel_rfl) (by kernel_rfl) (e := Extern.SlicesOverlaps.overlaps #[29, 29] #[4]) (by kernel_rfl),
      Lib.run_overlaps_apart w 29 4 24 Try.underlying29 5 (fun w => by kernel_rfl) ⟨gv, 0, none⟩ ⟨g, (i + 1) * 5, none⟩ 1 capv lb cb hne 24 24 curv.size C.toArray.size (by simp [World.shape?, hgv]) (by simp [World.shape?, hg']) (by rw [List.size_toArray]; omega) (by simp [World.frozen?, hgv]) (by simp [World.frozen?, hgv])]
    rfl
  have hw1 : IntKind.i64.wrap ((i : Int) + 1) = (i : Int) + 1 := by rw [IntKind.wrap_i64]; unfold maxLen at hm; omega
  have hw2 : IntKind.i64.wrap ((l0.length : Int) + 1) = (l0.length : Int) + 1 := by rw [IntKind.wrap_i64]; unfold maxLen at hm; omega
  have hb1 : (0 : Int) ≤ (i : Int) + 1 := by omega
  have htn : ((i : Int) + 1).toNat = i + 1 := by omega
  have htn2 : ((l0.length : Int) + 1).toNat = l0.length + 1 := by omega
  have hz2 : ¬ ((i : Int) = (l0.length : Int)) := by omega
  have hz3 : ¬ ((cap : Int) < (l0.length : Int) + 1) := by omega
  have hb2 : ¬ (cap = i + 1) := by omega
  have hb4 : ¬ (cap = i) := by omega
  have hb5 : i ≤ l0.length := by omega
  have hb6 : i + 1 ≤ l0.length + 1 := by omega
  have hb7 : (i : Int) ≤ (l0.length : Int) + 1 := by omega
  have HR := Aside0.mk hr0; have HV := Aside0.mk hrv; have HF := Aside0.mk hfin; have HB := Aside0.mk hB; have HG := Aside0.mk hg'; have HM := Aside0.mk hm; have HL := Aside0.mk hCl; have HS0 := Aside0.mk hbg; have HP0 := Aside0.mk hPg; have HC1 := Aside0.mk hC1l; have HXD := Aside0.mk hX; have HH1 := Aside0.mk h1; have HVL := Aside0.mk hVl; clear hr0 hrv hfin hB hg' hm hCl hbg hPg hC1l hX hC1 hC2 hV hC hXl hXo hVl hg hgv hs hsv hlev hmv hle ho0 ho2 hone0 honev hN hPv hbgv h1 hsz
  go_enter Try.func113, Try.ntmps113
  go_wp2_with (simp only [hov])
  go_region_law (refine step_copyN rfl (.tmp 73) (.tmp 76) 29 29 rfl (.slice (some ⟨g, (i + 1) * 5, none⟩) (l0.length - i) (cap - (i + 1))) (.slice (some ⟨g, i * 5, none⟩) (l0.length + 1 - i) (cap - i)) (by simp [Act.eval, Act.put]) (by simp [Act.eval, Act.put]) (hcp1 w.drew rfl 3 (cap - (i + 1)) (cap - i)) ?_)
  go_wp2_with ((with_reducible refine gate_builtin (b := .copy) (xs := #[.tmp 80, .tmp 81]) rfl ?_); refine wpList_copyN rfl (.tmp 80) (.tmp 81) 29 29 rfl (.slice (some ⟨g, i * 5, none⟩) (l0.length + 1 - i) (cap - i)) (.slice (some ⟨gv, 0, none⟩) 1 capv) rfl rfl (hcp2 (w.drew.setRow g C1.toArray) rfl 3 (cap - i)) ?_)
  go_ret
  refine ⟨.slice (some ⟨g, 0, none⟩) (l0.length + 1) cap, rfl, ?_, ?_, ?_⟩
  · have hlen : (l0.take i ++ l2 ++ l0.drop i).length = l0.length + 1 := by simp [HH1.out]; omega
    have e5 : (l0.length + 1) * 5 = l0.length * 5 + 5 := by omega
    rw [← hlen]; refine r_mk (L := C2) rfl (setRow_heap _ g _ _ _ _ (setRow_heap w.drew g _ _ _ _ HG.out)) HS0.out (.inl (.inl HP0.out)) (by rw [hlen]; exact hroom) HM.out (HF.out.2.trans HL.out) ?_; rw [hlen]
    show Reps _ 5 _ (C2.take ((l0.length + 1) * 5))
    rw [e5, HF.out.1]
    exact reps_app (reps_app (reps_take HR.out i) HV.out) (HXD.out ▸ reps_drop HR.out i)
  · exact below_setRow (below_setRow (below_drew1 HB.out) HS0.out _) HS0.out _
  · exact kept_setRow (kept_setRow (Kept.drew (Kept.refl _ _)) (.inl (.inl HP0.out)) _) (.inl (.inl HP0.out)) _
set_option maxHeartbeats 8000000 in
set_option maxRecDepth 100000 in
theorem slices_Insert_implOut_grow (P0_ : Nat → Prop) (u : Value) (l0 : List S24) (P2_ : Nat → Prop) (u2 : Value) (l2 : List S24) (i g cap : Nat) (w0 w : World) (hB : Below w0.heap.size w0 w) (ho0 : Kd.R k24 24 w w0.heap.size P0_ u l0) (ho2 : Kd.R k24 24 w w0.heap.size P2_ u2 l2) (h1 : l2.length = 1) (hi : i < l0.length) (hu : u = .slice (some ⟨g, 0, none⟩) l0.length cap) (hroom : ¬ l0.length + 1 ≤ cap) (hlim : l0.length + 1 < 2513169434916) :
    Calls Try.prog 113 #[u, .int .i64 i, u2] w fun e w' => ∃ v0_ : Value, e = .returned (v0_) ∧ Kd.R k24 24 w' w0.heap.size (fun k_ => ((P0_ k_ ∨ P2_ k_) ∨ w.heap.size ≤ k_)) v0_ (l0.take i ++ l2 ++ l0.drop i) ∧ Below w0.heap.size w0 w' ∧ Kept w w' (fun k_ => P0_ k_ ∨ P2_ k_) := by
  rcases r_row ho0 with ⟨_, h0⟩ | ⟨g', cap', cur, e1, hbg, hPg, hg, hle, hm, hs, hr0, hone0⟩
  · subst h0; simp at hi
  rw [hu] at e1
  injection e1 with e1a e1b e1c
  injection e1a with e1a
  injection e1a with e1a
  subst e1a e1c hu
  rcases r_row ho2 with ⟨_, h0⟩ | ⟨gv, capv, curv, rfl, hbgv, hPv, hgv, hlev, hmv, hsv, hrv, honev⟩
  · subst h0; simp at h1
  rw [h1] at hrv honev hlev ⊢
  have hsz : (k24).sz = 5 := rfl
  rw [hsz] at hs hr0 hone0 hrv honev hsv
  have hglt : g < w.heap.size := (Array.getElem?_eq_some_iff.1 hg).1; have hvlt : gv < w.heap.size := (Array.getElem?_eq_some_iff.1 hgv).1; obtain ⟨V, hV⟩ : ∃ V, V = curv.toList.take (1 * 5) := ⟨_, rfl⟩
  rw [← hV] at hrv honev
  have hVl : V.length = 5 := by rw [hV, List.length_take]; simp; omega
  obtain ⟨C, hC⟩ : ∃ C, C = cur.toList := ⟨_, rfl⟩
  rw [← hC] at hr0 hone0
  have hCl : C.length = cap * 5 := by rw [hC]; simpa using hs
  have hg' : w.heap[g]? = some (.cells C.toArray 24 (0, 0)) := by rw [hC]; simpa using hg
  obtain ⟨X, hX⟩ : ∃ X, X = (C.take (l0.length * 5)).drop (i * 5) := ⟨_, rfl⟩
  have hXl : X.length = (l0.length - i) * 5 := by rw [hX, List.length_drop, List.length_take]; omega
  have hXo : ∀ v ∈ X, v.oneCell' = true := fun v hv => hone0 v (List.mem_of_mem_drop (hX ▸ hv))
  obtain ⟨O, hO⟩ : ∃ O, O = (C.take (l0.length * 5)).take (i * 5) := ⟨_, rfl⟩
  have hOl : O.length = i * 5 := by rw [hO, List.length_take, List.length_take]; omega
  obtain ⟨i0, hi0, hz⟩ := Option.map_eq_some_iff.1 info24
  simp only [Prod.mk.injEq] at hz
  obtain ⟨hz0, hz1, hz2⟩ := hz
  have hk : i + (l0.length + 1 - i) = l0.length + 1 := by omega
  obtain ⟨G, hG⟩ : ∃ G, G = grownCap w (l0.length + 1) cap 24 := ⟨_, rfl⟩
  have hGn : l0.length + 1 ≤ G := by rw [hG]; exact grownCap_ge w _ _ _
  have hGm : G ≤ maxLen := by rw [hG]; exact grownCap_le_maxLen w _ _ _ (by unfold maxLen; omega)
  obtain ⟨Z, hZ⟩ : ∃ Z : List Value, Z = (O.toArray ++ Builtin.zeroCells ((.agg #[(.string ⟨#[]⟩), (.int .i64 0), (.string ⟨#[]⟩), (.int .i64 0), (.int .i64 0)]) : Value).cells (l0.length + 1 - i) ++ Builtin.zeroCells ((.agg #[(.string ⟨#[]⟩), (.int .i64 0), (.string ⟨#[]⟩), (.int .i64 0), (.int .i64 0)]) : Value).cells (G - (l0.length + 1))).toList := ⟨_, rfl⟩
  have hZl : Z.length = G * 5 := by
    have e : ((.agg #[(.string ⟨#[]⟩), (.int .i64 0), (.string ⟨#[]⟩), (.int .i64 0), (.int .i64 0)]) : Value).cells.size = 5 := rfl; rw [hZ]; simp only [Array.length_toList, Array.size_append, size_zeroCells, List.size_toArray, e, hOl]
    omega
  have hZt : Z.take (i * 5) = O := by
    rw [hZ]; simp only [Array.toList_append, List.append_assoc]; rw [List.take_append_of_le_length (by simp [hOl]), List.take_of_length_le (by simp [hOl])]
  have hrz : ∀ ty, (Builtin.append_ #[29, 3] ty #[.slice (some ⟨g, 0, none⟩) i cap, .int .i64 ((l0.length : Int) + 1 - (i : Int))]).run Try.prog w = .ok (.slice (some ⟨w.heap.size, 0, none⟩) (l0.length + 1) G) (w.drew.alloc (.cells Z.toArray 24)) := by
    intro ty
    have hold : (Builtin.firstCells i0.size i (.slice (some ⟨g, 0, none⟩) i cap)).run Try.prog w.drew = .ok O.toArray w.drew := by
      rw [hz1]
      exact run_firstCells_some w.drew 5 i ⟨g, 0, none⟩ i cap O hOl (cellrow (w := w.drew) (cur := C.toArray) hg' 0 _ (fun j v hj => by
        rw [hO, List.getElem?_take, List.getElem?_take] at hj
        split at hj
        · split at hj
          · simpa using hj
          · cases hj
        · cases hj))
    have hbig : (l0.length + 1) * i0.bytes ≤ 140737488355328 := by rw [hz2]; omega
    have h := Lib.run_append_grow_zeros (P := Try.prog) w 29 3 ty 24 i0 ((.agg #[(.string ⟨#[]⟩), (.int .i64 0), (.string ⟨#[]⟩), (.int .i64 0), (.int .i64 0)])) .i64 .i64 Try.underlying29 Try.underlying3 hi0 hz0 (some ⟨g, 0, none⟩) i cap O hold (l0.length + 1 - i) (by omega) (by rw [hz1]; omega) (by omega) (by omega) (by rw [hz2]; omega) (by rw [hk]; exact growslice_fits (by omega) hbig)
    rw [hk, ← hG] at h
    have e : ((l0.length : Int) + 1 - (i : Int)) = ((l0.length + 1 - i : Nat) : Int) := by omega
    rw [e, h, hZ]
  obtain ⟨Z1, hZ1⟩ : ∃ Z1, Z1 = splice Z (i * 5) V := ⟨_, rfl⟩; obtain ⟨Z2, hZ2⟩ : ∃ Z2, Z2 = splice Z1 (i * 5 + 5) X := ⟨_, rfl⟩
  have hZfit : i * 5 + 5 + X.length ≤ Z.length := by rw [hZl, hXl]; omega
  have hfin := ins_new Z (i * 5) 5 V X hVl hZfit
  rw [← hZ1, ← hZ2, hZt] at hfin
  have hZ1l : Z1.length = Z.length := by rw [hZ1]; exact length_splice _ _ _ (by omega)
  have hN0 : (w.drew.alloc (.cells Z.toArray 24)).heap[w.heap.size]? = some (.cells Z.toArray 24 (0, 0)) := heap_alloc_new w.drew _
  have hold_ : ∀ k, k < w.heap.size → (w.drew.alloc (.cells Z.toArray 24)).heap[k]? = w.heap[k]? := fun k hk => heap_alloc_old w.drew _ hk
  have hcp1 : ∀ W : World, W.heap = (w.drew.alloc (.cells Z.toArray 24)).heap → ∀ ty dc, (Builtin.copy_ #[29, 29] ty #[.slice (some ⟨w.heap.size, i * 5, none⟩) (l0.length + 1 - i) dc, .slice (some ⟨gv, 0, none⟩) 1 capv]).run Try.prog W = .ok (goInt ((1 : Nat) : Int)) (W.setRow w.heap.size Z1.toArray) := by
    intro W hW ty dc
    have hmin : Nat.min 1 (l0.length + 1 - i) = 1 := by simp only [Nat.min_def]; split <;> omega
    have h := run_copyN (P := Try.prog) W 29 29 ty 24 5 w.heap.size (i * 5) (l0.length + 1 - i) dc ⟨gv, 0, none⟩ 1 capv Z 24 V Try.underlying29 (info_sz info24)
      (by rw [hW]; exact hN0) (by rw [hmin, hVl, Nat.one_mul]) (cellrow (by rw [hW, hold_ gv hvlt]; exact hgv) _ _ (fun j v hj => by
        rw [hV, List.getElem?_take] at hj
        split at hj
        · simpa using hj
        · cases hj)) (by omega) honev
    rw [hmin] at h
    rw [h, hZ1]
  have hcp2 : ∀ W : World, W.heap = ((w.drew.alloc (.cells Z.toArray 24)).setRow w.heap.size Z1.toArray).heap → ∀ ty dc sc, (Builtin.copy_ #[29, 29] ty #[.slice (some ⟨w.heap.size, (i + 1) * 5, none⟩) (l0.length - i) dc, .slice (some ⟨g, i * 5, none⟩) (l0.length - i) sc]).run Try.prog W = .ok (goInt ((l0.length - i : Nat) : Int)) (W.setRow w.heap.size Z2.toArray) := by
    intro W hW ty dc sc; have hmin : Nat.min (l0.length - i) (l0.length - i) = l0.length - i := Nat.min_self _; have h := run_copyN (P := Try.prog) W 29 29 ty 24 5 w.heap.size ((i + 1) * 5) (l0.length - i) dc ⟨g, i * 5, none⟩ (l0.length - i) sc Z1 24 X Try.underlying29 (info_sz info24)
      (by rw [hW]; exact setRow_heap _ _ _ _ _ _ hN0) (by rw [hmin, hXl]) (cellrow (cur := C.toArray) (by rw [hW, setRow_other _ _ _ _ (by omega), hold_ g hglt]; exact hg') _ _ (fun j v hj => by
        rw [hX, List.getElem?_drop, List.getElem?_take] at hj
        split at hj
        · simpa using hj
        · cases hj)) (by rw [hZ1l]; omega) hXo
    rw [hmin] at h
    have e : (i + 1) * 5 = i * 5 + 5 := by omega
    rw [h, hZ2, e]
  have hw1 : IntKind.i64.wrap ((i : Int) + 1) = (i : Int) + 1 := by rw [IntKind.wrap_i64]; unfold maxLen at hm; omega
  have hw2 : IntKind.i64.wrap ((l0.length : Int) + 1) = (l0.length : Int) + 1 := by rw [IntKind.wrap_i64]; unfold maxLen at hm; omega
  have hw3 : IntKind.i64.wrap ((l0.length : Int) + 1 - (i : Int)) = (l0.length : Int) + 1 - (i : Int) := by rw [IntKind.wrap_i64]; unfold maxLen at hm; omega
  have hb1 : (0 : Int) ≤ (i : Int) + 1 := by omega
  have htn : ((i : Int) + 1).toNat = i + 1 := by omega
  have htn2 : ((l0.length : Int) + 1).toNat = l0.length + 1 := by omega
  have hz2' : ¬ ((i : Int) = (l0.length : Int)) := by omega
  have hz3 : (cap : Int) < (l0.length : Int) + 1 := by omega
  have hb2 : ¬ (G = i + 1) := by omega
  have hb3 : ¬ (G = i) := by omega
  have hb4 : ¬ (cap = i) := by omega
  have hb5 : i ≤ l0.length := by omega
  have hb6 : i + 1 ≤ l0.length + 1 := by omega
  have hb7 : (i : Int) ≤ (l0.length : Int) + 1 := by omega
  have hb8 : i ≤ cap := by omega
  have hb9 : (i : Int) ≤ (l0.length : Int) := by omega
  have HR := Aside0.mk hr0; have HV := Aside0.mk hrv; have HF := Aside0.mk hfin; have HB := Aside0.mk hB; have HM := Aside0.mk hGm; have HL := Aside0.mk hZl; have HXD := Aside0.mk hX; have HXL := Aside0.mk hXl; have HOD := Aside0.mk hO; have HH1 := Aside0.mk h1; have HN := Aside0.mk hN0; have HGN := Aside0.mk hGn; clear hr0 hrv hfin hB hg' hm hCl hbg hPg hZ1l hX hZ1 hZ2 hV hC hXl hXo hVl hg hgv hs hsv hlev hmv hle ho0 ho2 hone0 honev hPv hbgv h1 hsz hO hOl hi0 hz0 hz1 hz2 hk hG hGm hZ hZl hZt hZfit hN0 hold_ hglt hvlt
  go_enter Try.func113, Try.ntmps113
  go_wp2_with (first | ((with_reducible refine gate_builtin (b := .append) (xs := #[.tmp 34, .tmp 39]) rfl ?_); refine wpList_runB rfl (.tmp 34) (.tmp 39) 29 3 rfl (.slice (some ⟨g, 0, none⟩) i cap) (.int .i64 ((l0.length : Int) + 1 - (i : Int))) rfl rfl (hrz _) ?_) | ((with_reducible refine gate_builtin (b := .copy) (xs := #[.tmp 43, .tmp 44]) rfl ?_); refine wpList_copyN rfl (.tmp 43) (.tmp 44) 29 29 rfl (.slice (some ⟨w.heap.size, i * 5, none⟩) (l0.length + 1 - i) (G - i)) (.slice (some ⟨gv, 0, none⟩) 1 capv) rfl rfl (hcp1 (w.drew.alloc (.cells Z.toArray 24)) rfl 3 (G - i)) ?_))
  go_region_law (refine step_copyN rfl (.tmp 50) (.tmp 53) 29 29 rfl (.slice (some ⟨w.heap.size, (i + 1) * 5, none⟩) (l0.length - i) (G - (i + 1))) (.slice (some ⟨g, i * 5, none⟩) (l0.length - i) (cap - i)) (by simp [Act.eval, Act.put]) (by simp [Act.eval, Act.put]) (hcp2 ((w.drew.alloc (.cells Z.toArray 24)).setRow w.heap.size Z1.toArray).drew rfl 3 (G - (i + 1)) (cap - i)) ?_)
  go_wp2
  go_ret
  refine ⟨.slice (some ⟨w.heap.size, 0, none⟩) (l0.length + 1) G, rfl, ?_, ?_, ?_⟩
  · have hlen : (l0.take i ++ l2 ++ l0.drop i).length = l0.length + 1 := by simp [HH1.out]; omega
    have e5 : (l0.length + 1) * 5 = i * 5 + 5 + X.length := by rw [HXL.out]; omega
    rw [← hlen]; refine r_mk (L := Z2) rfl (setRow_heap _ _ _ _ _ _ (setRow_heap _ _ _ _ _ _ HN.out)) HB.out.size (.inr (Nat.le_refl _)) (by rw [hlen]; exact HGN.out) HM.out (HF.out.2.trans HL.out) ?_; rw [hlen]
    show Reps _ 5 _ (Z2.take ((l0.length + 1) * 5))
    rw [e5, HF.out.1]
    exact reps_app (reps_app (HOD.out ▸ reps_take HR.out i) HV.out) (HXD.out ▸ reps_drop HR.out i)
  · exact below_setRow (below_drew1 (below_setRow (below_alloc (below_drew1 HB.out) _) HB.out.size _)) HB.out.size _
  · exact kept_setRow (Kept.drew (kept_setRow (Kept.alloc (Kept.drew (Kept.refl _ _)) _) (.inr (Nat.le_refl _)) _)) (.inr (Nat.le_refl _)) _
theorem slices_Insert_implOut.calls (P0_ : Nat → Prop) (u9000_ : Value) (l0 : List S24) (a1 : Int) (P2_ : Nat → Prop) (u9001_ : Value) (l2 : List S24) (r : List S24) (w0 w : World) (hB : Below w0.heap.size w0 w) (ho0 : Kd.R k24 24 w w0.heap.size P0_ u9000_ l0) (hp0_2 : ∀ k_, P0_ k_ → ¬ P2_ k_) (ho2 : Kd.R k24 24 w w0.heap.size P2_ u9001_ l2) (hp2_0 : ∀ k_, P2_ k_ → ¬ P0_ k_) (h : slices_Insert_implOut.f l0 a1 l2 = some r) :
    Calls Try.prog 113 #[u9000_, .int .i64 a1, u9001_] w fun e w' => ∃ v0_ : Value, e = .returned (v0_) ∧ Kd.R k24 24 w' w0.heap.size (fun k_ => ((P0_ k_ ∨ P2_ k_) ∨ w.heap.size ≤ k_)) v0_ r ∧ Below w0.heap.size w0 w' ∧ Kept w w' (fun k_ => (P0_ k_ ∨ P2_ k_)) := by
  unfold slices_Insert_implOut.f at h
  by_cases c1 : 0 ≤ a1
  · rw [if_pos c1] at h
    by_cases c2 : a1 ≤ (l0.length : Int)
    · rw [if_pos c2] at h
      by_cases c3 : l2.length = 1
      · rw [if_pos c3] at h
        by_cases c4 : l0.length + 1 < 2513169434916
        · rw [if_pos c4] at h
          obtain rfl := Option.some.inj h
          by_cases e : a1 = (l0.length : Int)
          · subst e; have := slices_Insert_implOut_end P0_ u9000_ l0 P2_ u9001_ l2 w0 w hB ho0 ho2 c4 c3; rw [Int.toNat_natCast, List.take_length, List.drop_length, List.append_nil]
            exact this
          · obtain ⟨i, rfl⟩ : ∃ i : Nat, a1 = i := ⟨a1.toNat, by omega⟩
            have hi : i < l0.length := by omega
            rw [Int.toNat_natCast]
            rcases r_row ho0 with ⟨_, h0⟩ | ⟨g, cap, cur, hu, _⟩
            · subst h0; simp at hi
            · by_cases hr : l0.length + 1 ≤ cap
              · exact slices_Insert_implOut_room P0_ u9000_ l0 P2_ u9001_ l2 i g cap w0 w hB ho0 hp0_2 ho2 c3 hi hu hr
              · exact slices_Insert_implOut_grow P0_ u9000_ l0 P2_ u9001_ l2 i g cap w0 w hB ho0 ho2 c3 hi hu hr c4
        · rw [if_neg c4] at h; cases h
      · rw [if_neg c3] at h; cases h
    · rw [if_neg c2] at h; cases h
  · rw [if_neg c1] at h; cases h
end Go.Proofs.Ytefmkmhjbfpelaa.QR
namespace Go.Proofs.Ytefmkmhjbfpelaa.QR
open Go.RowKit Go.Proofs.YtefmkmhjbfpelaaW.PrintWords Go.Proofs.YtefmkmhjbfpelaaW.PrintLast Go.Proofs.YtefmkmhjbfpelaaW.PrintMore
attribute [local go_sem] max2_int min2_int max_two min_two max_three min_three max_four min_four   -- for this text's walks alone
set_option linter.unusedVariables false
set_option linter.unusedSimpArgs false
def impl_OutboxPut.T11 : Bool × List (List Nat × List Nat) := (true, [([], []), ([0], [0]), ([], []), ([], []), ([3], [3]), ([1, 2, 4, 1], [1, 2, 4]), ([5], [5]), ([6, 5, 0, 1, 2, 3, 4, 5, 6], [6])])
def impl_OutboxPut.B11 : List Nat := [0, 1, 0, 0, 8, 31, 63, 127]
theorem impl_OutboxPut.tab11 : rtab .any (opsOf Try.f48 11) = impl_OutboxPut.T11 := by kernel_rfl
theorem impl_OutboxPut.bits11 : waitsOk impl_OutboxPut.T11.2 impl_OutboxPut.B11 = true := by kernel_rfl
set_option maxHeartbeats 8000000 in
set_option maxRecDepth 100000 in
theorem impl_OutboxPut.calls (k : Nat) (A0 : Option Addr) (c0 : Nat) (l0 : List (S24)) (a1_0 : ByteArray) (a1_1 : Int) (a1_2 : ByteArray) (a1_3 : Int) (a1_4 : Int) (r1 : List (S24)) (r2 : List (S105)) (r3 : List (S24)) (r4 : Int) (w : World) (hr0 : Kd.C k24 w A0 l0.length l0) (hc0 : l0.length ≤ c0) (h : impl_OutboxPut.f k l0 a1_0 a1_1 a1_2 a1_3 a1_4 = some (r1, r2, r3, r4)) :
    Calls Try.prog 48 #[.slice A0 l0.length c0, .agg #[.string a1_0, .int .i64 a1_1, .string a1_2, .int .i64 a1_3, .int .i64 a1_4]] w fun e w' => ∃ v0_ v1_ v2_ : Value, e = .returned (.agg #[v0_, v1_, v2_, .int .i64 r4]) ∧ Kd.R k24 24 w' w.heap.size (fun k_ => some k_ ≠ (v2_ : Value).ownBlock) v0_ r1 ∧ Kd.R k105 105 w' w.heap.size (fun _ => True) v1_ r2 ∧ Kd.R k24 24 w' w.heap.size (fun k_ => some k_ ≠ (v0_ : Value).ownBlock) v2_ r3 ∧ Below w.heap.size w w' := by
  have hu24 := Try.underlying24; have hu34 := Try.underlying34; have HR0 := Aside0.mk hr0; have HC0 := Aside0.mk hc0; clear hr0 hc0; have HB := Aside0.mk (Below.refl w.heap.size w); have H : ((impl_outboxCode.f k l0).bind fun t369 => (if t369 = 0 then ((impl_Out_impl_outOrder.f k l0 a1_0 a1_1 a1_2 a1_3 a1_4).bind fun bt370 => ((impl_isOut.f k a1_0 a1_1 a1_2 a1_3 a1_4).bind fun t372 => (if t372 = true then (if bt370.2 = true then (some (([] : List (S24)), ([] : List (S105)), ([] : List (S24)), 11)) else (if (l0.length : Int) = 60 then (some (([] : List (S24)), ([] : List (S105)), ([] : List (S24)), 12)) else ((slices_Clone_implOut.f l0).bind fun t373 => ((slices_Insert_implOut.f t373 bt370.1 (([(⟨a1_0, a1_1, a1_2, a1_3, a1_4⟩ : S24)] : List (S24)))).bind fun t379 => (some (t379, ([] : List (S105)), ([] : List (S24)), 0)))))) else (some (([] : List (S24)), ([] : List (S105)), ([] : List (S24)), 1))))) else (some (([] : List (S24)), ([] : List (S105)), ([] : List (S24)), t369)))) = some (r1, r2, r3, r4) := h; clear h; replace H := Option.bind_eq_some_iff.mp H; obtain ⟨t369, A30, H⟩ := H; replace H : (if t369 = 0 then ((impl_Out_impl_outOrder.f k l0 a1_0 a1_1 a1_2 a1_3 a1_4).bind fun bt370 => ((impl_isOut.f k a1_0 a1_1 a1_2 a1_3 a1_4).bind fun t372 => (if t372 = true then (if bt370.2 = true then (some (([] : List (S24)), ([] : List (S105)), ([] : List (S24)), 11)) else (if (l0.length : Int) = 60 then (some (([] : List (S24)), ([] : List (S105)), ([] : List (S24)), 12)) else ((slices_Clone_implOut.f l0).bind fun t373 => ((slices_Insert_implOut.f t373 bt370.1 (([(⟨a1_0, a1_1, a1_2, a1_3, a1_4⟩ : S24)] : List (S24)))).bind fun t379 => (some (t379, ([] : List (S105)), ([] : List (S24)), 0)))))) else (some (([] : List (S24)), ([] : List (S105)), ([] : List (S24)), 1))))) else (some (([] : List (S24)), ([] : List (S105)), ([] : List (S24)), t369))) = some (r1, r2, r3, r4) := H; have A3 := Aside0.mk A30; clear A30
  go_enter Try.func48, Try.ntmps48
  try go_wp2_with (first | ((with_reducible refine gate_dst (N := 3) rfl ?_); refine bx 3 (cs := #[.string a1_0, .int .i64 a1_1, .string a1_2, .int .i64 a1_3, .int .i64 a1_4]) (t := 24) ?_; intro gb367 hg w4 hbox hb; have BK367 := Aside0.mk (hbox); have GW367 := Aside0.mk ((gs hg (bs HB))); have GE367 := Aside0.mk ((gs hg (bs HB))); replace HB := Aside0.mk (below_step (bs HB) hb); clear hb hbox hg) | ((with_reducible refine gate_dst (N := 4) rfl ?_); refine bx 4 (cs := #[.slice none 0 0, .slice none 0 0, .slice none 0 0, .int .i64 0]) (t := 34) ?_; intro gb368 hg w5 hbox hb; have BK368 := Aside0.mk (hbox); have GW368 := Aside0.mk ((gs hg (bs HB))); have GE368 := Aside0.mk ((gs hg (bs HB))); replace HB := Aside0.mk (below_step (bs HB) hb); have NB367_368 := Aside0.mk ((gn hg (ks BK367))); have NB368_367 := Aside0.mk ((gm hg (ks BK367))); replace BK367 := Aside0.mk (blk_below (ks BK367) hb); clear hb hbox hg))
  go_at_call 80; (with_reducible refine (impl_outboxCode.calls k _ _ l0 t369 _ (Kd.C_below HR0.out (bs HB)) HC0.out A3.out).mono ?_); rintro e w6 ⟨rfl, hb⟩; replace BK367 := Aside0.mk (blk_below (ks BK367) hb); replace BK368 := Aside0.mk (blk_below (ks BK368) hb); replace HB := Aside0.mk (below_step (bs HB) hb); (try clear hb); (try clear hb2); (try clear hk); (try clear hi)
  by_cases c7 : t369 = 0
  · rw [if_pos c7] at H; have c7b0 : (t369 == 0) = true := beq_iff_eq.mpr c7; have c7b1 : (t369 != 0) = false := bne_eq_false_iff_eq.mpr c7; clear c7; replace H := Option.bind_eq_some_iff.mp H; obtain ⟨⟨t370, t371⟩, A80, H⟩ := H; replace H : ((impl_isOut.f k a1_0 a1_1 a1_2 a1_3 a1_4).bind fun t372 => (if t372 = true then (if t371 = true then (some (([] : List (S24)), ([] : List (S105)), ([] : List (S24)), 11)) else (if (l0.length : Int) = 60 then (some (([] : List (S24)), ([] : List (S105)), ([] : List (S24)), 12)) else ((slices_Clone_implOut.f l0).bind fun t373 => ((slices_Insert_implOut.f t373 t370 (([(⟨a1_0, a1_1, a1_2, a1_3, a1_4⟩ : S24)] : List (S24)))).bind fun t379 => (some (t379, ([] : List (S105)), ([] : List (S24)), 0)))))) else (some (([] : List (S24)), ([] : List (S105)), ([] : List (S24)), 1)))) = some (r1, r2, r3, r4) := H; have A8 := Aside0.mk A80; clear A80; have hnb9 := NB367_368.out; have hnc9 := NB368_367.out; obtain ⟨hcz10_0, hcz10_1, hcz10_2, hcz10_3, hcz10_4, hfz10_0, hfz10_1, hfz10_2, hfz10_3, hfz10_4⟩ := cf5 BK367
    try go_wp2_with (fail)
    go_at_call 109; (with_reducible refine (impl_Out_impl_outOrder.calls k _ _ l0 a1_0 a1_1 a1_2 a1_3 a1_4  t370 t371 _ (Kd.C_below HR0.out (bs HB)) HC0.out A8.out).mono ?_); rintro e w11 ⟨rfl, hb⟩; replace BK367 := Aside0.mk (blk_below (ks BK367) hb); replace BK368 := Aside0.mk (blk_below (ks BK368) hb); replace HB := Aside0.mk (below_step (bs HB) hb); (try clear hb); (try clear hb2); (try clear hk); (try clear hi); replace H := Option.bind_eq_some_iff.mp H; obtain ⟨t372, A120, H⟩ := H; replace H : (if t372 = true then (if t371 = true then (some (([] : List (S24)), ([] : List (S105)), ([] : List (S24)), 11)) else (if (l0.length : Int) = 60 then (some (([] : List (S24)), ([] : List (S105)), ([] : List (S24)), 12)) else ((slices_Clone_implOut.f l0).bind fun t373 => ((slices_Insert_implOut.f t373 t370 (([(⟨a1_0, a1_1, a1_2, a1_3, a1_4⟩ : S24)] : List (S24)))).bind fun t379 => (some (t379, ([] : List (S105)), ([] : List (S24)), 0)))))) else (some (([] : List (S24)), ([] : List (S105)), ([] : List (S24)), 1))) = some (r1, r2, r3, r4) := H; have A12 := Aside0.mk A120; clear A120; have hnb13 := NB367_368.out; have hnc13 := NB368_367.out; obtain ⟨hcz14_0, hcz14_1, hcz14_2, hcz14_3, hcz14_4, hfz14_0, hfz14_1, hfz14_2, hfz14_3, hfz14_4⟩ := cf5 BK367
    try go_wp2_with (fail)
    go_at_call 72; (with_reducible refine (impl_isOut.calls k a1_0 a1_1 a1_2 a1_3 a1_4 t372 _ A12.out).mono ?_); rintro e w15 ⟨rfl, hb⟩; replace BK367 := Aside0.mk (blk_below (ks BK367) hb); replace BK368 := Aside0.mk (blk_below (ks BK368) hb); replace HB := Aside0.mk (below_step (bs HB) hb); (try clear hb); (try clear hb2); (try clear hk); (try clear hi)
    by_cases c16 : t372 = true
    · subst c16
      have H1 : (if t371 = true then (some (([] : List (S24)), ([] : List (S105)), ([] : List (S24)), 11)) else (if (l0.length : Int) = 60 then (some (([] : List (S24)), ([] : List (S105)), ([] : List (S24)), 12)) else ((slices_Clone_implOut.f l0).bind fun t373 => ((slices_Insert_implOut.f t373 t370 (([(⟨a1_0, a1_1, a1_2, a1_3, a1_4⟩ : S24)] : List (S24)))).bind fun t379 => (some (t379, ([] : List (S105)), ([] : List (S24)), 0)))))) = some (r1, r2, r3, r4) := by rw [if_pos rfl] at H; exact H
      clear H; have H := H1; clear H1
      by_cases c17 : t371 = true
      · subst c17
        have H1 : (some (([] : List (S24)), ([] : List (S105)), ([] : List (S24)), 11)) = some (r1, r2, r3, r4) := by rw [if_pos rfl] at H; exact H
        clear H; have H := H1; clear H1; simp only [Option.some.injEq, Prod.mk.injEq] at H; obtain ⟨rfl, rfl, rfl, rfl⟩ := H; have hnb18 := NB368_367.out; have hnc18 := NB367_368.out; obtain ⟨hcz19_0, hcz19_1, hcz19_2, hcz19_3, hfz19_0, hfz19_1, hfz19_2, hfz19_3⟩ := cf4 BK368
        go_wp2
        refine bodyPost_ret (results_cell_row rfl _ _ gb368 34 #[.slice none 0 0, .slice none 0 0, .slice none 0 0, .int .i64 11] (0, 0) _ rfl (kp BK368) Try.underlying34 rfl (by kernel_rfl)) rfl ?_
        exact ⟨_, _, _, ff, by first | exact Kd.R_nil _ _ _ _ _ | exact Kd.N_nil _ _ _ _ _ | exact Kd.V_nil _ _ _ _ _ | exact Kd.Q_nil _ _ _ _ _ | exact Kd.S_nil _ _ _ _ _, by first | exact Kd.R_nil _ _ _ _ _ | exact Kd.N_nil _ _ _ _ _ | exact Kd.V_nil _ _ _ _ _ | exact Kd.Q_nil _ _ _ _ _ | exact Kd.S_nil _ _ _ _ _, by first | exact Kd.R_nil _ _ _ _ _ | exact Kd.N_nil _ _ _ _ _ | exact Kd.V_nil _ _ _ _ _ | exact Kd.Q_nil _ _ _ _ _ | exact Kd.S_nil _ _ _ _ _, bs HB⟩
      · replace c17 := Bool.eq_false_iff.mpr c17; subst c17
        have H1 : (if (l0.length : Int) = 60 then (some (([] : List (S24)), ([] : List (S105)), ([] : List (S24)), 12)) else ((slices_Clone_implOut.f l0).bind fun t373 => ((slices_Insert_implOut.f t373 t370 (([(⟨a1_0, a1_1, a1_2, a1_3, a1_4⟩ : S24)] : List (S24)))).bind fun t379 => (some (t379, ([] : List (S105)), ([] : List (S24)), 0))))) = some (r1, r2, r3, r4) := by rw [if_neg (show ¬ (false = true) by decide)] at H; exact H
        clear H; have H := H1; clear H1
        by_cases c20 : (l0.length : Int) = 60
        · rw [if_pos c20] at H; have c20b0 : ((l0.length : Int) == 60) = true := beq_iff_eq.mpr c20; have c20b1 : ((l0.length : Int) != 60) = false := bne_eq_false_iff_eq.mpr c20; clear c20; simp only [Option.some.injEq, Prod.mk.injEq] at H; obtain ⟨rfl, rfl, rfl, rfl⟩ := H; have hnb21 := NB368_367.out; have hnc21 := NB367_368.out; obtain ⟨hcz22_0, hcz22_1, hcz22_2, hcz22_3, hfz22_0, hfz22_1, hfz22_2, hfz22_3⟩ := cf4 BK368
          go_wp2
          refine bodyPost_ret (results_cell_row rfl _ _ gb368 34 #[.slice none 0 0, .slice none 0 0, .slice none 0 0, .int .i64 12] (0, 0) _ rfl (kp BK368) Try.underlying34 rfl (by kernel_rfl)) rfl ?_
          exact ⟨_, _, _, ff, by first | exact Kd.R_nil _ _ _ _ _ | exact Kd.N_nil _ _ _ _ _ | exact Kd.V_nil _ _ _ _ _ | exact Kd.Q_nil _ _ _ _ _ | exact Kd.S_nil _ _ _ _ _, by first | exact Kd.R_nil _ _ _ _ _ | exact Kd.N_nil _ _ _ _ _ | exact Kd.V_nil _ _ _ _ _ | exact Kd.Q_nil _ _ _ _ _ | exact Kd.S_nil _ _ _ _ _, by first | exact Kd.R_nil _ _ _ _ _ | exact Kd.N_nil _ _ _ _ _ | exact Kd.V_nil _ _ _ _ _ | exact Kd.Q_nil _ _ _ _ _ | exact Kd.S_nil _ _ _ _ _, bs HB⟩
        · rw [if_neg c20] at H; have c20b0 : ((l0.length : Int) == 60) = false := beq_eq_false_iff_ne.mpr c20; have c20b1 : ((l0.length : Int) != 60) = true := bne_iff_ne.mpr c20; replace H := Option.bind_eq_some_iff.mp H; obtain ⟨t373, A230, H⟩ := H; replace H : ((slices_Insert_implOut.f t373 t370 (([(⟨a1_0, a1_1, a1_2, a1_3, a1_4⟩ : S24)] : List (S24)))).bind fun t379 => (some (t379, ([] : List (S105)), ([] : List (S24)), 0))) = some (r1, r2, r3, r4) := H; have A23 := Aside0.mk A230; clear A230; obtain ⟨y376, hy376⟩ : ∃ y_ : List (S24), y_ = (([(⟨a1_0, a1_1, a1_2, a1_3, a1_4⟩ : S24)] : List (S24))) := ⟨_, rfl⟩
          replace H : ((slices_Insert_implOut.f t373 t370 y376).bind fun t379 => (some (t379, ([] : List (S105)), ([] : List (S24)), 0))) = some (r1, r2, r3, r4) := by first | (rw [hy376]; with_reducible exact H) | (have H2_ := (Option.bind_some _ _).symm.trans H; rw [hy376]; with_reducible exact H2_) | (have H2_ := (Option.bind_some _ _).symm.trans H; with_reducible exact H2_) | with_reducible exact H | (rw [hy376]; exact H) | exact H
          have Ny376 := Aside0.mk hy376; clear hy376; replace H := Option.bind_eq_some_iff.mp H; obtain ⟨t379, A240, H⟩ := H; replace H : (some (t379, ([] : List (S105)), ([] : List (S24)), 0)) = some (r1, r2, r3, r4) := H; have A24 := Aside0.mk A240; clear A240; simp only [Option.some.injEq, Prod.mk.injEq] at H; obtain ⟨rfl, rfl, rfl, rfl⟩ := H
          try go_wp2
          replace BK367 := Aside0.mk (blk_drew BK367.out); replace BK368 := Aside0.mk (blk_drew BK368.out); replace HB := Aside0.mk (below_drew1 HB.out); refine start_ (n := 8) (S := fun w' => w'.cell? ⟨gb367, 0, none⟩ = some (.string a1_0) ∧ w'.cell? ⟨gb367, 1, none⟩ = some (.int .i64 a1_1) ∧ w'.cell? ⟨gb367, 2, none⟩ = some (.string a1_2) ∧ w'.cell? ⟨gb367, 3, none⟩ = some (.int .i64 a1_3) ∧ w'.cell? ⟨gb367, 4, none⟩ = some (.int .i64 a1_4)) (ds := []) #[false, false, false, false, false, false, false, false] (by kernel_rfl) rfl rfl ⟨(blk_cell BK367.out 0).trans rfl, (blk_cell BK367.out 1).trans rfl, (blk_cell BK367.out 2).trans rfl, (blk_cell BK367.out 3).trans rfl, (blk_cell BK367.out 4).trans rfl⟩ (fun hHeld => ?_); refine with_tabW impl_OutboxPut.tab11 impl_OutboxPut.bits11 (fun HT_ HW_ => ?_)
          generalize w15.drew = w25 at BK367 BK368 HB hHeld ⊢
          refine pA 0 33 HT_ ?_; refine pA 2 35 HT_ ?_; refine tA 3 36 HT_ HW_ hHeld ?_; refine join_ (σ := Value × Value) 3 #[true, true, true, true, true, false, false, false] (fun s_ => [(34, s_.1), (37, s_.2)]) (fun s_ w' => (w'.cell? ⟨gb367, 0, none⟩ = some (.string a1_0) ∧ w'.cell? ⟨gb367, 1, none⟩ = some (.int .i64 a1_1) ∧ w'.cell? ⟨gb367, 2, none⟩ = some (.string a1_2) ∧ w'.cell? ⟨gb367, 3, none⟩ = some (.int .i64 a1_3) ∧ w'.cell? ⟨gb367, 4, none⟩ = some (.int .i64 a1_4)) ∧ (Kd.R k24 24 w' w.heap.size (fun k_ => some k_ ≠ (s_.2 : Value).ownBlock ∧ k_ ≠ gb367) s_.1 t373) ∧ (Kd.R k24 24 w' w.heap.size (fun k_ => some k_ ≠ (s_.1 : Value).ownBlock ∧ k_ ≠ gb367) s_.2 y376) ∧ (w'.heap[gb367]? = some (.cells #[.string a1_0, .int .i64 a1_1, .string a1_2, .int .i64 a1_3, .int .i64 a1_4] 24 (0, 0))) ∧ (w'.heap[gb368]? = some (.cells #[.slice none 0 0, .slice none 0 0, .slice none 0 0, .int .i64 0] 34 (0, 0))) ∧ (Below w.heap.size w w')) ?_ ?_
          rotate_left
          · intro hCont; refine two_ (i := 1) (j := 4) (Ni := some 34) (Nj := some 37) #[true, true, true, true, false, false, false, false] #[true, false, true, true, true, false, false, false] rfl rfl rfl rfl (two_of HT_.out (by kernel_rfl)) (by decide) (by decide) (fun K hK => ?_) (fun K hK => ?_)
            · skip
              refine gA Try.func111 #[.slice A0 l0.length c0] ?_; (with_reducible refine (slices_Clone_implOut.calls _ _ l0 t373 _ ?side1 ?side2 A23.out).mono ?_)
              (case side1 => repeat (first | exact (Kd.C_below HR0.out HB.out) | (with_reducible refine Kd.C_alloc ?_ _) | (with_reducible refine Kd.C_drewN ?_ _) | (with_reducible refine Kd.C_drew ?_)))
              (case side2 => exact HC0.out)
              rintro e w26 ⟨v374, rfl, ho0, hb⟩; refine ⟨_, rfl, ?_⟩; have HO375 := Aside0.mk (Kd.R_lower (Kd.R_newB ho0 (g := gb367) (o := .cells #[.string a1_0, .int .i64 a1_1, .string a1_2, .int .i64 a1_3, .int .i64 a1_4] 24 (0, 0)) (ks BK367)) (below_size (bs HB))); replace BK367 := Aside0.mk (blk_below (ks BK367) hb); replace BK368 := Aside0.mk (blk_below (ks BK368) hb); replace HB := Aside0.mk (below_step (bs HB) hb); (try clear hb); (try clear hb2); (try clear hk); (try clear hi); (try clear ho0); refine hK.out _ _ ⟨(blk_cell BK367.out 0).trans rfl, (blk_cell BK367.out 1).trans rfl, (blk_cell BK367.out 2).trans rfl, (blk_cell BK367.out 3).trans rfl, (blk_cell BK367.out 4).trans rfl⟩ (fun hHeld => ?_); clear hK K; refine nA 34 ?_; refine oA 4 37 HT_ (fun K hK => ?_); refine Kd.R_lit_step k24 _ 24 ?hg (N := 37) ?hd (xs := ([(⟨a1_0, a1_1, a1_2, a1_3, a1_4⟩ : S24)] : List (S24))) (inner := [.string a1_0, .int .i64 a1_1, .string a1_2, .int .i64 a1_3, .int .i64 a1_4]) (ok := fun _ => True) (okp := fun _ => True) ?hr ?hp (fun _ hk => hk) trivial (Below.refl _ _) (Nat.le_refl _) (by simp) ?_; (case hd => rfl); (case hg => rfl); (case hr => first | (go_simp; done) | (go_simp; rfl)); (case hp => exact (Reps.c5 (show Kd.M k24 _ _ _ (⟨a1_0, a1_1, a1_2, a1_3, a1_4⟩ : S24) [.string a1_0, .int .i64 a1_1, .string a1_2, .int .i64 a1_3, .int .i64 a1_4] from (k24_mkM _ _ _ (⟨a1_0, a1_1, a1_2, a1_3, a1_4⟩ : S24) )) (Reps.none _ _))); intro v377 w27 ho28 hb hg_ hnew_; clear hg_ hnew_
              (first | rw [← Ny376.out] at ho28 | (simp only [Int.reduceToNat] at ho28; rw [← Ny376.out] at ho28))
              have HO378 := Aside0.mk (Kd.R_lower (Kd.R_newB (Kd.R_new' ho28 (Kd.R_lt (rs HO375))) (g := gb367) (o := .cells #[.string a1_0, .int .i64 a1_1, .string a1_2, .int .i64 a1_3, .int .i64 a1_4] 24 (0, 0)) (ks BK367)) (below_size (bs HB))); replace HO375 := Aside0.mk (Kd.R_elder' (rs HO375) (Kd.R_base ho28) hb); replace BK367 := Aside0.mk (blk_below (ks BK367) hb); replace BK368 := Aside0.mk (blk_below (ks BK368) hb); replace HB := Aside0.mk (below_step (bs HB) hb); clear hb ho28; refine hK.out _ _ ⟨(blk_cell BK367.out 0).trans rfl, (blk_cell BK367.out 1).trans rfl, (blk_cell BK367.out 2).trans rfl, (blk_cell BK367.out 3).trans rfl, (blk_cell BK367.out 4).trans rfl⟩ (fun hHeld => ?_); clear hK K; refine nA 37 ?_
              exact norm_ (by simp only [putAll, Act.put, List.setIfInBounds_toArray, List.set_cons_zero, List.set_cons_succ]) (hCont (v374, v377) _ ⟨hHeld, (by (with_reducible repeat (first | apply Kd.R_alloc | apply Kd.R_drewN | apply Kd.R_drew)); exact Kd.R_mono HO375.out (fun _ hk => ⟨hk.2, hk.1.2⟩)), (by (with_reducible repeat (first | apply Kd.R_alloc | apply Kd.R_drewN | apply Kd.R_drew)); exact Kd.R_mono HO378.out (fun _ hk => ⟨hk.1.2, hk.2⟩)), (ks BK367), (ks BK368), (bs HB)⟩)
            · skip
              refine Kd.R_lit_step k24 _ 24 ?hg (N := 37) ?hd (xs := ([(⟨a1_0, a1_1, a1_2, a1_3, a1_4⟩ : S24)] : List (S24))) (inner := [.string a1_0, .int .i64 a1_1, .string a1_2, .int .i64 a1_3, .int .i64 a1_4]) (ok := fun _ => True) (okp := fun _ => True) ?hr ?hp (fun _ hk => hk) trivial (Below.refl _ _) (Nat.le_refl _) (by simp) ?_; (case hd => rfl); (case hg => rfl); (case hr => first | (go_simp; done) | (go_simp; rfl)); (case hp => exact (Reps.c5 (show Kd.M k24 _ _ _ (⟨a1_0, a1_1, a1_2, a1_3, a1_4⟩ : S24) [.string a1_0, .int .i64 a1_1, .string a1_2, .int .i64 a1_3, .int .i64 a1_4] from (k24_mkM _ _ _ (⟨a1_0, a1_1, a1_2, a1_3, a1_4⟩ : S24) )) (Reps.none _ _))); intro v377 w26 ho27 hb hg_ hnew_; clear hg_ hnew_
              (first | rw [← Ny376.out] at ho27 | (simp only [Int.reduceToNat] at ho27; rw [← Ny376.out] at ho27))
              have HO378 := Aside0.mk (Kd.R_lower (Kd.R_newB ho27 (g := gb367) (o := .cells #[.string a1_0, .int .i64 a1_1, .string a1_2, .int .i64 a1_3, .int .i64 a1_4] 24 (0, 0)) (ks BK367)) (below_size (bs HB))); replace BK367 := Aside0.mk (blk_below (ks BK367) hb); replace BK368 := Aside0.mk (blk_below (ks BK368) hb); replace HB := Aside0.mk (below_step (bs HB) hb); clear hb ho27; refine hK.out _ _ ⟨(blk_cell BK367.out 0).trans rfl, (blk_cell BK367.out 1).trans rfl, (blk_cell BK367.out 2).trans rfl, (blk_cell BK367.out 3).trans rfl, (blk_cell BK367.out 4).trans rfl⟩ (fun hHeld => ?_); clear hK K; refine nA 37 ?_; refine oA 1 34 HT_ (fun K hK => ?_); refine gA Try.func111 #[.slice A0 l0.length c0] ?_; (with_reducible refine (slices_Clone_implOut.calls _ _ l0 t373 _ ?side1 ?side2 A23.out).mono ?_)
              (case side1 => repeat (first | exact (Kd.C_below HR0.out HB.out) | (with_reducible refine Kd.C_alloc ?_ _) | (with_reducible refine Kd.C_drewN ?_ _) | (with_reducible refine Kd.C_drew ?_)))
              (case side2 => exact HC0.out)
              rintro e w28 ⟨v374, rfl, ho0, hb⟩; refine ⟨_, rfl, ?_⟩; have HO375 := Aside0.mk (Kd.R_lower (Kd.R_newB (Kd.R_new' ho0 (Kd.R_lt (rs HO378))) (g := gb367) (o := .cells #[.string a1_0, .int .i64 a1_1, .string a1_2, .int .i64 a1_3, .int .i64 a1_4] 24 (0, 0)) (ks BK367)) (below_size (bs HB))); replace HO378 := Aside0.mk (Kd.R_elder' (rs HO378) (Kd.R_base ho0) hb); replace BK367 := Aside0.mk (blk_below (ks BK367) hb); replace BK368 := Aside0.mk (blk_below (ks BK368) hb); replace HB := Aside0.mk (below_step (bs HB) hb); (try clear hb); (try clear hb2); (try clear hk); (try clear hi); (try clear ho0); refine hK.out _ _ ⟨(blk_cell BK367.out 0).trans rfl, (blk_cell BK367.out 1).trans rfl, (blk_cell BK367.out 2).trans rfl, (blk_cell BK367.out 3).trans rfl, (blk_cell BK367.out 4).trans rfl⟩ (fun hHeld => ?_); clear hK K; refine nA 34 ?_
              exact norm_ (by simp only [putAll, Act.put, List.setIfInBounds_toArray, List.set_cons_zero, List.set_cons_succ]) (hCont (v374, v377) _ ⟨hHeld, (by (with_reducible repeat (first | apply Kd.R_alloc | apply Kd.R_drewN | apply Kd.R_drew)); exact Kd.R_mono HO375.out (fun _ hk => ⟨hk.1.2, hk.2⟩)), (by (with_reducible repeat (first | apply Kd.R_alloc | apply Kd.R_drewN | apply Kd.R_drew)); exact Kd.R_mono HO378.out (fun _ hk => ⟨hk.2, hk.1.2⟩)), (ks BK367), (ks BK368), (bs HB)⟩)
          rintro ⟨v374, v377⟩ w29 ⟨hS_, h0_, h1_, h2_, h3_, h4_⟩; have n0_ : Aside0 (Kd.R k24 24 w29 w.heap.size (fun k_ => some k_ ≠ (v377 : Value).ownBlock ∧ k_ ≠ gb367) v374 t373) := ⟨h0_⟩; have n1_ : Aside0 (Kd.R k24 24 w29 w.heap.size (fun k_ => some k_ ≠ (v374 : Value).ownBlock ∧ k_ ≠ gb367) v377 y376) := ⟨h1_⟩; have n2_ : Aside0 (w29.heap[gb367]? = some (.cells #[.string a1_0, .int .i64 a1_1, .string a1_2, .int .i64 a1_3, .int .i64 a1_4] 24 (0, 0))) := ⟨h2_⟩; have n3_ : Aside0 (w29.heap[gb368]? = some (.cells #[.slice none 0 0, .slice none 0 0, .slice none 0 0, .int .i64 0] 34 (0, 0))) := ⟨h3_⟩; have n4_ : Aside0 (Below w.heap.size w w29) := ⟨h4_⟩; clear BK367; clear BK368; clear HB; clear h0_ h1_ h2_ h3_ h4_; have HO375 := n0_; have HO378 := n1_; have BK367 := n2_; have BK368 := n3_; have HB := n4_; clear n0_ n1_ n2_ n3_ n4_; have hHeld : w29.cell? ⟨gb367, 0, none⟩ = some (.string a1_0) ∧ w29.cell? ⟨gb367, 1, none⟩ = some (.int .i64 a1_1) ∧ w29.cell? ⟨gb367, 2, none⟩ = some (.string a1_2) ∧ w29.cell? ⟨gb367, 3, none⟩ = some (.int .i64 a1_3) ∧ w29.cell? ⟨gb367, 4, none⟩ = some (.int .i64 a1_4) := hS_; obtain ⟨Ao30, co30, eo30⟩ := Kd.R_slice HO375.out
          (first | subst eo30 | (injection eo30 with f1_ f2_ f3_; have f4_ := f1_.symm; have f5_ := f3_.symm; clear f1_ f2_ f3_; subst f4_; subst f5_))
          obtain ⟨Ao31, co31, eo31⟩ := Kd.R_slice HO378.out
          (first | subst eo31 | (injection eo31 with f1_ f2_ f3_; have f4_ := f1_.symm; have f5_ := f3_.symm; clear f1_ f2_ f3_; subst f4_; subst f5_))
          refine norm_ (a' := ?_) ?_ ?_
          rotate_left
          · simp only [putAll, Act.put, List.setIfInBounds_toArray, List.set_cons_zero, List.set_cons_succ]
            rfl
          refine oA 5 38 HT_ (fun K hK => ?_); refine gA Try.func113 #[.slice Ao30 t373.length co30, .int .i64 t370, .slice Ao31 y376.length co31] ?_; (with_reducible refine (slices_Insert_implOut.calls (fun k_ => some k_ = (.slice Ao30 t373.length co30 : Value).ownBlock) (.slice Ao30 t373.length co30) t373 t370 (fun k_ => some k_ = (.slice Ao31 y376.length co31 : Value).ownBlock) (.slice Ao31 y376.length co31) y376 t379 w _ ?side1 ?side2 ?side3 ?side4 ?side5 A24.out).mono ?_)
          (case side1 => repeat (first | (with_reducible first | exact HB.out | apply below_alloc | apply pw_below_drewN | apply below_drew1 | refine below_set ?_ GE367.out | refine below_set ?_ GE368.out) | exact HB.out))
          (case side2 => exact Kd.R_tight rfl HO375.out)
          (case side3 => exact fun k_ e_ => (HO375.out.1 k_ e_.symm).1)
          (case side4 => exact Kd.R_tight rfl HO378.out)
          (case side5 => exact fun k_ e_ => (HO378.out.1 k_ e_.symm).1)
          rintro e w32 ⟨v380, rfl, ho0, hb, hkp⟩; refine ⟨_, rfl, ?_⟩; have n0_ := Aside0.mk (blk_kept (ks BK367) hkp (fun hs_ => Or.elim hs_ (fun e_ => (fun e_ => (Kd.R_away HO375.out (fun _ hk => hk.2)) e_) e_) (fun e_ => (fun e_ => (Kd.R_away HO378.out (fun _ hk => hk.2)) e_) e_))); have n1_ := Aside0.mk (blk_kept (ks BK368) hkp (fun hs_ => Or.elim hs_ (fun e_ => (fun e_ => (Kd.R_ne HO375.out BK368.out (by decide)) e_) e_) (fun e_ => (fun e_ => (Kd.R_ne HO378.out BK368.out (by decide)) e_) e_))); have n2_ := Aside0.mk (Kd.R_mono (ok' := fun k_ => k_ ≠ gb367) ho0 (fun k_ hk_ => Or.elim hk_ (fun hs_ => Or.elim hs_ (fun hs_ => fun e_ => (Kd.R_away HO375.out (fun _ hk => hk.2)) (by rw [← e_]; exact hs_)) (fun hs_ => fun e_ => (Kd.R_away HO378.out (fun _ hk => hk.2)) (by rw [← e_]; exact hs_))) (fun hn_ => (Kd.freshB (g := gb367) (o := .cells #[.string a1_0, .int .i64 a1_1, .string a1_2, .int .i64 a1_3, .int .i64 a1_4] 24 (0, 0)) (ks BK367) k_ hn_)))); have n3_ := Aside0.mk (hb); clear BK367; clear BK368; clear HB; clear HO375; clear HO378; have BK367 := n0_; have BK368 := n1_; have HO381 := n2_; have HB := n3_; clear n0_ n1_ n2_ n3_; (try clear hb); (try clear hkp); (try clear ho0); obtain ⟨Ao33, co33, eo33⟩ := Kd.R_slice HO381.out
          (first | subst eo33 | (injection eo33 with f1_ f2_ f3_; have f4_ := f1_.symm; have f5_ := f3_.symm; clear f1_ f2_ f3_; subst f4_; subst f5_))
          refine hK.out _ _ ⟨(blk_cell BK367.out 0).trans rfl, (blk_cell BK367.out 1).trans rfl, (blk_cell BK367.out 2).trans rfl, (blk_cell BK367.out 3).trans rfl, (blk_cell BK367.out 4).trans rfl⟩ (fun hHeld => ?_); clear hK K; refine nA 38 ?_; refine pA 6 39 HT_ ?_; refine one_ (i := 7) (N := none) #[true, true, true, true, true, true, true, true] rfl rfl (one_of HT_.out (by kernel_rfl)) (by decide) (fun K hK => ?_); have hs34 : w32.cell? ⟨gb368, 0, none⟩ = some (.slice none 0 0) := (blk_cell BK368.out 0).trans rfl; have hfs34 := blk_frozen BK368.out 0; have hns34_0 := NB367_368.out; have hms34_0 := NB368_367.out; have hs35 : w32.cell? ⟨gb368, 1, none⟩ = some (.slice none 0 0) := (blk_cell BK368.out 1).trans rfl; have hfs35 := blk_frozen BK368.out 1; have hns35_0 := NB367_368.out; have hms35_0 := NB368_367.out; have hs36 : w32.cell? ⟨gb368, 2, none⟩ = some (.slice none 0 0) := (blk_cell BK368.out 2).trans rfl; have hfs36 := blk_frozen BK368.out 2; have hns36_0 := NB367_368.out; have hms36_0 := NB368_367.out; have hs37 : w32.cell? ⟨gb368, 3, none⟩ = some (.int .i64 0) := (blk_cell BK368.out 3).trans rfl; have hfs37 := blk_frozen BK368.out 3; have hns37_0 := NB367_368.out; have hms37_0 := NB368_367.out; refine skip_ (w1 := ?_) (by rfl) rfl ?_ ?_
          rotate_left
          · go_simp
            rfl
          refine hK.out _ _ ⟨((cell_far (p := ⟨gb368, _, none⟩) NB367_368.out _).trans (((cell_far (p := ⟨gb368, _, none⟩) NB367_368.out _).trans (((cell_far (p := ⟨gb368, _, none⟩) NB367_368.out _).trans (((cell_far (p := ⟨gb368, _, none⟩) NB367_368.out _).trans (hHeld.1)))))))), ((cell_far (p := ⟨gb368, _, none⟩) NB367_368.out _).trans (((cell_far (p := ⟨gb368, _, none⟩) NB367_368.out _).trans (((cell_far (p := ⟨gb368, _, none⟩) NB367_368.out _).trans (((cell_far (p := ⟨gb368, _, none⟩) NB367_368.out _).trans (hHeld.2.1)))))))), ((cell_far (p := ⟨gb368, _, none⟩) NB367_368.out _).trans (((cell_far (p := ⟨gb368, _, none⟩) NB367_368.out _).trans (((cell_far (p := ⟨gb368, _, none⟩) NB367_368.out _).trans (((cell_far (p := ⟨gb368, _, none⟩) NB367_368.out _).trans (hHeld.2.2.1)))))))), ((cell_far (p := ⟨gb368, _, none⟩) NB367_368.out _).trans (((cell_far (p := ⟨gb368, _, none⟩) NB367_368.out _).trans (((cell_far (p := ⟨gb368, _, none⟩) NB367_368.out _).trans (((cell_far (p := ⟨gb368, _, none⟩) NB367_368.out _).trans (hHeld.2.2.2.1)))))))), ((cell_far (p := ⟨gb368, _, none⟩) NB367_368.out _).trans (((cell_far (p := ⟨gb368, _, none⟩) NB367_368.out _).trans (((cell_far (p := ⟨gb368, _, none⟩) NB367_368.out _).trans (((cell_far (p := ⟨gb368, _, none⟩) NB367_368.out _).trans (hHeld.2.2.2.2))))))))⟩ (fun hHeld => ?_); clear hK K; refine done_ (done_of HT_.out (by kernel_rfl)) ?_
          try go_wp2
          refine bodyPost_ret (results_cell_row rfl _ _ gb368 34 #[.slice Ao33 t379.length co33, .slice none 0 0, .slice none 0 0, .int .i64 0] (0, 0) _ rfl (kp BK368) Try.underlying34 rfl (by kernel_rfl)) rfl ?_
          exact ⟨_, _, _, ff, Kd.R_mono (rf (Kd.R_types HO381.out BK368.out (by decide))) (fun _ hk => (by simp [Value.ownBlock])), by first | exact Kd.R_nil _ _ _ _ _ | exact Kd.N_nil _ _ _ _ _ | exact Kd.V_nil _ _ _ _ _ | exact Kd.Q_nil _ _ _ _ _ | exact Kd.S_nil _ _ _ _ _, by first | exact Kd.R_nil _ _ _ _ _ | exact Kd.N_nil _ _ _ _ _ | exact Kd.V_nil _ _ _ _ _ | exact Kd.Q_nil _ _ _ _ _ | exact Kd.S_nil _ _ _ _ _, bs HB⟩
    · replace c16 := Bool.eq_false_iff.mpr c16; subst c16
      have H1 : (some (([] : List (S24)), ([] : List (S105)), ([] : List (S24)), 1)) = some (r1, r2, r3, r4) := by rw [if_neg (show ¬ (false = true) by decide)] at H; exact H
      clear H; have H := H1; clear H1; simp only [Option.some.injEq, Prod.mk.injEq] at H; obtain ⟨rfl, rfl, rfl, rfl⟩ := H; have hnb38 := NB368_367.out; have hnc38 := NB367_368.out; obtain ⟨hcz39_0, hcz39_1, hcz39_2, hcz39_3, hfz39_0, hfz39_1, hfz39_2, hfz39_3⟩ := cf4 BK368
      go_wp2
      refine bodyPost_ret (results_cell_row rfl _ _ gb368 34 #[.slice none 0 0, .slice none 0 0, .slice none 0 0, .int .i64 1] (0, 0) _ rfl (kp BK368) Try.underlying34 rfl (by kernel_rfl)) rfl ?_
      exact ⟨_, _, _, ff, by first | exact Kd.R_nil _ _ _ _ _ | exact Kd.N_nil _ _ _ _ _ | exact Kd.V_nil _ _ _ _ _ | exact Kd.Q_nil _ _ _ _ _ | exact Kd.S_nil _ _ _ _ _, by first | exact Kd.R_nil _ _ _ _ _ | exact Kd.N_nil _ _ _ _ _ | exact Kd.V_nil _ _ _ _ _ | exact Kd.Q_nil _ _ _ _ _ | exact Kd.S_nil _ _ _ _ _, by first | exact Kd.R_nil _ _ _ _ _ | exact Kd.N_nil _ _ _ _ _ | exact Kd.V_nil _ _ _ _ _ | exact Kd.Q_nil _ _ _ _ _ | exact Kd.S_nil _ _ _ _ _, bs HB⟩
  · rw [if_neg c7] at H; have c7b0 : (t369 == 0) = false := beq_eq_false_iff_ne.mpr c7; have c7b1 : (t369 != 0) = true := bne_iff_ne.mpr c7; simp only [Option.some.injEq, Prod.mk.injEq] at H; obtain ⟨rfl, rfl, rfl, rfl⟩ := H; have hnb40 := NB368_367.out; have hnc40 := NB367_368.out; obtain ⟨hcz41_0, hcz41_1, hcz41_2, hcz41_3, hfz41_0, hfz41_1, hfz41_2, hfz41_3⟩ := cf4 BK368
    go_wp2
    refine bodyPost_ret (results_cell_row rfl _ _ gb368 34 #[.slice none 0 0, .slice none 0 0, .slice none 0 0, .int .i64 t369] (0, 0) _ rfl (kp BK368) Try.underlying34 rfl (by kernel_rfl)) rfl ?_
    exact ⟨_, _, _, ff, by first | exact Kd.R_nil _ _ _ _ _ | exact Kd.N_nil _ _ _ _ _ | exact Kd.V_nil _ _ _ _ _ | exact Kd.Q_nil _ _ _ _ _ | exact Kd.S_nil _ _ _ _ _, by first | exact Kd.R_nil _ _ _ _ _ | exact Kd.N_nil _ _ _ _ _ | exact Kd.V_nil _ _ _ _ _ | exact Kd.Q_nil _ _ _ _ _ | exact Kd.S_nil _ _ _ _ _, by first | exact Kd.R_nil _ _ _ _ _ | exact Kd.N_nil _ _ _ _ _ | exact Kd.V_nil _ _ _ _ _ | exact Kd.Q_nil _ _ _ _ _ | exact Kd.S_nil _ _ _ _ _, bs HB⟩
end Go.Proofs.Ytefmkmhjbfpelaa.QR
namespace Go.Proofs.Ytefmkmhjbfpelaa.QR
open Go.RowKit Go.Proofs.YtefmkmhjbfpelaaW.PrintWords Go.Proofs.YtefmkmhjbfpelaaW.PrintLast Go.Proofs.YtefmkmhjbfpelaaW.PrintMore
attribute [local go_sem] max2_int min2_int max_two min_two max_three min_three max_four min_four   -- for this text's walks alone
set_option linter.unusedVariables false
set_option linter.unusedSimpArgs false
set_option maxHeartbeats 8000000 in
set_option maxRecDepth 100000 in
theorem slices_Delete_implOut_at (P0_ : Nat → Prop) (u : Value) (l0 : List S24) (i j : Nat) (w0 w : World) (hB : Below w0.heap.size w0 w) (ho0 : Kd.R k24 24 w w0.heap.size P0_ u l0) (hij : i < j) (hj : j ≤ l0.length) :
    Calls Try.prog 110 #[u, .int .i64 i, .int .i64 j] w fun e w' => ∃ v0_ : Value, e = .returned (v0_) ∧ Kd.R k24 24 w' w0.heap.size (fun k_ => (P0_ k_ ∨ w.heap.size ≤ k_)) v0_ (l0.take i ++ l0.drop j) ∧ Below w0.heap.size w0 w' ∧ Kept w w' (fun k_ => P0_ k_) := by
  rcases r_row ho0 with ⟨_, h0⟩ | ⟨g, cap, cur, rfl, hbg, hPg, hg, hle, hm, hs, hr0, hone0⟩
  · subst h0; simp at hj; omega
  have hsz : (k24).sz = 5 := rfl
  rw [hsz] at hs hr0 hone0
  obtain ⟨C, hC⟩ : ∃ C, C = cur.toList := ⟨_, rfl⟩
  rw [← hC] at hr0 hone0
  have hCl : C.length = cap * 5 := by rw [hC]; simpa using hs
  have hg' : w.heap[g]? = some (.cells C.toArray 24 (0, 0)) := by rw [hC]; simpa using hg
  obtain ⟨X, hX⟩ : ∃ X, X = (C.take (l0.length * 5)).drop (j * 5) := ⟨_, rfl⟩
  have hXl : X.length = (l0.length - j) * 5 := by rw [hX, List.length_drop, List.length_take]; omega
  have hXo : ∀ v ∈ X, v.oneCell' = true := fun v hv => hone0 v (List.mem_of_mem_drop (hX ▸ hv))
  obtain ⟨i0, hi0, hz⟩ := Option.map_eq_some_iff.1 info24
  simp only [Prod.mk.injEq] at hz
  obtain ⟨hz0, hz1, hz2⟩ := hz; obtain ⟨Y, hY⟩ : ∃ Y, Y = (Builtin.zeroCells ((.agg #[(.string ⟨#[]⟩), (.int .i64 0), (.string ⟨#[]⟩), (.int .i64 0), (.int .i64 0)]) : Value).cells (j - i)).toList := ⟨_, rfl⟩
  have hYl : Y.length = (j - i) * 5 := by
    have e : ((.agg #[(.string ⟨#[]⟩), (.int .i64 0), (.string ⟨#[]⟩), (.int .i64 0), (.int .i64 0)]) : Value).cells.size = 5 := rfl; rw [hY, Array.length_toList, size_zeroCells, e]
  obtain ⟨n', hn'⟩ : ∃ n', n' = i + (l0.length - j) := ⟨_, rfl⟩; obtain ⟨C1, hC1⟩ : ∃ C1, C1 = splice C (i * 5) X := ⟨_, rfl⟩; obtain ⟨C2, hC2⟩ : ∃ C2, C2 = splice C1 (n' * 5) Y := ⟨_, rfl⟩
  have hC1l : C1.length = C.length := by rw [hC1]; exact length_splice _ _ _ (by omega)
  have hfin := del_row C (l0.length * 5) (i * 5) (j * 5) Y (by omega) (by omega) (by omega) (by omega)
  have en : i * 5 + (l0.length * 5 - j * 5) = n' * 5 := by omega
  rw [← hX, ← hC1, en, ← hC2] at hfin
  have hap : ∀ W : World, W.heap = w.heap → ∀ ty o c', (o = j * 5 ∨ l0.length = j) → (Builtin.append_ #[29, 29] ty #[.slice (some ⟨g, 0, none⟩) i cap, .slice (some ⟨g, o, none⟩) (l0.length - j) c']).run Try.prog W = .ok (.slice (some ⟨g, 0, none⟩) n' cap) (W.setRow g C1.toArray) := by
    intro W hW ty o c' ho
    have h := run_append_room (P := Try.prog) W 29 ty 24 i0 Try.underlying29 hi0 g i cap C.toArray (by rw [hW]; exact hg') ⟨g, o, none⟩ (l0.length - j) c' X (by rw [hz1, hXl]) (fun k v hk => by
      rcases ho with rfl | e
      · exact cellrow (cur := C.toArray) (by rw [hW]; exact hg') _ _ (fun k v hk => by
          rw [hX, List.getElem?_drop, List.getElem?_take] at hk
          split at hk
          · simpa using hk
          · cases hk) k v hk
      · have : X = [] := List.eq_nil_of_length_eq_zero (by rw [hXl, e]; simp)
        rw [this] at hk
        cases hk) hXo (by omega) (by rw [hz1]; simp; omega)
    rw [h, hC1, hn', hz1]; simp [splice]
  have hcl : ∀ W : World, W.heap = (w.setRow g C1.toArray).heap → ∀ ty c', (Builtin.clear_ #[29] ty #[.slice (some ⟨g, n' * 5, none⟩) (l0.length - n') c']).run Try.prog W = .ok (.tuple #[]) (W.setRow g C2.toArray) := by
    intro W hW ty c'
    have e : l0.length - n' = j - i := by omega
    have h := run_clearN (P := Try.prog) W 29 24 ty i0 ((.agg #[(.string ⟨#[]⟩), (.int .i64 0), (.string ⟨#[]⟩), (.int .i64 0), (.int .i64 0)])) Try.underlying29 hi0 hz0 g (n' * 5) (l0.length - n') c' C1 24 (by omega) (by rw [hW]; exact setRow_heap w g _ _ _ _ hg') (by rw [e, ← hY]; omega) (zero_one (by simp [Value.cells]; decide) _); rw [h, e, ← hY, hC2]
  have hw1 : (i : Int) ≤ (j : Int) := by omega
  have hw2 : (j : Int) ≤ (l0.length : Int) := by omega
  have hw3 : ¬ ((i : Int) = (j : Int)) := by omega
  have hw4 : (l0.length : Int) ≤ (cap : Int) := by omega
  have hb1 : i ≤ j := by omega
  have hb2 : i ≤ cap := by omega
  have hb3 : ¬ (cap = n') := by omega
  have hb4 : n' ≤ l0.length := by omega
  have hb5 : (n' : Int) ≤ (l0.length : Int) := by omega
  have hb6 : ¬ (cap = i) := by omega
  have hb7 : ¬ (l0.length = i) := by omega
  have hb8 : j ≤ cap := by omega
  have HR := Aside0.mk hr0; have HF := Aside0.mk hfin; have HB := Aside0.mk hB; have HM := Aside0.mk hm; have HL := Aside0.mk hCl; have HXD := Aside0.mk hX; have HS0 := Aside0.mk hbg; have HP0 := Aside0.mk hPg; have HG := Aside0.mk hg'; have HN := Aside0.mk hn'; have HCL := Aside0.mk hcl; have HIJ := Aside0.mk hij; have HJ := Aside0.mk hj
  by_cases hcj : cap = j
  · have hnj : l0.length = j := by omega
    have HA := Aside0.mk (fun ty => hap w.drew rfl ty 0 0 (.inr hnj)); clear hr0 hfin hB hg' hm hCl hbg hPg hC1l hX hC1 hC2 hC hXl hXo hg hs hle ho0 hone0 hsz hi0 hz0 hz1 hz2 hY hYl en hn' hap hnj hcl; subst hcj
    go_enter Try.func110, Try.ntmps110
    go_wp2
    go_region_law (refine step_appN rfl (.tmp 22) (.tmp 25) 29 29 rfl (.slice (some ⟨g, 0, none⟩) i cap) (.slice (some ⟨g, 0, none⟩) (l0.length - cap) 0) (by simp [Act.eval, Act.put]) (by simp [Act.eval, Act.put]) (HA.out _) ?_)
    go_wp2_with ((with_reducible refine gate_builtin (b := .clear) (xs := #[.tmp 31]) rfl ?_); refine wpList_clearN rfl (.tmp 31) 29 rfl (.slice (some ⟨g, n' * 5, none⟩) (l0.length - n') (cap - n')) rfl (HCL.out (w.drew.setRow g C1.toArray) rfl _ _) ?_)
    go_ret
    refine ⟨.slice (some ⟨g, 0, none⟩) n' cap, rfl, ?_, ?_, ?_⟩
    · have hlen : (l0.take i ++ l0.drop cap).length = n' := by have := HN.out; have := HJ.out; have := HIJ.out; simp; omega
      rw [← hlen]; refine r_mk (L := C2) rfl (setRow_heap _ g _ _ _ _ (setRow_heap w.drew g _ _ _ _ HG.out)) HS0.out (.inl HP0.out) (by rw [hlen]; have := HJ.out; omega) HM.out (HF.out.2.trans HL.out) ?_; rw [hlen]
      show Reps _ 5 _ (C2.take (n' * 5))
      rw [HF.out.1]
      exact reps_app (reps_take HR.out i) (HXD.out ▸ reps_drop HR.out cap)
    · exact below_setRow (below_setRow (below_drew1 HB.out) HS0.out _) HS0.out _
    · exact kept_setRow (kept_setRow (Kept.drew (Kept.refl _ _)) (.inl HP0.out) _) (.inl HP0.out) _
  · have HA := Aside0.mk (fun ty c' => hap w.drew rfl ty (j * 5) c' (.inl rfl)); clear hr0 hfin hB hg' hm hCl hbg hPg hC1l hX hC1 hC2 hC hXl hXo hg hs hle ho0 hone0 hsz hi0 hz0 hz1 hz2 hY hYl en hn' hap hcl
    go_enter Try.func110, Try.ntmps110
    go_wp2
    go_region_law (refine step_appN rfl (.tmp 22) (.tmp 25) 29 29 rfl (.slice (some ⟨g, 0, none⟩) i cap) (.slice (some ⟨g, j * 5, none⟩) (l0.length - j) (cap - j)) (by simp [Act.eval, Act.put]) (by simp [Act.eval, Act.put]) (HA.out _ _) ?_)
    go_wp2_with ((with_reducible refine gate_builtin (b := .clear) (xs := #[.tmp 31]) rfl ?_); refine wpList_clearN rfl (.tmp 31) 29 rfl (.slice (some ⟨g, n' * 5, none⟩) (l0.length - n') (cap - n')) rfl (HCL.out (w.drew.setRow g C1.toArray) rfl _ _) ?_)
    go_ret
    refine ⟨.slice (some ⟨g, 0, none⟩) n' cap, rfl, ?_, ?_, ?_⟩
    · have hlen : (l0.take i ++ l0.drop j).length = n' := by have := HN.out; have := HJ.out; have := HIJ.out; simp; omega
      rw [← hlen]; refine r_mk (L := C2) rfl (setRow_heap _ g _ _ _ _ (setRow_heap w.drew g _ _ _ _ HG.out)) HS0.out (.inl HP0.out) (by rw [hlen]; have := HJ.out; omega) HM.out (HF.out.2.trans HL.out) ?_; rw [hlen]
      show Reps _ 5 _ (C2.take (n' * 5))
      rw [HF.out.1]
      exact reps_app (reps_take HR.out i) (HXD.out ▸ reps_drop HR.out j)
    · exact below_setRow (below_setRow (below_drew1 HB.out) HS0.out _) HS0.out _
    · exact kept_setRow (kept_setRow (Kept.drew (Kept.refl _ _)) (.inl HP0.out) _) (.inl HP0.out) _
theorem slices_Delete_implOut.calls (P0_ : Nat → Prop) (u9000_ : Value) (l0 : List S24) (a1 a2 : Int) (r : List S24) (w0 w : World) (hB : Below w0.heap.size w0 w) (ho0 : Kd.R k24 24 w w0.heap.size P0_ u9000_ l0) (h : slices_Delete_implOut.f l0 a1 a2 = some r) :
    Calls Try.prog 110 #[u9000_, .int .i64 a1, .int .i64 a2] w fun e w' => ∃ v0_ : Value, e = .returned (v0_) ∧ Kd.R k24 24 w' w0.heap.size (fun k_ => (P0_ k_ ∨ w.heap.size ≤ k_)) v0_ r ∧ Below w0.heap.size w0 w' ∧ Kept w w' (fun k_ => P0_ k_) := by
  unfold slices_Delete_implOut.f at h
  by_cases c1 : 0 ≤ a1
  · rw [if_pos c1] at h
    by_cases c2 : a1 < a2
    · rw [if_pos c2] at h
      by_cases c3 : a2 ≤ (l0.length : Int)
      · rw [if_pos c3] at h
        obtain rfl := Option.some.inj h; obtain ⟨i, rfl⟩ : ∃ i : Nat, a1 = i := ⟨a1.toNat, by omega⟩; obtain ⟨j, rfl⟩ : ∃ j : Nat, a2 = j := ⟨a2.toNat, by omega⟩; rw [Int.toNat_natCast, Int.toNat_natCast]
        exact slices_Delete_implOut_at P0_ u9000_ l0 i j w0 w hB ho0 (by omega) (by omega)
      · rw [if_neg c3] at h; cases h
    · rw [if_neg c2] at h; cases h
  · rw [if_neg c1] at h; cases h
end Go.Proofs.Ytefmkmhjbfpelaa.QR
