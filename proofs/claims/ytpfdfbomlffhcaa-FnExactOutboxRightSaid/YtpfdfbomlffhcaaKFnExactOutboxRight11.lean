-- Merged by a program of this session (wip/tool/pack.py) out of its own texts for this claim.
import Derived.Test.YtpfdfbomlffhcaaKFnExactOutboxRight0
import Derived.Test.YtpfdfbomlffhcaaKFnExactOutboxRight2
import Derived.Test.YtpfdfbomlffhcaaKFnExactOutboxRight10
namespace Go.Proofs.Ytpfdfbomlffhcaa.QA
open Go.RowKit Go.Proofs.YtpfdfbomlffhcaaW.PrintWords Go.Proofs.Ytpfdfbomlffhcaa.Ev0
theorem within_ev (a b c : Int) : impl_within.f a b c = some (B (b ≤ a ∧ a ≤ c)) := by
  unfold impl_within.f
  by_cases h : b ≤ a
  · rw [if_pos h, decide_B]
    exact congrArg some (B_congr ⟨fun x => ⟨h, x⟩, fun x => x.2⟩)
  · rw [if_neg h, B_false (fun x => h x.1)]
theorem isGreat_ev (c : Int) : impl_isGreat.f c = some (B (65 ≤ c ∧ c ≤ 90)) := by
  unfold impl_isGreat.f
  by_cases h : c ≥ 65
  · rw [if_pos h, decide_B]
    exact congrArg some (B_congr ⟨fun x => ⟨h, x⟩, fun x => x.2⟩)
  · rw [if_neg h, B_false (fun x => h x.1)]
theorem isDigit_ev (c : Int) : impl_isDigit.f c = some (B (48 ≤ c ∧ c ≤ 57)) := by
  unfold impl_isDigit.f
  by_cases h : c ≥ 48
  · rw [if_pos h, decide_B]
    exact congrArg some (B_congr ⟨fun x => ⟨h, x⟩, fun x => x.2⟩)
  · rw [if_neg h, B_false (fun x => h x.1)]
def okc (c : Int) : Prop := (65 ≤ c ∧ c ≤ 90) ∨ (48 ≤ c ∧ c ≤ 57) ∨ c = 45
def NameP (s : ByteArray) : Prop := 1 ≤ (s.size : Int) ∧ (s.size : Int) ≤ 12 ∧ (65 ≤ bt s 0 ∧ bt s 0 ≤ 90) ∧ ∀ j : Int, 0 ≤ j → j < s.size → okc (bt s j)
noncomputable def nameB (s : ByteArray) : Bool := B (NameP s)
theorem specName_l (s : ByteArray) (hs : (s.size : Int) ≤ 9223372036854775807) (d : Nat) : ∀ i : Int, 0 ≤ i → (s.size : Int) - i ≤ d → Evt (fun k => spec_l01Name.l0 k s i) (B (∀ j : Int, i ≤ j → j < s.size → okc (bt s j))) := by
  induction d with
  | zero =>
    intro i h0 hd
    apply Evt.succ
    simp only [spec_l01Name.l0]
    refine Evt.neg (by omega) ((Evt.pure true).same (B_true ?_).symm)
    intro j h1 h2
    omega
  | succ d ih =>
    intro i h0 hd
    apply Evt.succ
    simp only [spec_l01Name.l0]
    by_cases hlt : i < (s.size : Int)
    · refine Evt.pos hlt (Evt.pos h0 ?_)
      have hw : wrap64 (i + 1) = i + 1 := w64 (by omega) (by omega)
      rw [hw]
      have yes : okc (bt s i) → Evt (fun k => spec_l01Name.l0 k s (i + 1)) (B (∀ j : Int, i ≤ j → j < s.size → okc (bt s j))) := fun hc =>
        (ih (i + 1) (by omega) (by omega)).same (B_congr ⟨fun h j h1 h2 => by
          by_cases e : j = i
          · rw [e]; exact hc
          · exact h j (by omega) h2, fun h j h1 h2 => h j (by omega) h2⟩)
      have no : ¬ okc (bt s i) → Evt (fun _ => some false) (B (∀ j : Int, i ≤ j → j < s.size → okc (bt s j))) := fun hc =>
        (Evt.pure false).same (B_false (fun h => hc (h i (Int.le_refl _) hlt))).symm
      have digit : Evt (fun k => if bt s i ≥ 48 then (if bt s i ≤ 57 then spec_l01Name.l0 k s (i + 1) else (if bt s i = 45 then spec_l01Name.l0 k s (i + 1) else some false)) else (if bt s i = 45 then spec_l01Name.l0 k s (i + 1) else some false)) (B (∀ j : Int, i ≤ j → j < s.size → okc (bt s j))) ∨ (65 ≤ bt s i ∧ bt s i ≤ 90) := by
        by_cases hg : 65 ≤ bt s i ∧ bt s i ≤ 90
        · exact .inr hg
        · refine .inl (Evt.ite (fun h1 => Evt.ite (fun h2 => yes (.inr (.inl ⟨h1, h2⟩))) (fun h2 => Evt.ite (fun h3 => yes (.inr (.inr h3))) (fun h3 => no (fun hk => ?_)))) (fun h1 => Evt.ite (fun h3 => yes (.inr (.inr h3))) (fun h3 => no (fun hk => ?_))))
          · rcases hk with hk | hk | hk
            · exact hg hk
            · omega
            · exact h3 hk
          · rcases hk with hk | hk | hk
            · exact hg hk
            · omega
            · exact h3 hk
      refine Evt.ite (fun h1 => Evt.ite (fun h2 => yes (.inl ⟨h1, h2⟩)) (fun h2 => ?_)) (fun h1 => ?_)
      · exact digit.resolve_right (fun h => h2 h.2)
      · exact digit.resolve_right (fun h => h1 h.1)
    · refine Evt.neg hlt ((Evt.pure true).same (B_true ?_).symm)
      intro j h1 h2
      omega
theorem specName_ev (s : ByteArray) (hs : (s.size : Int) ≤ 9223372036854775807) : Evt (fun k => spec_l01Name.f k s) (nameB s) := by
  unfold spec_l01Name.f
  have bad : ¬ NameP s → Evt (fun k => spec_l01Name.j0 k s true) (nameB s) := fun h => by
    apply Evt.succ
    simp only [spec_l01Name.j0]
    exact (Evt.pure false).same (B_false h).symm
  refine Evt.ite (fun h => bad (fun hn => by have := hn.1; omega)) (fun h1 => Evt.ite (fun h => bad (fun hn => by have := hn.2.1; omega)) (fun h2 => Evt.pos (by omega) (Evt.ite (fun h => bad (fun hn => by have := hn.2.2.1.1; omega)) (fun h3 => ?_))))
  by_cases h4 : bt s 0 > 90
  · rw [decide_eq_true h4]
    exact bad (fun hn => by have := hn.2.2.1.2; omega)
  · rw [decide_eq_false h4]
    apply Evt.succ
    simp only [spec_l01Name.j0]
    refine (specName_l s hs s.size 0 (Int.le_refl _) (by omega)).same (B_congr ⟨fun h => ⟨by omega, by omega, ⟨by omega, by omega⟩, h⟩, fun h => h.2.2.2⟩)
theorem implName_l (s : ByteArray) (hs : (s.size : Int) ≤ 9223372036854775807) (d : Nat) : ∀ i : Int, 0 ≤ i → (s.size : Int) - i ≤ d →
    Evt (fun k => impl_isName.l0 k s (s.size : Int) i) (B ((∀ j : Int, i ≤ j → j < s.size → (65 ≤ bt s j ∧ bt s j ≤ 90) ∨ (j ≠ 0 ∧ okc (bt s j))) ∧ 1 ≤ (s.size : Int) ∧ (s.size : Int) ≤ 12)) := by
  induction d with
  | zero =>
    intro i h0 hd
    apply Evt.succ
    simp only [impl_isName.l0]
    refine Evt.neg (by omega) (Evt.const ?_)
    rw [within_ev]
    exact congrArg some (B_congr ⟨fun h => ⟨fun j h1 h2 => by omega, h⟩, fun h => h.2⟩)
  | succ d ih =>
    intro i h0 hd
    apply Evt.succ
    simp only [impl_isName.l0]
    by_cases hlt : i < (s.size : Int)
    · refine Evt.pos hlt (Evt.pos h0 (Evt.pos hlt ?_))
      have hw : wrap64 (i + 1) = i + 1 := w64 (by omega) (by omega)
      rw [hw, isGreat_ev, isDigit_ev]
      have yes : ((65 ≤ bt s i ∧ bt s i ≤ 90) ∨ (i ≠ 0 ∧ okc (bt s i))) → Evt (fun k => impl_isName.l0 k s (s.size : Int) (i + 1)) (B ((∀ j : Int, i ≤ j → j < s.size → (65 ≤ bt s j ∧ bt s j ≤ 90) ∨ (j ≠ 0 ∧ okc (bt s j))) ∧ 1 ≤ (s.size : Int) ∧ (s.size : Int) ≤ 12)) := fun hc =>
        (ih (i + 1) (by omega) (by omega)).same (B_congr ⟨fun h => ⟨fun j h1 h2 => by
          by_cases e : j = i
          · rw [e]; exact hc
          · exact h.1 j (by omega) h2, h.2⟩, fun h => ⟨fun j h1 h2 => h.1 j (by omega) h2, h.2⟩⟩)
      have no : ¬ ((65 ≤ bt s i ∧ bt s i ≤ 90) ∨ (i ≠ 0 ∧ okc (bt s i))) → Evt (fun _ => some false) (B ((∀ j : Int, i ≤ j → j < s.size → (65 ≤ bt s j ∧ bt s j ≤ 90) ∨ (j ≠ 0 ∧ okc (bt s j))) ∧ 1 ≤ (s.size : Int) ∧ (s.size : Int) ≤ 12)) := fun hc =>
        (Evt.pure false).same (B_false (fun h => hc (h.1 i (Int.le_refl _) hlt))).symm
      simp only [Option.bind_some]
      refine Evt.ite (fun h1 => yes (.inl (B_iff.1 h1))) (fun h1 => ?_)
      have g1 : ¬ (65 ≤ bt s i ∧ bt s i ≤ 90) := fun h => h1 (B_iff.2 h)
      refine Evt.ite (fun h2 => no (fun h => h.elim g1 (fun h => h.1 h2))) (fun h2 => Evt.ite (fun h3 => yes (.inr ⟨h2, .inr (.inl (B_iff.1 h3))⟩)) (fun h3 => Evt.ite (fun h4 => yes (.inr ⟨h2, .inr (.inr h4)⟩)) (fun h4 => no (fun h => ?_))))
      rcases h with h | ⟨_, h | h | h⟩
      · exact g1 h
      · exact g1 h
      · exact h3 (B_iff.2 h)
      · exact h4 h
    · refine Evt.neg hlt (Evt.const ?_)
      rw [within_ev]
      exact congrArg some (B_congr ⟨fun h => ⟨fun j h1 h2 => by omega, h⟩, fun h => h.2⟩)
theorem implName_ev (s : ByteArray) (hs : (s.size : Int) ≤ 9223372036854775807) : Evt (fun k => impl_isName.f k s) (nameB s) := by
  unfold impl_isName.f
  refine (implName_l s hs s.size 0 (Int.le_refl _) (by omega)).same (B_congr ⟨fun h => ⟨h.2.1, h.2.2, ?_, ?_⟩, fun h => ⟨?_, h.1, h.2.1⟩⟩)
  · rcases h.1 0 (Int.le_refl _) (by omega) with h | h
    · exact h
    · exact absurd rfl h.1
  · intro j h1 h2
    rcases h.1 j h1 h2 with h | h
    · exact .inl h
    · exact h.2
  · intro j h1 h2
    by_cases e : j = 0
    · rw [e]; exact .inl h.2.2.1
    · exact .inr ⟨e, h.2.2.2 j h1 h2⟩
end Go.Proofs.Ytpfdfbomlffhcaa.QA
namespace Go.Proofs.Ytpfdfbomlffhcaa.QA
open Go.RowKit Go.Proofs.YtpfdfbomlffhcaaW.PrintWords Go.Proofs.Ytpfdfbomlffhcaa.Ev0
theorem longText_ev (l : List ByteArray) (hl : l.length ≤ 1000) : Evt (fun k => impl_longText.f k l) (B (∃ x ∈ l, (x.size : Int) > 20000)) := by
  unfold impl_longText.f slices_ContainsFunc_string_string_impl_longText_1.f slices_IndexFunc_string_string_impl_longText_1.f
  obtain ⟨r, hr, h⟩ := find_loop (l.length : Int) (by omega) (fun i => ((rdOf ByteArray.empty l i).size : Int) > 20000) (fun k i => slices_IndexFunc_string_string_impl_longText_1.l0 k l (l.length : Int) i) (by
      intro i h0 hlt
      have hw : wrap64 (i + 1) = i + 1 := w64 (by omega) (by omega)
      simp only [slices_IndexFunc_string_string_impl_longText_1.l0, impl_longText_1.f, Option.bind_some, hw]
      exact ⟨fun hp => Evt.pos hlt (Evt.pos h0 (Evt.pos hlt (Evt.pos (decide_eq_true hp) (Evt.pure _)))), fun hp r hr => Evt.pos hlt (Evt.pos h0 (Evt.pos hlt (Evt.neg (by simpa using hp) hr)))⟩) (by
      simp only [slices_IndexFunc_string_string_impl_longText_1.l0]
      exact Evt.neg (by omega) (Evt.pure _))
  have at_ : ∀ i : Int, 0 ≤ i → i < (l.length : Int) → rdOf ByteArray.empty l i ∈ l := fun i h0 h1 => by
    unfold rdOf
    rw [getD_at l _ _ (by omega)]
    exact List.getElem_mem _
  refine Evt.bind (Evt.bind hr (Evt.pure _)) ((Evt.pure _).same ?_)
  rw [decide_B]
  refine B_congr ⟨fun hg => ?_, fun ⟨x, hx, hg⟩ => ?_⟩
  · rcases h with ⟨h1, _⟩ | ⟨h1, h2, h3, _⟩
    · omega
    · exact ⟨_, at_ r h1 h2, h3⟩
  · rcases h with ⟨h1, h2⟩ | ⟨h1, _⟩
    · obtain ⟨i, hi, rfl⟩ := List.mem_iff_getElem.1 hx
      refine absurd ?_ (h2 i (by omega) (by omega))
      show ((rdOf ByteArray.empty l (i : Int)).size : Int) > 20000
      unfold rdOf
      rw [Int.toNat_natCast, getD_at l _ _ hi]
      exact hg
    · exact h1
theorem longText1_ev (s : ByteArray) : Evt (fun k => impl_longText.f k [s]) (B ((s.size : Int) > 20000)) :=
  (longText_ev [s] (by simp)).same (B_congr ⟨fun ⟨x, hx, h⟩ => by rw [List.mem_singleton.1 hx] at h; exact h, fun h => ⟨s, by simp, h⟩⟩)
end Go.Proofs.Ytpfdfbomlffhcaa.QA
namespace Go.Proofs.Ytpfdfbomlffhcaa.QA
open Go.RowKit Go.Proofs.Ytpfdfbomlffhcaa Go.Proofs.YtpfdfbomlffhcaaW.PrintWords Go.Proofs.Ytpfdfbomlffhcaa.Ev0
def OutP (p : ByteArray) (n : Int) (t : ByteArray) (tr due : Int) : Prop := NameP p ∧ (1 ≤ n ∧ n ≤ 999999) ∧ 1 ≤ (t.size : Int) ∧ (t.size : Int) ≤ 20000 ∧ (0 ≤ tr ∧ tr ≤ 5) ∧ (0 ≤ due ∧ due ≤ 100000)
noncomputable def outB (p : ByteArray) (n : Int) (t : ByteArray) (tr due : Int) : Bool := B (OutP p n t tr due)
theorem l01Control_ev (n : Int) : spec_l01Control.f n = some (B (1 ≤ n ∧ n ≤ 999999)) := by
  unfold spec_l01Control.f
  by_cases h : n ≥ 1
  · rw [if_pos h, decide_B]
    exact congrArg some (B_congr ⟨fun x => ⟨h, x⟩, fun x => x.2⟩)
  · rw [if_neg h, B_false (fun x => h x.1)]
theorem l01Day_ev (n : Int) : spec_l01Day.f n = some (B (0 ≤ n ∧ n ≤ 100000)) := by
  unfold spec_l01Day.f
  by_cases h : n ≥ 0
  · rw [if_pos h, decide_B]
    exact congrArg some (B_congr ⟨fun x => ⟨h, x⟩, fun x => x.2⟩)
  · rw [if_neg h, B_false (fun x => h x.1)]
theorem isControl_ev (n : Int) : impl_isControl.f n = some (B (1 ≤ n ∧ n ≤ 999999)) := by
  unfold impl_isControl.f
  rw [within_ev]
  rfl
theorem isDay_ev (n : Int) : impl_isDay.f n = some (B (0 ≤ n ∧ n ≤ 100000)) := by
  unfold impl_isDay.f
  rw [within_ev]
  rfl
theorem specOut_ev (p : ByteArray) (n : Int) (t : ByteArray) (tr due : Int) (hp : (p.size : Int) ≤ 9223372036854775807) : Evt (fun k => spec_l12Out.f k p n t tr due) (outB p n t tr due) := by
  have key : Evt (fun k => spec_l12Out.f k p n t tr due) (B (NameP p ∧ (1 ≤ n ∧ n ≤ 999999) ∧ 1 ≤ (t.size : Int) ∧ (t.size : Int) ≤ 20000 ∧ 0 ≤ tr ∧ tr ≤ 5 ∧ (0 ≤ due ∧ due ≤ 100000))) := by
    unfold spec_l12Out.f
    simp only [l01Control_ev, l01Day_ev, Option.bind_some]
    exact Evt.bind (specName_ev p hp) (and_ B_iff fun _ => and_ B_iff fun _ => and_ Iff.rfl fun _ => and_ Iff.rfl fun _ => and_ Iff.rfl fun _ => and_ Iff.rfl fun _ => lastB_ Iff.rfl)
  refine key.same (B_congr ⟨?_, ?_⟩)
  · rintro ⟨h1, h2, h3, h4, h5, h6, h7⟩
    exact ⟨h1, h2, h3, h4, ⟨h5, h6⟩, h7⟩
  · rintro ⟨h1, h2, h3, h4, ⟨h5, h6⟩, h7⟩
    exact ⟨h1, h2, h3, h4, h5, h6, h7⟩
theorem isOut_ev (p : ByteArray) (n : Int) (t : ByteArray) (tr due : Int) (hp : (p.size : Int) ≤ 9223372036854775807) : Evt (fun k => impl_isOut.f k p n t tr due) (outB p n t tr due) := by
  unfold impl_isOut.f outB OutP
  simp only [isControl_ev, isDay_ev, within_ev, Option.bind_some]
  refine Evt.bind (implName_ev p hp) (and_ B_iff fun _ => and_ B_iff fun _ => fail_ (p := 1 ≤ (t.size : Int)) (by rw [bytes_nil]; omega) fun _ => Evt.bind (longText1_ev t) (fail_ (p := (t.size : Int) ≤ 20000) ?_ fun _ => and_ B_iff fun _ => lastB_ Iff.rfl))
  rw [B_iff]
  omega
def obefore (p : ByteArray) (n : Int) (p' : ByteArray) (n' : Int) : Prop := less p p' ∨ (p.toList = p'.toList ∧ n < n')
theorem l12Before_ev (p : ByteArray) (n : Int) (t : ByteArray) (tr due : Int) (p' : ByteArray) (n' : Int) (t' : ByteArray) (tr' due' : Int) : spec_l12Before.f p n t tr due p' n' t' tr' due' = some (B (obefore p n p' n')) := by
  unfold spec_l12Before.f obefore
  rcases cmpS_cases p p' with ⟨h1, h2, h3, _⟩ | ⟨h1, h2, h3, _⟩ | ⟨h1, h2, h3, _⟩
  · rw [if_pos (show Op.bytesLess p.toList p'.toList = true from h1), B_true (.inl h1)]
  · rw [if_neg (show ¬ Op.bytesLess p.toList p'.toList = true from h1), if_neg h3, B_false (fun h => h.elim h1 (fun h => h3 h.1))]
  · rw [if_neg (show ¬ Op.bytesLess p.toList p'.toList = true from h1), if_pos h3, decide_B]
    exact congrArg some (B_congr ⟨fun h => .inr ⟨h3, h⟩, fun h => h.elim (fun h => absurd h h1) (fun h => h.2)⟩)
noncomputable def ocmp (p : ByteArray) (n : Int) (p' : ByteArray) (n' : Int) : Int := orL [cmpS p p', cmpI n n']
theorem outOrder_ev (p : ByteArray) (n : Int) (t : ByteArray) (tr due : Int) (p' : ByteArray) (n' : Int) (t' : ByteArray) (tr' due' : Int) : Evt (fun k => impl_outOrder.f k p n t tr due p' n' t' tr' due') (ocmp p n p' n') := by
  unfold impl_outOrder.f
  simp only [cmpS_ev, cmpI_ev, Option.bind_some]
  exact Evt.bind (or_ev _ (by simp)) (Evt.pure _)
theorem ocmp_iff (p : ByteArray) (n : Int) (p' : ByteArray) (n' : Int) : ocmp p n p' n' ≥ 0 ↔ ¬ obefore p n p' n' := by
  unfold ocmp obefore
  rcases cmpS_cases p p' with ⟨h1, h2, h3, h4⟩ | ⟨h1, h2, h3, h4⟩ | ⟨h1, h2, h3, h4⟩
  · simp [orL, h4, h1]
  · simp [orL, h4, h1, h3]
  · rcases cmpI_cases n n' with ⟨e1, e2⟩ | ⟨e1, e2⟩ | ⟨e1, e2⟩
    · simp [orL, h4, h1, h3, e1, e2]
    · simp [orL, h4, h1, h3, e2]; omega
    · subst e1
      simp [orL, h4, h1, h3, e2]
def okO (x : S68) : Prop := (x.f0.size : Int) ≤ 9223372036854775807
def outAt (l : List S68) (i : Int) : Prop :=
  outB (rd_T68 l i).f0 (rd_T68 l i).f1 (rd_T68 l i).f2 (rd_T68 l i).f3 (rd_T68 l i).f4 = true ∧
    (0 < i → obefore (rd_T68 l (i - 1)).f0 (rd_T68 l (i - 1)).f1 (rd_T68 l i).f0 (rd_T68 l i).f1)
def OutboxP (l : List S68) : Prop := (l.length : Int) ≤ 60 ∧ ∀ i, 0 ≤ i → i < (l.length : Int) → outAt l i
noncomputable def outboxB (l : List S68) : Bool := B (OutboxP l)
theorem okO_at {l : List S68} (h : ∀ x ∈ l, okO x) (i : Int) (h1 : i < (l.length : Int)) (h0 : 0 ≤ i) : okO (rd_T68 l i) := by
  unfold rd_T68
  rw [getD_at l _ _ (by omega)]
  exact h _ (List.getElem_mem _)
theorem specOutbox_ev (l : List S68) (hs : ∀ x ∈ l, okO x) : Evt (fun k => spec_OutboxRight.f k l) (outboxB l) := by
  unfold spec_OutboxRight.f
  by_cases hn : (l.length : Int) > 60
  · exact Evt.pos hn ((Evt.pure false).same (B_false (fun h => by have := h.1; omega)).symm)
  · refine Evt.neg hn ?_
    refine (right_loop (l.length : Int) (by omega) (outAt l) True (fun k i => spec_OutboxRight.l0 k l i) ?_ ?_).same (B_congr ⟨fun h => ⟨by omega, h.1⟩, fun h => ⟨h.2, trivial⟩⟩)
    · intro i h0 hlt
      have hk := okO_at hs i hlt h0
      have hw : wrap64 (i + 1) = i + 1 := w64 (by omega) (by omega)
      have hw1 : wrap64 (i - 1) = i - 1 := w64 (by omega) (by omega)
      simp only [spec_OutboxRight.l0, hw, hw1, l12Before_ev, Option.bind_some]
      refine ⟨fun ok r hr => ?_, fun nok => ?_⟩
      · refine Evt.pos hlt (Evt.pos h0 (Evt.bind (specOut_ev _ _ _ _ _ hk) (Evt.pos ok.1 (Evt.ite (fun hp => Evt.pos (by omega) (Evt.pos (by omega) (Evt.pos (B_true (ok.2 hp)) hr))) (fun _ => hr)))))
      · refine Evt.pos hlt (Evt.pos h0 (Evt.bind (specOut_ev _ _ _ _ _ hk) (Evt.ite (fun hl => Evt.ite (fun hp => Evt.pos (by omega) (Evt.pos (by omega) (Evt.neg (fun hb => nok ⟨hl, fun _ => B_iff.1 hb⟩) (Evt.pure _)))) (fun hp => absurd ⟨hl, fun h => absurd h hp⟩ nok)) (fun _ => Evt.pure _))))
    · simp only [spec_OutboxRight.l0]
      exact Evt.neg (by omega) ((Evt.pure true).same (B_true trivial).symm)
theorem implOutbox_ev (l : List S68) (hs : ∀ x ∈ l, okO x) : Evt (fun k => impl_OutboxRight.f k l) (outboxB l) := by
  unfold impl_OutboxRight.f
  by_cases hn : (l.length : Int) > 60
  · exact Evt.pos hn ((Evt.pure false).same (B_false (fun h => by have := h.1; omega)).symm)
  · refine Evt.neg hn ?_
    refine (right_loop (l.length : Int) (by omega) (outAt l) True (fun k i => impl_OutboxRight.l0 k l l (l.length : Int) i) ?_ ?_).same (B_congr ⟨fun h => ⟨by omega, h.1⟩, fun h => ⟨h.2, trivial⟩⟩)
    · intro i h0 hlt
      have hk := okO_at hs i hlt h0
      have hw : wrap64 (i + 1) = i + 1 := w64 (by omega) (by omega)
      have hw1 : wrap64 (i - 1) = i - 1 := w64 (by omega) (by omega)
      simp only [impl_OutboxRight.l0, hw, hw1]
      refine ⟨fun ok r hr => ?_, fun nok => ?_⟩
      · refine Evt.pos hlt (Evt.pos h0 (Evt.pos hlt (Evt.bind (isOut_ev _ _ _ _ _ hk) (Evt.pos ok.1 (Evt.ite (fun hp => Evt.pos (by omega) (Evt.pos (by omega) (Evt.bind (outOrder_ev _ _ _ _ _ _ _ _ _ _) (Evt.neg (fun h => (ocmp_iff _ _ _ _).1 h (ok.2 hp)) hr)))) (fun _ => hr))))))
      · refine Evt.pos hlt (Evt.pos h0 (Evt.pos hlt (Evt.bind (isOut_ev _ _ _ _ _ hk) (Evt.ite (fun hl => Evt.ite (fun hp => Evt.pos (by omega) (Evt.pos (by omega) (Evt.bind (outOrder_ev _ _ _ _ _ _ _ _ _ _) (Evt.pos ((ocmp_iff _ _ _ _).2 (fun hb => nok ⟨hl, fun _ => hb⟩)) (Evt.pure _))))) (fun hp => absurd ⟨hl, fun h => absurd h hp⟩ nok)) (fun _ => Evt.pure _)))))
    · simp only [impl_OutboxRight.l0]
      exact Evt.neg (by omega) ((Evt.pure true).same (B_true trivial).symm)
theorem szOut_ev (p : ByteArray) (n : Int) (t : ByteArray) (tr due x : Int) (h0 : 0 ≤ x) (h1 : x ≤ 1048576) (hp : (p.size : Int) ≤ 9223372036854775807) (ht : (t.size : Int) ≤ 9223372036854775807) :
    ∃ r, laws_szOut.f p n t tr due x = some r ∧ (r < 0 ∨ (0 ≤ r ∧ r ≤ x ∧ True)) := by
  unfold laws_szOut.f
  refine sz_step h0 h1 (by omega) hp (fun g1 => ?_)
  rw [wsub h0 h1 (by omega) hp]
  refine sz_step g1 (by omega) (by omega) ht (fun g2 => ?_)
  rw [wsub g1 (by omega) (by omega) ht]
  exact ⟨_, rfl, .inr ⟨g2, Int.le_refl _, trivial⟩⟩
def okLO (x : S64) : Prop := (x.f0.size : Int) ≤ 9223372036854775807 ∧ (x.f2.size : Int) ≤ 9223372036854775807
theorem okLO_of {x : S64} (h : wf64 x) : okLO x := by
  obtain ⟨h0, _, h2, _⟩ := h
  have g0 : x.f0.size ≤ 2 ^ 63 - 1 := h0
  have g2 : x.f2.size ≤ 2 ^ 63 - 1 := h2
  exact ⟨by omega, by omega⟩
theorem szOutS_ev (l : List S64) (hl : l.length ≤ 9223372036854775807) (hx : ∀ x ∈ l, okLO x) (left : Int) (h0 : 0 ≤ left) (h1 : left ≤ 1048576) : SzR (fun k => laws_szOutS.f k l left) left (l.length ≤ 1048576 ∧ ∀ i : Int, 0 ≤ i → i < (l.length : Int) → True) := by
  refine sz_loop l.length hl (fun _ => True) _ (fun k s i => laws_szOutS.l0 k l s i) left h0 h1 (fun k => rfl) ?_ ?_
  · intro s i h0 hlt hs0 hs1
    have hw : wrap64 (i + 1) = i + 1 := w64 (by omega) (by omega)
    have hk : okLO (rd_T64 l i) := by
      unfold rd_T64
      rw [getD_at l _ _ (by omega)]
      exact hx _ (List.getElem_mem _)
    obtain ⟨t, ht, h2⟩ := szOut_ev (rd_T64 l i).f0 (rd_T64 l i).f1 (rd_T64 l i).f2 (rd_T64 l i).f3 (rd_T64 l i).f4 s hs0 hs1 hk.1 hk.2
    simp only [laws_szOutS.l0, ht, Option.bind_some, hw]
    rcases h2 with h2 | ⟨h2, h3, _⟩
    · exact .inl ⟨-1, by decide, Evt.pos hlt (Evt.pos h0 (Evt.pos h2 (Evt.pure _)))⟩
    · exact .inr ⟨t, h2, h3, trivial, fun r hr => Evt.pos hlt (Evt.pos h0 (Evt.neg (by omega) hr))⟩
  · intro s i hi
    simp only [laws_szOutS.l0]
    exact Evt.neg (by omega) (Evt.pure _)
def cvOut (x : S64) : S68 := ⟨x.f0, x.f1, x.f2, x.f3, x.f4⟩
theorem toOutS_ev (l : List S64) (hl : l.length ≤ 1048576) : Evt (fun k => laws_toOutS.f k l) (l.map cvOut) := by
  unfold laws_toOutS.f
  refine Evt.pos (by omega) (Evt.pos (by omega) ?_)
  rw [Int.toNat_natCast]
  refine fill_loop l z64 z68 cvOut (fun k acc i => laws_toOutS.l0 k l acc i) ?_ ?_
  · intro acc i h0 hlt ha r hr
    have hw : wrap64 (i + 1) = i + 1 := w64 (by omega) (by omega)
    simp only [laws_toOutS.l0, laws_toOut.f, Option.bind_some, hw]
    exact Evt.pos hlt (Evt.pos h0 (Evt.pos (by omega) hr))
  · intro acc i hi
    simp only [laws_toOutS.l0]
    exact Evt.neg (by omega) (Evt.pure _)
theorem eqOut_refl (p : ByteArray) (n : Int) (t : ByteArray) (tr due : Int) : laws_eqOut.f p n t tr due p n t tr due = some true := by
  simp only [laws_eqOut.f, if_true]
theorem eqOutS_refl (l : List S68) (hl : l.length ≤ 9000000) : Evt (fun k => laws_eqOutS.f k l l) true := by
  unfold laws_eqOutS.f
  refine Evt.pos rfl (all_loop (l.length : Int) (by omega) (fun k i => laws_eqOutS.l0 k l l i) ?_ ?_)
  · intro i h0 hlt ih
    have hw : wrap64 (i + 1) = i + 1 := w64 (by omega) (by omega)
    simp only [laws_eqOutS.l0, eqOut_refl, Option.bind_some, hw]
    exact Evt.pos hlt (Evt.pos h0 (Evt.pos hlt (Evt.pos (by simp) ih)))
  · simp only [laws_eqOutS.l0]
    exact Evt.neg (by omega) (Evt.pure _)
theorem okO_map (l : List S64) (h : ∀ x ∈ l, okLO x) : ∀ x ∈ l.map cvOut, okO x := by
  intro x hx
  obtain ⟨y, hy, rfl⟩ := List.mem_map.1 hx
  exact (h y hy).1
end Go.Proofs.Ytpfdfbomlffhcaa.QA
namespace Go.Proofs.Ytpfdfbomlffhcaa.Pure
open Go.RowKit Go.Proofs.Ytpfdfbomlffhcaa Go.Proofs.Ytpfdfbomlffhcaa.QA Go.Proofs.YtpfdfbomlffhcaaW.PrintWords Go.Proofs.Ytpfdfbomlffhcaa.Ev0
theorem FnExactOutboxRight : laws_FnExactOutboxRight.Pure := by
  intro l wl
  obtain ⟨hl, hw⟩ := wl
  apply Evt.ex
  unfold laws_FnExactOutboxRight.f
  have hx : ∀ x ∈ l, okLO x := fun x h => okLO_of (hw x h)
  obtain ⟨t, ht, hlen⟩ := szOutS_ev l hl hx 1048576 (by decide) (by decide)
  refine Evt.bind ht (Evt.ite (fun _ => Evt.pure true) (fun hn => ?_))
  obtain ⟨_, _, hlen, _⟩ := hlen.resolve_left hn
  have hto := toOutS_ev l hlen
  have hs := okO_map l hx
  have hle : (l.map cvOut).length ≤ 9000000 := by simp; omega
  refine Evt.bind hto (Evt.bind (specOutbox_ev _ hs) (Evt.bind hto (Evt.bind (implOutbox_ev _ hs) ?_)))
  refine Evt.neg (by simp) (Evt.bind hto (Evt.bind (eqOutS_refl _ hle) (Evt.pos rfl (Evt.pure true))))
end Go.Proofs.Ytpfdfbomlffhcaa.Pure
