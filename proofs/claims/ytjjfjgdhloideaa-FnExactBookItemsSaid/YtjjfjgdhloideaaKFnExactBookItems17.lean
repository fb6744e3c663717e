-- Merged by a program of this session (wip/tool/pack.py) out of its own texts for this claim.
import Derived.Sort.Walk0
import Derived.Lib.SlicesCompact
import Derived.Test.YtjjfjgdhloideaaKFnExactBookItems0
import Derived.Test.YtjjfjgdhloideaaKFnExactBookItems1
import Derived.Test.YtjjfjgdhloideaaKFnExactBookItems2
import Derived.Test.YtjjfjgdhloideaaKFnExactBookItems16
namespace Go.Proofs.Ytjjfjgdhloideaa.QH
open Go.RowKit Go.Proofs.Ytjjfjgdhloideaa Go.Proofs.YtjjfjgdhloideaaW.PrintWords Go.Proofs.Ytjjfjgdhloideaa.Ev0
def tB (x : ByteArray) : List UInt8 := x.data.toList
def uB (l : List UInt8) : ByteArray := ⟨l.toArray⟩
theorem tB_uB (l : List UInt8) : tB (uB l) = l := by simp [tB, uB]
theorem tB_inj {x y : ByteArray} (h : tB x = tB y) : x = y := by
  cases x with | mk a => cases y with | mk b => cases a; cases b; simp [tB] at h; rw [h]
theorem less_iff (a b : ByteArray) : less a b ↔ tB a < tB b := by
  unfold less tB
  rw [Go.Proofs.bytesLess_eq, decide_eq_true_iff, Lib.toList_data, Lib.toList_data]
theorem less_irr (a : ByteArray) : ¬ less a a := by rw [less_iff]; exact List.lt_irrefl _
theorem less_tr {a b c : ByteArray} (h : less a b) (g : less b c) : less a c := by rw [less_iff] at *; exact List.lt_trans h g
theorem lt_of_le_ne {a b : List UInt8} (h : a ≤ b) (g : a ≠ b) : a < b := by
  by_cases e : a < b
  · exact e
  · exact absurd (List.le_antisymm h (List.not_lt.1 e)) g
theorem comp_step (d : List (List UInt8)) (hs : d.Pairwise (· ≤ ·)) (m : Nat) : m ≤ d.length →
    (Lib.compactUpTo d.toArray m).Pairwise (· < ·) ∧ (∀ x, x ∈ Lib.compactUpTo d.toArray m ↔ x ∈ d.take m) ∧ ∀ x ∈ Lib.compactUpTo d.toArray m, ∀ j, m = j + 1 → ∀ h : j < d.length, x ≤ d[j] := by
  induction m with
  | zero => intro _; exact ⟨by simp [Lib.compactUpTo], by simp [Lib.compactUpTo], by simp [Lib.compactUpTo]⟩
  | succ m ih =>
    intro hm
    obtain ⟨h1, h2, h3⟩ := ih (by omega)
    have hlt : m < d.length := by omega
    have e0 : d.toArray[m]! = d[m] := by simp [hlt]
    rw [Lib.compactUpTo_succ, e0, List.take_succ_eq_append_getElem hlt]
    have hle : ∀ x ∈ Lib.compactUpTo d.toArray m, x ≤ d[m] := fun x hx => by
      rcases Nat.eq_zero_or_pos m with hz | hp
      · subst hz
        have := (h2 x).1 hx
        simp at this
      · obtain ⟨j, rfl⟩ : ∃ j, m = j + 1 := ⟨m - 1, by omega⟩
        exact List.le_trans (h3 x hx j rfl (by omega)) ((List.pairwise_iff_getElem.1 hs) j (j + 1) (by omega) hlt (by omega))
    by_cases hk : Lib.keeps d.toArray m = true
    · rw [if_pos hk]
      refine ⟨List.pairwise_append.2 ⟨h1, by simp, fun x hx y hy => ?_⟩, fun x => by rw [List.mem_append, List.mem_append, h2 x], fun x hx j hj h => ?_⟩
      · obtain rfl := List.mem_singleton.1 hy
        refine lt_of_le_ne (hle x hx) (fun he => ?_)
        rcases Nat.eq_zero_or_pos m with hz | hp
        · subst hz
          have := (h2 x).1 hx
          simp at this
        · obtain ⟨j, rfl⟩ : ∃ j, m = j + 1 := ⟨m - 1, by omega⟩
          have hj : j < d.length := by omega
          have e1 : d.toArray[j + 1 - 1]! = d[j] := by simp [hj]
          have hx1 := h3 x hx j rfl hj
          have hx2 := (List.pairwise_iff_getElem.1 hs) j (j + 1) hj hlt (by omega)
          have he2 : d[j + 1] = d[j] := List.le_antisymm (he ▸ hx1) hx2
          rw [Lib.keeps_neg hp (by rw [e0, e1]; exact he2)] at hk
          cases hk
      · obtain rfl : m = j := by omega
        rcases List.mem_append.1 hx with hx | hx
        · exact hle x hx
        · rw [List.mem_singleton.1 hx]
          exact List.le_refl _
    · rw [if_neg hk, List.append_nil]
      have hp : 0 < m := by
        rcases Nat.eq_zero_or_pos m with hz | hp
        · subst hz
          exact absurd (Lib.keeps_lt_one d.toArray 0 (by omega)) hk
        · exact hp
      obtain ⟨q, rfl⟩ : ∃ j, m = j + 1 := ⟨m - 1, by omega⟩
      have hq : q < d.length := by omega
      have e1 : d.toArray[q + 1 - 1]! = d[q] := by simp [hq]
      have he : d[q + 1] = d[q] := by
        by_cases he : d[q + 1] = d[q]
        · exact he
        · exact absurd (Lib.keeps_pos (by rw [e0, e1]; exact he)) hk
      refine ⟨h1, fun x => ?_, fun x hx j hj h => ?_⟩
      · rw [List.mem_append, List.mem_singleton, h2 x]
        refine ⟨.inl, fun h => h.elim id (fun h => ?_)⟩
        rw [h, he, List.take_succ_eq_append_getElem hq]
        exact List.mem_append_right _ (List.mem_singleton.2 rfl)
      · obtain rfl : q + 1 = j := by omega
        exact hle x hx
theorem comp_facts (d : List (List UInt8)) (hs : d.Pairwise (· ≤ ·)) : (Lib.compact d).Pairwise (· < ·) ∧ ∀ x, x ∈ Lib.compact d ↔ x ∈ d := by
  obtain ⟨h1, h2, _⟩ := comp_step d hs d.length (Nat.le_refl _)
  exact ⟨h1, fun x => by rw [show Lib.compact d = Lib.compactUpTo d.toArray d.length from rfl, h2, List.take_length]⟩
def sB (l : List ByteArray) : List ByteArray := ((l.map fun x : ByteArray => x.data.toList).mergeSort fun x y => decide (x ≤ y)).map fun b => (⟨b.toArray⟩ : ByteArray)
def cB (l : List ByteArray) : List ByteArray := (Lib.compact (l.map fun x : ByteArray => x.data.toList)).map fun b => (⟨b.toArray⟩ : ByteArray)
theorem sB_len (l : List ByteArray) : (sB l).length = l.length := by simp [sB]
theorem comp_len2 (l : List ByteArray) : (cB l).length ≤ l.length := by
  unfold cB Lib.compact Lib.compactUpTo
  rw [List.length_map, List.length_map]
  exact Nat.le_trans (List.length_filter_le _ _) (by simp)
theorem mapT (l : List (List UInt8)) : (l.map fun b => (⟨b.toArray⟩ : ByteArray)).map (fun x : ByteArray => x.data.toList) = l := by
  rw [List.map_map]
  exact (List.map_congr_left (fun x _ => by simp)).trans (List.map_id _)
theorem set_facts (l : List ByteArray) : (cB (sB l)).Pairwise less ∧ (∀ x, x ∈ cB (sB l) ↔ x ∈ l) := by
  have hs : ((l.map tB).mergeSort fun x y => decide (x ≤ y)).Pairwise (· ≤ ·) := by
    have h := List.pairwise_mergeSort (le := fun x y : List UInt8 => decide (x ≤ y)) (fun a b c h1 h2 => by simp only [decide_eq_true_eq] at *; exact List.le_trans h1 h2) (fun a b => by simp only [Bool.or_eq_true, decide_eq_true_eq]; exact List.le_total a b) (l.map tB)
    exact h.imp (fun h => by simpa using h)
  obtain ⟨h1, h2⟩ := comp_facts _ hs
  have e : cB (sB l) = (Lib.compact ((l.map tB).mergeSort fun x y => decide (x ≤ y))).map uB := by
    unfold cB sB
    rw [mapT]
    rfl
  rw [e]
  refine ⟨List.pairwise_map.2 (h1.imp (fun h => by rw [less_iff, tB_uB, tB_uB]; exact h)), fun x => ?_⟩
  rw [List.mem_map]
  constructor
  · rintro ⟨y, hy, rfl⟩
    rw [h2, (List.mergeSort_perm _ _).mem_iff, List.mem_map] at hy
    obtain ⟨z, hz, rfl⟩ := hy
    rwa [show uB (tB z) = z from tB_inj (tB_uB _)]
  · intro hx
    refine ⟨tB x, ?_, tB_inj (tB_uB _)⟩
    rw [h2, (List.mergeSort_perm _ _).mem_iff]
    exact List.mem_map_of_mem hx
def cand (R : List ByteArray) (n : Nat) (x : ByteArray) : Prop := n = 0 ∨ less (rdOf ByteArray.empty R ((n : Int) - 1)) x
def minI (R all : List ByteArray) (n : Nat) (next : ByteArray) (i : Int) : Prop :=
  (next.toList = ([] : List UInt8) ∧ ∀ j, 0 ≤ j → j < i → ¬ cand R n (rdOf ByteArray.empty all j)) ∨
  (next ∈ all ∧ ¬ next.toList = ([] : List UInt8) ∧ cand R n next ∧ ∀ j, 0 ≤ j → j < i → cand R n (rdOf ByteArray.empty all j) → ¬ less (rdOf ByteArray.empty all j) next)
theorem minI_take {R all : List ByteArray} {n : Nat} {next : ByteArray} {i : Int} (h : minI R all n next i) (hx : rdOf ByteArray.empty all i ∈ all) (hn : ¬ (rdOf ByteArray.empty all i).toList = ([] : List UInt8)) (hc : cand R n (rdOf ByteArray.empty all i))
    (hl : next.toList = ([] : List UInt8) ∨ less (rdOf ByteArray.empty all i) next) : minI R all n (rdOf ByteArray.empty all i) (i + 1) := by
  refine .inr ⟨hx, hn, hc, fun j h0 h1 hj hlt => ?_⟩
  by_cases e : j = i
  · subst e
    exact less_irr _ hlt
  · rcases h with ⟨g1, g2⟩ | ⟨g1, g2, g3, g4⟩
    · exact g2 j h0 (by omega) hj
    · exact g4 j h0 (by omega) hj (less_tr hlt (hl.resolve_left g2))
theorem minI_keep {R all : List ByteArray} {n : Nat} {next : ByteArray} {i : Int} (h : minI R all n next i) (hk : ¬ cand R n (rdOf ByteArray.empty all i) ∨ (¬ next.toList = ([] : List UInt8) ∧ ¬ less (rdOf ByteArray.empty all i) next)) : minI R all n next (i + 1) := by
  rcases h with ⟨g1, g2⟩ | ⟨g1, g2, g3, g4⟩
  · refine .inl ⟨g1, fun j h0 h1 => ?_⟩
    by_cases e : j = i
    · subst e
      exact hk.resolve_right (fun h => h.1 g1)
    · exact g2 j h0 (by omega)
  · refine .inr ⟨g1, g2, g3, fun j h0 h1 hj => ?_⟩
    by_cases e : j = i
    · subst e
      exact (hk.resolve_left (fun h => h hj)).2
    · exact g4 j h0 (by omega) hj
theorem rdOf_at (l : List ByteArray) (i : Int) (h0 : 0 ≤ i) (h : i < (l.length : Int)) : rdOf ByteArray.empty l i = l[i.toNat]'(by omega) := by
  unfold rdOf
  exact getD_at l _ _ (by omega)
theorem rdOf_mem (l : List ByteArray) (i : Int) (h0 : 0 ≤ i) (h : i < (l.length : Int)) : rdOf ByteArray.empty l i ∈ l := by
  rw [rdOf_at l i h0 h]
  exact List.getElem_mem _
theorem scan_ev (R all : List ByteArray) (n : Nat) (hn : n ≤ R.length) (hne : ∀ x ∈ all, ¬ x.toList = ([] : List UInt8)) (ha : all.length ≤ 9000000) (hR : R.length ≤ 9000000) (d : Nat) : ∀ (next : ByteArray) (i : Int), 0 ≤ i → i ≤ (all.length : Int) → (all.length : Int) - i ≤ d → minI R all n next i →
    ∃ q, minI R all n q (all.length : Int) ∧ ∀ r, Evt (fun k => spec_BookItems.l3 k (R.take n) all q (all.length : Int)) r → Evt (fun k => spec_BookItems.l3 k (R.take n) all next i) r := by
  have hl : ((R.take n).length : Int) = (n : Int) := by rw [List.length_take]; omega
  have hw2 : wrap64 ((n : Int) - 1) = (n : Int) - 1 := w64 (by omega) (by omega)
  have hlast : 0 < n → rdOf ByteArray.empty (R.take n) ((n : Int) - 1) = rdOf ByteArray.empty R ((n : Int) - 1) := fun hp => by
    rw [rdOf_at _ _ (by omega) (by omega), rdOf_at _ _ (by omega) (by omega), List.getElem_take]
  induction d with
  | zero =>
    intro next i h0 h1 hd hm
    obtain rfl : i = (all.length : Int) := by omega
    exact ⟨next, hm, fun r hr => hr⟩
  | succ d ih =>
    intro next i h0 h1 hd hm
    by_cases hlt : i < (all.length : Int)
    · have hw : wrap64 (i + 1) = i + 1 := w64 (by omega) (by omega)
      have hx := rdOf_mem all i h0 hlt
      have hxn := hne _ hx
      by_cases hc : cand R n (rdOf ByteArray.empty all i)
      · by_cases hl2 : next.toList = ([] : List UInt8) ∨ less (rdOf ByteArray.empty all i) next
        · obtain ⟨q, hq, hgo⟩ := ih (rdOf ByteArray.empty all i) (i + 1) (by omega) (by omega) (by omega) (minI_take hm hx hxn hc hl2)
          refine ⟨q, hq, fun r hr => Evt.succ ?_⟩
          have g := hgo r hr
          simp only [spec_BookItems.l3, hw, hl, hw2]
          refine Evt.pos hlt ?_
          rcases Nat.eq_zero_or_pos n with hz | hp
          · refine Evt.pos (by omega) (Evt.ite (fun _ => Evt.pos h0 g) (fun he => Evt.pos h0 (Evt.pos (hl2.resolve_left he) g)))
          · rw [hlast hp]
            exact Evt.neg (by omega) (Evt.pos h0 (Evt.pos (by omega) (Evt.pos (by omega) (Evt.pos (hc.resolve_left (by omega)) (Evt.ite (fun _ => g) (fun he => Evt.pos (hl2.resolve_left he) g))))))
        · have hl3 : ¬ next.toList = ([] : List UInt8) := fun h => hl2 (.inl h)
          have hl4 : ¬ less (rdOf ByteArray.empty all i) next := fun h => hl2 (.inr h)
          obtain ⟨q, hq, hgo⟩ := ih next (i + 1) (by omega) (by omega) (by omega) (minI_keep hm (.inr ⟨hl3, hl4⟩))
          refine ⟨q, hq, fun r hr => Evt.succ ?_⟩
          have g := hgo r hr
          simp only [spec_BookItems.l3, hw, hl, hw2]
          refine Evt.pos hlt ?_
          rcases Nat.eq_zero_or_pos n with hz | hp
          · exact Evt.pos (by omega) (Evt.neg hl3 (Evt.pos h0 (Evt.neg hl4 g)))
          · rw [hlast hp]
            exact Evt.neg (by omega) (Evt.pos h0 (Evt.pos (by omega) (Evt.pos (by omega) (Evt.pos (hc.resolve_left (by omega)) (Evt.neg hl3 (Evt.neg hl4 g))))))
      · obtain ⟨q, hq, hgo⟩ := ih next (i + 1) (by omega) (by omega) (by omega) (minI_keep hm (.inl hc))
        refine ⟨q, hq, fun r hr => Evt.succ ?_⟩
        have g := hgo r hr
        simp only [spec_BookItems.l3, hw, hl, hw2]
        refine Evt.pos hlt ?_
        rcases Nat.eq_zero_or_pos n with hz | hp
        · exact absurd (.inl hz) hc
        · rw [hlast hp]
          exact Evt.neg (by omega) (Evt.pos h0 (Evt.pos (by omega) (Evt.pos (by omega) (Evt.neg (fun h => hc (.inr h)) g))))
    · obtain rfl : i = (all.length : Int) := by omega
      exact ⟨next, hm, fun r hr => hr⟩
theorem pick_ev (R all : List ByteArray) (hne : ∀ x ∈ all, ¬ x.toList = ([] : List UInt8)) (hp : R.Pairwise less) (hm : ∀ x, x ∈ R ↔ x ∈ all) (ha : all.length ≤ 9000000) (hR : R.length ≤ 9000000) (d : Nat) : ∀ n, n ≤ R.length → R.length - n ≤ d →
    Evt (fun k => spec_BookItems.l2 k (R.take n) all) R := by
  have hlt := List.pairwise_iff_getElem.1 hp
  have step : ∀ n, n ≤ R.length → (n < R.length → Evt (fun k => spec_BookItems.l2 k (R.take (n + 1)) all) R) → Evt (fun k => spec_BookItems.l2 k (R.take n) all) R := by
    intro n hn hgo
    apply Evt.succ
    simp only [spec_BookItems.l2]
    obtain ⟨q, hq, hr⟩ := scan_ev R all n hn hne ha hR all.length ⟨#[]⟩ 0 (Int.le_refl _) (by omega) (by omega) (.inl ⟨by rw [Lib.toList_data], fun j h0 h1 => by omega⟩)
    refine hr R (Evt.succ ?_)
    simp only [spec_BookItems.l3]
    refine Evt.neg (by omega) ?_
    rcases hq with ⟨g1, g2⟩ | ⟨g1, g2, g3, g4⟩
    · refine Evt.pos g1 ((Evt.pure _).same ?_)
      have : n = R.length := by
        by_cases e : n = R.length
        · exact e
        · have hnl : n < R.length := by omega
          have hmem : R[n] ∈ all := (hm _).1 (List.getElem_mem hnl)
          obtain ⟨j, hj, he⟩ := List.mem_iff_getElem.1 hmem
          refine absurd ?_ (g2 (j : Int) (by omega) (by omega))
          rw [rdOf_at _ _ (by omega) (by omega)]
          simp only [Int.toNat_natCast, he]
          rcases Nat.eq_zero_or_pos n with hz | hpos
          · exact .inl hz
          · refine .inr ?_
            rw [rdOf_at _ _ (by omega) (by omega)]
            exact hlt _ n (by omega) hnl (by omega)
      rw [this, List.take_length]
    · refine Evt.neg g2 (Evt.pos (by rw [List.length_take]; omega) ?_)
      obtain ⟨j, hj, he⟩ := List.mem_iff_getElem.1 ((hm q).2 g1)
      have hjn : n ≤ j := by
        rcases g3 with hz | h3
        · omega
        · rcases Nat.lt_or_ge j n with hlt2 | hge
          · rw [rdOf_at _ _ (by omega) (by omega), ← he] at h3
            have e1 : ((n : Int) - 1).toNat = n - 1 := by omega
            rcases Nat.lt_or_ge j (n - 1) with h4 | h4
            · exact absurd (less_tr h3 (hlt j ((n : Int) - 1).toNat hj (by omega) (by omega))) (less_irr _)
            · have : j = ((n : Int) - 1).toNat := by omega
              subst this
              exact absurd h3 (less_irr _)
          · exact hge
      have hnl : n < R.length := by omega
      have hjn2 : j = n := by
        rcases Nat.lt_or_ge n j with h4 | h4
        · exfalso
          have hmem : R[n] ∈ all := (hm _).1 (List.getElem_mem hnl)
          obtain ⟨i, hi, hei⟩ := List.mem_iff_getElem.1 hmem
          refine g4 (i : Int) (by omega) (by omega) ?_ ?_
          · rw [rdOf_at all _ (by omega) (by omega)]
            simp only [Int.toNat_natCast, hei]
            rcases Nat.eq_zero_or_pos n with hz | hpos
            · exact .inl hz
            · refine .inr ?_
              rw [rdOf_at _ _ (by omega) (by omega)]
              exact hlt _ n (by omega) hnl (by omega)
          · rw [rdOf_at all _ (by omega) (by omega)]
            simp only [Int.toNat_natCast, hei, ← he]
            exact hlt n j hnl hj h4
        · omega
      subst hjn2
      rw [← he, ← List.take_succ_eq_append_getElem hj]
      exact hgo hnl
  induction d with
  | zero => intro n hn hd; exact step n hn (fun h => by omega)
  | succ d ih => intro n hn hd; exact step n hn (fun h => ih (n + 1) (by omega) (by omega))
def allI (l : List S71) (m : List S73) : List ByteArray := l.map (·.f0) ++ m.map (·.f3)
theorem take_mapK (l : List S71) (i : Int) (h0 : 0 ≤ i) (h : i < (l.length : Int)) : (l.take (i + 1).toNat).map (·.f0) = (l.take i.toNat).map (·.f0) ++ [(rd_T71 l i).f0] := by
  have hi : i.toNat < l.length := by omega
  rw [show (i + 1).toNat = i.toNat + 1 by omega, List.take_succ_eq_append_getElem hi, List.map_append]
  unfold rd_T71
  rw [getD_at l _ _ hi]
  rfl
theorem take_mapL (l : List S73) (i : Int) (h0 : 0 ≤ i) (h : i < (l.length : Int)) : (l.take (i + 1).toNat).map (·.f3) = (l.take i.toNat).map (·.f3) ++ [(rd_T73 l i).f3] := by
  have hi : i.toNat < l.length := by omega
  rw [show (i + 1).toNat = i.toNat + 1 by omega, List.take_succ_eq_append_getElem hi, List.map_append]
  unfold rd_T73
  rw [getD_at l _ _ hi]
  rfl
noncomputable def itemsB (l : List S71) (m : List S73) : List ByteArray := if bookB l m = true then cB (sB (allI l m)) else []
theorem names_of (l : List S71) (m : List S73) (h : bookB l m = true) : ∀ x ∈ allI l m, ¬ x.toList = ([] : List UInt8) := by
  obtain ⟨h1, h2, h3⟩ := B_iff.1 h
  have hnm : ∀ x : ByteArray, nameB x = true → ¬ x.toList = ([] : List UInt8) := fun x hx he => by
    have g := (B_iff.1 hx).1
    rw [bytes_nil] at he
    omega
  intro x hx
  rcases List.mem_append.1 hx with hx | hx
  · obtain ⟨y, hy, rfl⟩ := List.mem_map.1 hx
    obtain ⟨j, hj, rfl⟩ := List.mem_iff_getElem.1 hy
    have g := (h2 (j : Int) (by omega) (by omega)).1
    unfold rd_T71 at g
    rw [Int.toNat_natCast, getD_at l _ _ hj] at g
    exact hnm _ g
  · obtain ⟨y, hy, rfl⟩ := List.mem_map.1 hx
    obtain ⟨j, hj, rfl⟩ := List.mem_iff_getElem.1 hy
    have g := (B_iff.1 h3).2 (j : Int) (by omega) (by omega)
    have g2 : nameB (rd_T73 m (j : Int)).f3 = true := B_true (B_iff.1 g.1).2.2.1
    unfold rd_T73 at g2
    rw [Int.toNat_natCast, getD_at m _ _ hj] at g2
    exact hnm _ g2
theorem specItems_ev (l : List S71) (m : List S73) (hs : ∀ x ∈ l, okK x) (hm : ∀ x ∈ m, okS x) : Evt (fun k => spec_BookItems.f k l m) (itemsB l m) := by
  unfold spec_BookItems.f itemsB
  simp only [Option.bind_some]
  refine Evt.bind (specBook_ev l m hs hm) ?_
  by_cases hb : bookB l m = true
  case neg => rw [if_neg hb]; exact Evt.neg hb (Evt.pure _)
  rw [if_pos hb]
  refine Evt.pos hb ?_
  obtain ⟨b1, _, b3⟩ := B_iff.1 hb
  have b4 := (B_iff.1 b3).1
  have hne := names_of l m hb
  obtain ⟨f1, f2⟩ := set_facts (allI l m)
  have hal : (allI l m).length ≤ 9000000 := by simp [allI]; omega
  have hcl : (cB (sB (allI l m))).length ≤ 9000000 := by
    have g := Nat.le_trans (comp_len2 _) (Nat.le_of_eq (sB_len (allI l m)))
    omega
  have h2 := pick_ev _ _ hne f1 f2 hal hcl (cB (sB (allI l m))).length 0 (Nat.zero_le _) (by omega)
  rw [List.take_zero] at h2
  have h1 : Evt (fun k => spec_BookItems.l1 k [] (l.map (·.f0)) 0 l m) (cB (sB (allI l m))) := by
    have g := up_loop (m.length : Int) (fun k (s : List ByteArray) i => spec_BookItems.l1 k [] s i l m) (fun i => l.map (·.f0) ++ (m.take i.toNat).map (·.f3)) (fun _ => cB (sB (allI l m))) ?_ ?_ 0 (Int.le_refl _) (by omega)
    · simpa using g
    · intro i h0 hlt ih
      have hw : wrap64 (i + 1) = i + 1 := w64 (by omega) (by omega)
      simp only [spec_BookItems.l1, hw]
      refine Evt.pos hlt (Evt.pos h0 (Evt.pos (by simp; omega) ?_))
      rw [take_mapL m i h0 hlt, ← List.append_assoc] at ih
      exact ih
    · simp only [spec_BookItems.l1]
      refine Evt.neg (by omega) ?_
      rw [Int.toNat_natCast, List.take_length]
      exact h2
  have g := up_loop (l.length : Int) (fun k (s : List ByteArray) i => spec_BookItems.l0 k [] s i l m) (fun i => (l.take i.toNat).map (·.f0)) (fun _ => cB (sB (allI l m))) ?_ ?_ 0 (Int.le_refl _) (by omega)
  · simpa using g
  · intro i h0 hlt ih
    have hw : wrap64 (i + 1) = i + 1 := w64 (by omega) (by omega)
    simp only [spec_BookItems.l0, hw]
    refine Evt.pos hlt (Evt.pos h0 (Evt.pos (by simp; omega) ?_))
    rw [take_mapK l i h0 hlt] at ih
    exact ih
  · simp only [spec_BookItems.l0]
    refine Evt.neg (by omega) ?_
    rw [Int.toNat_natCast, List.take_length]
    exact h1
theorem implItems_ev (l : List S71) (m : List S73) (hs : ∀ x ∈ l, okK x) (hm : ∀ x ∈ m, okS x) : Evt (fun k => impl_BookItems.f k l m) (itemsB l m) := by
  unfold impl_BookItems.f itemsB
  refine Evt.bind (implBook_ev l m hs hm) ?_
  by_cases hb : bookB l m = true
  case neg => rw [if_neg hb]; exact Evt.neg hb (Evt.pure _)
  rw [if_pos hb]
  refine Evt.pos hb (Evt.bind ?_ (Evt.pure _))
  obtain ⟨b1, _, b3⟩ := B_iff.1 hb
  have b4 := (B_iff.1 b3).1
  unfold impl_Book_items.f
  have hal : (allI l m).length ≤ 9000000 := by simp [allI]; omega
  have h1 : Evt (fun k => impl_Book_items.l1 k (l.map (·.f0)) m (m.length : Int) 0) (cB (sB (allI l m))) := by
    have g := up_loop (m.length : Int) (fun k (s : List ByteArray) i => impl_Book_items.l1 k s m (m.length : Int) i) (fun i => l.map (·.f0) ++ (m.take i.toNat).map (·.f3)) (fun _ => cB (sB (allI l m))) ?_ ?_ 0 (Int.le_refl _) (by omega)
    · simpa using g
    · intro i h0 hlt ih
      have hw : wrap64 (i + 1) = i + 1 := w64 (by omega) (by omega)
      simp only [impl_Book_items.l1, hw]
      refine Evt.pos hlt (Evt.pos h0 (Evt.pos hlt (Evt.pos (by simp; omega) ?_)))
      rw [take_mapL m i h0 hlt, ← List.append_assoc] at ih
      exact ih
    · simp only [impl_Book_items.l1]
      refine Evt.neg (by omega) ?_
      rw [Int.toNat_natCast, List.take_length]
      have hso : slices_Sort_string.f (allI l m) = some (sB (allI l m)) := by
        unfold slices_Sort_string.f
        rw [if_pos (by omega)]
        rfl
      exact Evt.bind (Evt.const hso) (Evt.bind (Evt.const (show slices_Compact_string.f (sB (allI l m)) = some (cB (sB (allI l m))) from rfl)) (Evt.pure _))
  have g := up_loop (l.length : Int) (fun k (s : List ByteArray) i => impl_Book_items.l0 k s l (l.length : Int) i l m) (fun i => (l.take i.toNat).map (·.f0)) (fun _ => cB (sB (allI l m))) ?_ ?_ 0 (Int.le_refl _) (by omega)
  · simpa using g
  · intro i h0 hlt ih
    have hw : wrap64 (i + 1) = i + 1 := w64 (by omega) (by omega)
    simp only [impl_Book_items.l0, hw]
    refine Evt.pos hlt (Evt.pos h0 (Evt.pos hlt (Evt.pos (by simp; omega) ?_)))
    rw [take_mapK l i h0 hlt] at ih
    exact ih
  · simp only [impl_Book_items.l0]
    refine Evt.neg (by omega) ?_
    rw [Int.toNat_natCast, List.take_length]
    exact h1
theorem itemsB_len (l : List S71) (m : List S73) : (itemsB l m).length ≤ 400 := by
  unfold itemsB
  by_cases hb : bookB l m = true
  · rw [if_pos hb]
    obtain ⟨b1, _, b3⟩ := B_iff.1 hb
    have b4 := (B_iff.1 b3).1
    have g := Nat.le_trans (comp_len2 _) (Nat.le_of_eq (sB_len (allI l m)))
    have e : (allI l m).length = l.length + m.length := by simp [allI]
    omega
  · rw [if_neg hb]
    simp
end Go.Proofs.Ytjjfjgdhloideaa.QH
namespace Go.Proofs.Ytjjfjgdhloideaa.QH
open Go.RowKit Go.Proofs.YtjjfjgdhloideaaW.PrintWords Go.Proofs.Ytjjfjgdhloideaa.Ev0
theorem one_size (v : Int) : (strOfNums [v]).size = 1 := rfl
theorem markText_l (d : Nat) : ∀ (a : Int) (x : ByteArray), 0 ≤ a → a < 10 ^ d → a ≤ 9223372036854775807 → (x.size : Int) + d ≤ 1000000000000000000 → ∃ r, Evt (fun k => laws_markText.l0 k a x) r := by
  induction d with
  | zero =>
    intro a x h0 h1 ha hx
    obtain rfl : a = 0 := by have : (10 : Int) ^ 0 = 1 := rfl; omega
    refine ⟨(⟨#[109]⟩ : ByteArray) ++ x, Evt.succ ?_⟩
    simp only [laws_markText.l0]
    exact Evt.neg (by omega) (Evt.pos (by omega) (Evt.pure _))
  | succ d ih =>
    intro a x h0 h1 ha hx
    by_cases h : a > 0
    · have e : a.tdiv 10 = a / 10 := Int.tdiv_eq_ediv_of_nonneg h0
      have hp : (10 : Int) ^ (d + 1) = 10 ^ d * 10 := Int.pow_succ ..
      have hw : wrap64 (a.tdiv 10) = a / 10 := by rw [e]; exact w64 (by omega) (by omega)
      obtain ⟨r, hr⟩ := ih (a / 10) (strOfNums [(wrap64 (48 + (Int.tmod a 10))) % 256] ++ x) (by omega) (by omega) (by omega) (by rw [ByteArray.size_append, one_size]; omega)
      refine ⟨r, Evt.succ ?_⟩
      simp only [laws_markText.l0, Option.bind_some, hw, one_size]
      exact Evt.pos h (Evt.pos (by omega) hr)
    · obtain rfl : a = 0 := by omega
      refine ⟨(⟨#[109]⟩ : ByteArray) ++ x, Evt.succ ?_⟩
      simp only [laws_markText.l0]
      exact Evt.neg (by omega) (Evt.pos (by omega) (Evt.pure _))
theorem markText_ex (a : Int) (ha : a ≤ 9223372036854775807) : ∃ r, Evt (fun k => laws_markText.f k a) r := by
  unfold laws_markText.f
  by_cases h : a ≤ 0
  · exact ⟨_, Evt.pos h (Evt.pure _)⟩
  · obtain ⟨r, hr⟩ := markText_l 19 a ⟨#[]⟩ (by omega) (by omega) ha (by decide)
    exact ⟨r, Evt.neg h hr⟩
noncomputable def mt (a : Int) : ByteArray := @dite _ (∃ r, Evt (fun k => laws_markText.f k a) r) (Classical.propDecidable _) (fun h => Classical.choose h) (fun _ => ⟨#[]⟩)
theorem mt_ev (a : Int) (ha : a ≤ 9223372036854775807) : Evt (fun k => laws_markText.f k a) (mt a) := by
  unfold mt
  rw [dif_pos (markText_ex a ha)]
  exact Classical.choose_spec (markText_ex a ha)
theorem lin (c m i : Int) : c + m * i + m = c + m * (i + 1) := by rw [Int.mul_add, Int.mul_one, Int.add_assoc]
theorem mark_loop {α : Type} (n : Nat) (l : List α) (hl : l.length = n) (m c : Int) (g : Int → α) (F : Nat → List α → Int → Int → Option (Int × List α))
    (step : ∀ acc i, 0 ≤ i → i < (n : Int) → acc.length = n → ∀ r, Evt (fun k => F k (acc.set i.toNat (g (c + m * i))) (c + m * i + m) (i + 1)) r → Evt (fun k => F (k + 1) acc (c + m * i) i) r)
    (stop : ∀ acc s, acc.length = n → Evt (fun k => F (k + 1) acc s (n : Int)) (s, acc)) :
    Evt (fun k => F k l c 0) (c + m * n, (List.range n).map fun (j : Nat) => g (c + m * (j : Int))) := by
  have h := up_loop (n : Int) (fun k (s : List α × Int) i => F k s.1 s.2 i) (fun i => ((List.range i.toNat).map (fun (j : Nat) => g (c + m * (j : Int))) ++ l.drop i.toNat, c + m * i)) (fun _ => (c + m * (n : Int), (List.range n).map fun (j : Nat) => g (c + m * (j : Int)))) ?_ ?_ 0 (Int.le_refl _) (by omega)
  · simpa using h
  · intro i h0 hlt ih
    have hi : i.toNat < l.length := by omega
    refine step _ i h0 hlt (by simp; omega) _ ?_
    have e : ((List.range i.toNat).map (fun (j : Nat) => g (c + m * (j : Int))) ++ l.drop i.toNat).set i.toNat (g (c + m * i)) = (List.range (i + 1).toNat).map (fun (j : Nat) => g (c + m * (j : Int))) ++ l.drop (i + 1).toNat := by
      rw [List.set_append_right _ _ (by simp), List.length_map, List.length_range, Nat.sub_self, List.drop_eq_getElem_cons hi, List.set_cons_zero, show (i + 1).toNat = i.toNat + 1 by omega]
      rw [List.range_succ, List.map_append, List.append_assoc]
      congr 1
      rw [List.map_singleton, List.singleton_append, show ((i.toNat : Nat) : Int) = i by omega]
    rw [e, lin]
    exact ih
  · refine (stop _ _ (by simp; omega)).same ?_
    have : l.drop n = [] := by rw [← hl]; exact List.drop_length
    simp [this]
theorem at_map {α : Type} (n : Nat) (g : Nat → α) (z : α) (i : Int) (h0 : 0 ≤ i) (h : i < (n : Int)) : ((List.range n).map g).getD i.toNat z = g i.toNat := by
  rw [getD_at _ _ _ (by simp; omega)]
  simp
theorem held_loop (n : Nat) (m c : Int) (F : Nat → Int → Int → Option Int)
    (step : ∀ i, 0 ≤ i → i < (n : Int) → ∀ r, Evt (fun k => F k (c + m * i + m) (i + 1)) r → Evt (fun k => F (k + 1) (c + m * i) i) r)
    (stop : ∀ s, Evt (fun k => F (k + 1) s (n : Int)) s) : Evt (fun k => F k c 0) (c + m * n) := by
  have h := up_loop (n : Int) (fun k (s : Int) i => F k s i) (fun i => c + m * i) (fun _ => c + m * (n : Int)) ?_ ?_ 0 (Int.le_refl _) (by omega)
  · simpa using h
  · intro i h0 hlt ih
    refine step i h0 hlt _ ?_
    rw [lin]
    exact ih
  · exact stop _
end Go.Proofs.Ytjjfjgdhloideaa.QH
namespace Go.Proofs.Ytjjfjgdhloideaa.QH
open Go.RowKit Go.Proofs.YtjjfjgdhloideaaW.PrintWords Go.Proofs.Ytjjfjgdhloideaa.Ev0
noncomputable def gK (s : Int) : S71 := ⟨mt s, s + 1⟩
noncomputable def marksK (n : Nat) (c : Int) : List S71 := (List.range n).map fun (j : Nat) => gK (c + 2 * (j : Int))
theorem rdK_set (l : List S71) (i : Int) (x : S71) (h0 : 0 ≤ i) (h : i < (l.length : Int)) : rd_T71 (l.set i.toNat x) i = x := by
  unfold rd_T71
  rw [getD_at _ _ _ (by simp; omega)]
  simp
theorem markK_ev (l : List S71) (c : Int) (h0 : 0 ≤ c) (hc : c + 2 * (l.length : Int) ≤ 1000000000000000000) : Evt (fun k => laws_markStockS.f k l c) (c + 2 * l.length, marksK l.length c) := by
  unfold laws_markStockS.f
  refine mark_loop l.length l rfl 2 c gK (fun k acc s i => laws_markStockS.l0 k acc s i) ?_ ?_
  · intro acc i h1 hlt hl r hr
    have hw : wrap64 (i + 1) = i + 1 := w64 (by omega) (by omega)
    have w1 : wrap64 (c + 2 * i + 1) = c + 2 * i + 1 := by rw [w64 (by omega) (by omega)]
    have w2 : wrap64 (c + 2 * i + 1 + 1) = c + 2 * i + 2 := by rw [w64 (by omega) (by omega)]; omega
    simp only [laws_markStockS.l0, hw, w1, w2, Option.bind_some]
    refine Evt.pos (by omega) (Evt.bind (mt_ev _ (by omega)) (Evt.pos h1 ?_))
    simp only [rdK_set _ i _ h1 (show i < (acc.length : Int) by omega), List.set_set]
    exact hr
  · intro acc s hl
    simp only [laws_markStockS.l0]
    exact Evt.neg (by omega) (Evt.pure _)
end Go.Proofs.Ytjjfjgdhloideaa.QH
namespace Go.Proofs.Ytjjfjgdhloideaa.QH
open Go.RowKit Go.Proofs.YtjjfjgdhloideaaW.PrintWords Go.Proofs.Ytjjfjgdhloideaa.Ev0
noncomputable def gL (s : Int) : S73 := ⟨mt s, mt (s + 1), s + 2, mt (s + 3), s + 4, s + 5, s + 6, s + 7⟩
noncomputable def marksL (n : Nat) (c : Int) : List S73 := (List.range n).map fun (j : Nat) => gL (c + 8 * (j : Int))
theorem rdL_set (l : List S73) (i : Int) (x : S73) (h0 : 0 ≤ i) (h : i < (l.length : Int)) : rd_T73 (l.set i.toNat x) i = x := by
  unfold rd_T73
  rw [getD_at _ _ _ (by simp; omega)]
  simp
theorem markL_ev (l : List S73) (c : Int) (h0 : 0 ≤ c) (hc : c + 8 * (l.length : Int) ≤ 1000000000000000000) : Evt (fun k => laws_markOrderLineS.f k l c) (c + 8 * l.length, marksL l.length c) := by
  unfold laws_markOrderLineS.f
  refine mark_loop l.length l rfl 8 c gL (fun k acc s i => laws_markOrderLineS.l0 k acc s i) ?_ ?_
  · intro acc i h1 hlt hl r hr
    have hw : wrap64 (i + 1) = i + 1 := w64 (by omega) (by omega)
    have w1 : wrap64 (c + 8 * i + 1) = c + 8 * i + 1 := by rw [w64 (by omega) (by omega)]
    have w2 : wrap64 (c + 8 * i + 1 + 1) = c + 8 * i + 2 := by rw [w64 (by omega) (by omega)]; omega
    have w3 : wrap64 (c + 8 * i + 2 + 1) = c + 8 * i + 3 := by rw [w64 (by omega) (by omega)]; omega
    have w4 : wrap64 (c + 8 * i + 3 + 1) = c + 8 * i + 4 := by rw [w64 (by omega) (by omega)]; omega
    have w5 : wrap64 (c + 8 * i + 4 + 1) = c + 8 * i + 5 := by rw [w64 (by omega) (by omega)]; omega
    have w6 : wrap64 (c + 8 * i + 5 + 1) = c + 8 * i + 6 := by rw [w64 (by omega) (by omega)]; omega
    have w7 : wrap64 (c + 8 * i + 6 + 1) = c + 8 * i + 7 := by rw [w64 (by omega) (by omega)]; omega
    have w8 : wrap64 (c + 8 * i + 7 + 1) = c + 8 * i + 8 := by rw [w64 (by omega) (by omega)]; omega
    simp only [laws_markOrderLineS.l0, hw, w1, w2, w3, w4, w5, w6, w7, w8, Option.bind_some]
    refine Evt.pos (by omega) (Evt.bind (mt_ev _ (by omega)) (Evt.pos h1 (Evt.bind (mt_ev _ (by omega)) (Evt.bind (mt_ev _ (by omega)) ?_))))
    simp only [rdL_set _ i _ h1 (show i < (acc.length : Int) by omega), List.set_set]
    exact hr
  · intro acc s hl
    simp only [laws_markOrderLineS.l0]
    exact Evt.neg (by omega) (Evt.pure _)
end Go.Proofs.Ytjjfjgdhloideaa.QH
namespace Go.Proofs.Ytjjfjgdhloideaa.QH
open Go.RowKit Go.Proofs.YtjjfjgdhloideaaW.PrintWords Go.Proofs.Ytjjfjgdhloideaa.Ev0
noncomputable def marksT (n : Nat) (c : Int) : List ByteArray := (List.range n).map fun (j : Nat) => mt (c + 1 * (j : Int))
theorem markT_ev (l : List ByteArray) (c : Int) (h0 : 0 ≤ c) (hc : c + 1 * (l.length : Int) ≤ 1000000000000000000) : Evt (fun k => laws_markStringS.f k l c) (c + 1 * l.length, marksT l.length c) := by
  unfold laws_markStringS.f
  refine mark_loop l.length l rfl 1 c mt (fun k acc s i => laws_markStringS.l0 k acc s i) ?_ ?_
  · intro acc i h1 hlt hl r hr
    have hw : wrap64 (i + 1) = i + 1 := w64 (by omega) (by omega)
    have w1 : wrap64 (c + 1 * i + 1) = c + 1 * i + 1 := by rw [w64 (by omega) (by omega)]
    simp only [laws_markStringS.l0, hw, w1]
    exact Evt.pos (by omega) (Evt.bind (mt_ev _ (by omega)) (Evt.pos h1 hr))
  · intro acc s hl
    simp only [laws_markStringS.l0]
    exact Evt.neg (by omega) (Evt.pure _)
theorem heldT_ev (n : Nat) (c : Int) (h0 : 0 ≤ c) (hc : c + 1 * (n : Int) ≤ 1000000000000000000) : Evt (fun k => laws_heldStringS.f k (marksT n c) c) (c + 1 * n) := by
  unfold laws_heldStringS.f
  have hlen : (marksT n c).length = n := by simp [marksT]
  refine held_loop n 1 c (fun k s i => laws_heldStringS.l0 k (marksT n c) s i) ?_ ?_
  · intro i h1 hlt r hr
    have hw : wrap64 (i + 1) = i + 1 := w64 (by omega) (by omega)
    have w1 : wrap64 (c + 1 * i + 1) = c + 1 * i + 1 := by rw [w64 (by omega) (by omega)]
    have e : rdOf ByteArray.empty (marksT n c) i = mt (c + 1 * i) := by
      unfold rdOf marksT
      rw [at_map _ _ _ _ h1 hlt, show ((i.toNat : Nat) : Int) = i by omega]
    simp only [laws_heldStringS.l0, hw, w1, e, hlen]
    exact Evt.pos hlt (Evt.pos h1 (Evt.bind (mt_ev _ (by omega)) (Evt.pos rfl hr)))
  · intro s
    simp only [laws_heldStringS.l0, hlen]
    exact Evt.neg (by omega) (Evt.pure _)
theorem eqT_refl (l : List ByteArray) (hl : l.length ≤ 9000000) : Evt (fun k => laws_eqStringS.f k l l) true := by
  unfold laws_eqStringS.f
  refine Evt.pos rfl (all_loop (l.length : Int) (by omega) (fun k i => laws_eqStringS.l0 k l l i) ?_ ?_)
  · intro i h0 hlt ih
    have hw : wrap64 (i + 1) = i + 1 := w64 (by omega) (by omega)
    simp only [laws_eqStringS.l0, if_true, hw]
    exact Evt.pos hlt (Evt.pos h0 (Evt.pos hlt ih))
  · simp only [laws_eqStringS.l0]
    exact Evt.neg (by omega) (Evt.pure _)
end Go.Proofs.Ytjjfjgdhloideaa.QH
namespace Go.Proofs.Ytjjfjgdhloideaa.Pure
open Go.RowKit Go.Proofs.Ytjjfjgdhloideaa Go.Proofs.Ytjjfjgdhloideaa.QH Go.Proofs.YtjjfjgdhloideaaW.PrintWords Go.Proofs.Ytjjfjgdhloideaa.Ev0
theorem FnExactBookItems : laws_FnExactBookItems.Pure := by
  intro l m wl wm
  obtain ⟨hl, hw⟩ := wl
  obtain ⟨hm, hv⟩ := wm
  apply Evt.ex
  unfold laws_FnExactBookItems.f
  have hx : ∀ x ∈ l, okLK x := fun x h => okLK_of (hw x h)
  have hy : ∀ x ∈ m, okL x := fun x h => okL_of (hv x h)
  obtain ⟨t, ht, hlen⟩ := szBook_ev l m hl hx hm hy 1048576 (by decide) (by decide)
  refine Evt.bind ht (Evt.ite (fun _ => Evt.pure true) (fun hn => ?_))
  obtain ⟨_, _, h1, h2⟩ := hlen.resolve_left hn
  have hto := toBook_ev l m h1 h2
  have hk := okK_map l hx
  have hs := okS_map m hy
  have hll : (l.map cvStock).length ≤ 1048576 := by simp; omega
  have hmm : (m.map cvLine).length ≤ 1048576 := by simp; omega
  generalize l.map cvStock = L at hto hk hll
  generalize m.map cvLine = M at hto hs hmm
  have e1 := specItems_ev L M hk hs
  have e2 := implItems_ev L M hk hs
  have hR := itemsB_len L M
  generalize itemsB L M = R at hR e1 e2
  have hq := eqT_refl R (by omega)
  have hq0 := eqBook_refl L M (by omega) (by omega)
  have hmb : Evt (fun k => laws_markBook.f k L M 1) (1 + 2 * (L.length : Int) + 8 * (M.length : Int), marksK L.length 1, marksL M.length (1 + 2 * (L.length : Int))) := by
    unfold laws_markBook.f
    exact Evt.bind (markK_ev L 1 (by omega) (by omega)) (Evt.bind (markL_ev M _ (by dsimp only; omega) (by dsimp only; omega)) (Evt.pure _))
  have hms := markT_ev R 1 (by omega) (by omega)
  have hhs := heldT_ev R.length 1 (by omega) (by omega)
  refine Evt.bind hto (Evt.bind e1 (Evt.bind hto (Evt.bind e2 (Evt.bind hq (Evt.pos rfl (Evt.bind hto (Evt.bind hq0 (Evt.pos rfl (Evt.bind hmb (Evt.neg (by dsimp only; omega) (Evt.bind hq ?_)))))))))))
  apply Evt.succ
  simp only [laws_FnExactBookItems.j0, Bool.not_true, Bool.false_eq_true, if_false]
  exact Evt.bind hms (Evt.bind hhs (Evt.neg (by omega) (Evt.pos rfl (Evt.bind hto (Evt.bind e2 (Evt.bind hq (Evt.pos rfl (Evt.bind hhs (Evt.neg (by omega) (Evt.pos rfl (Evt.pure true)))))))))))
end Go.Proofs.Ytjjfjgdhloideaa.Pure
