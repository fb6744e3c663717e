-- Merged by a program of this session (wip/tool/pack.py) out of its own texts for this claim.
import Derived.Test.YtjbdljhjplidmaaDoorKFnExactFormRight0
import Derived.Test.YtjbdljhjplidmaaDoorKFnExactFormRight1
import Derived.Test.YtjbdljhjplidmaaDoorKFnExactFormRight2
import Derived.Test.YtjbdljhjplidmaaDoorKFnExactFormRight8
import Derived.Test.YtjbdljhjplidmaaDoorKFnExactFormRight9
set_option linter.unusedVariables false
namespace Go.Proofs.YtjbdljhjplidmaaDoor.QE
open Go.RowKit Go.Proofs.YtjbdljhjplidmaaDoorW.PrintWords Go.Proofs.YtjbdljhjplidmaaDoor.Ev0 Go.Proofs.YtjbdljhjplidmaaDoor.Num
def fPre (t : List UInt8) : List UInt8 := t.takeWhile (· != 63)
def fPost (t : List UInt8) : List UInt8 := (t.dropWhile (· != 63)).tail
def okL (l : List UInt8) : Prop := ∀ c ∈ l, okF (c.toNat : Int)
def nums (l : List UInt8) : List Int := l.map fun b => (b.toNat : Int)
theorem nums_bs8 (l : List UInt8) : bytesOf (bs8 l) = nums l := by simp [bytesOf, bs8, nums]
theorem rd_nums (l : List UInt8) (i : Int) : rd (nums l) i = bt (bs8 l) i := by rw [← nums_bs8, rd_bytesOf]
theorem index_63 (t : List UInt8) : (Lib.index t [63] = -1 ∧ fPre t = t ∧ fPost t = []) ∨ (0 ≤ Lib.index t [63] ∧ fPre t = t.take (Lib.index t [63]).toNat ∧ fPost t = t.drop ((Lib.index t [63]).toNat + 1)) := by
  induction t with
  | nil => exact .inl ⟨rfl, rfl, rfl⟩
  | cons b l ih =>
    unfold Lib.index
    by_cases h : b = 63
    · subst h
      refine .inr ?_
      rw [if_pos (by simp [List.isPrefixOf])]
      exact ⟨by decide, by simp [fPre], by simp [fPost]⟩
    · rw [if_neg (by simp [List.isPrefixOf]; exact fun e => h e.symm)]
      have hp : fPre (b :: l) = b :: fPre l := by simp [fPre, h]
      have hq : fPost (b :: l) = fPost l := by simp [fPost, h]
      rcases ih with ⟨h1, h2, h3⟩ | ⟨h1, h2, h3⟩
      · rw [h1]
        exact .inl ⟨rfl, by rw [hp, h2], by rw [hq, h3]⟩
      · refine .inr ?_
        have hne : ¬ (Lib.index l [63] == -1) = true := by simp; omega
        rw [if_neg hne]
        have e : (Lib.index l [63] + 1).toNat = (Lib.index l [63]).toNat + 1 := by omega
        exact ⟨by omega, by rw [hp, h2, e, List.take_succ_cons], by rw [hq, h3, e, List.drop_succ_cons]⟩
theorem cut_63 (t : List UInt8) : (Lib.cut t [63]).1 = fPre t ∧ (Lib.cut t [63]).2.1 = fPost t := by
  unfold Lib.cut
  rcases index_63 t with ⟨h1, h2, h3⟩ | ⟨h1, h2, h3⟩
  · rw [if_neg (by omega), h2, h3]
    exact ⟨rfl, rfl⟩
  · rw [if_pos h1, h2, h3]
    exact ⟨rfl, rfl⟩
theorem idx_neg (l : List UInt8) (c : UInt8) : Lib.indexByte l c < 0 ↔ c ∉ l := by
  induction l with
  | nil => simp [Lib.indexByte]
  | cons b l ih =>
    unfold Lib.indexByte
    by_cases h : b = c
    · subst h; simp
    · rw [if_neg (by simpa using h)]
      have hc : c ∉ b :: l ↔ c ∉ l := by simp [Ne.symm h]
      rw [hc, ← ih]
      by_cases g : Lib.indexByte l c = -1
      · rw [if_pos (by rw [g]; rfl)]; omega
      · rw [if_neg (by simpa using g)]
        have : -1 ≤ Lib.indexByte l c := by
          clear ih hc g h
          induction l with
          | nil => exact Int.le_refl _
          | cons b l ih =>
            unfold Lib.indexByte
            split
            · omega
            · split <;> omega
        omega
theorem pass_loop {ρ : Type} (n : Int) (ok : Int → Prop) (r0 : ρ) (F : Nat → Int → Option ρ)
    (step : ∀ i, 0 ≤ i → i < n → (ok i → ∀ r, Evt (fun k => F k (i + 1)) r → Evt (fun k => F (k + 1) i) r) ∧ (¬ ok i → Evt (fun k => F (k + 1) i) r0)) (d : Nat) : ∀ i : Int, 0 ≤ i → i ≤ n → n - i ≤ d →
    ((∀ j, i ≤ j → j < n → ok j) → ∀ r, Evt (fun k => F k n) r → Evt (fun k => F k i) r) ∧ (¬ (∀ j, i ≤ j → j < n → ok j) → Evt (fun k => F k i) r0) := by
  induction d with
  | zero =>
    intro i h0 h1 hd
    obtain rfl : i = n := by omega
    exact ⟨fun _ r hr => hr, fun h => absurd (fun j g0 g1 => absurd g1 (by omega)) h⟩
  | succ d ih =>
    intro i h0 h1 hd
    by_cases hlt : i < n
    · obtain ⟨i1, i2⟩ := ih (i + 1) (by omega) (by omega) (by omega)
      by_cases hk : ok i
      · refine ⟨fun h r hr => ((step i h0 hlt).1 hk r (i1 (fun j g0 g1 => h j (by omega) g1) r hr)).succ, fun h => ((step i h0 hlt).1 hk r0 (i2 (fun g => h (fun j g0 g1 => ?_)))).succ⟩
        by_cases e : j = i
        · rw [e]; exact hk
        · exact g j (by omega) g1
      · exact ⟨fun h => absurd (h i (Int.le_refl _) hlt) hk, fun _ => ((step i h0 hlt).2 hk).succ⟩
    · obtain rfl : i = n := by omega
      exact ⟨fun _ r hr => hr, fun h => absurd (fun j g0 g1 => absurd g1 (by omega)) h⟩
section
variable (tag : ByteArray) (els : List S65)
theorem form_two (form : ByteArray) (hf : form.size ≤ 20000) (m : Int) (hm : 0 ≤ m) (rest : List UInt8) : ∀ done x, form.data.toList = done ++ rest → x.length ≤ done.length →
    (okL rest → ∀ r, Evt (fun k => spec_FormRight.j1 k (x ++ nums rest) m tag els) r → Evt (fun k => spec_FormRight.l0 k form x m (done.length : Int) tag els) r) ∧
    (¬ okL rest → Evt (fun k => spec_FormRight.l0 k form x m (done.length : Int) tag els) 0) := by
  induction rest with
  | nil =>
    intro done x hd hx
    have hl : form.size = done.length := by rw [← data_length, hd]; simp
    refine ⟨fun _ r hr => ?_, fun h => absurd (fun c hc => by cases hc) h⟩
    apply Evt.succ
    simp only [spec_FormRight.l0]
    refine Evt.neg (by omega) (Evt.neg (by omega) ?_)
    rw [show x ++ nums [] = x by simp [nums]] at hr
    exact hr
  | cons c rest ih =>
    intro done x hd hx
    have hl : form.size = done.length + (rest.length + 1) := by rw [← data_length, hd]; simp
    have hlt : (done.length : Int) < (form.size : Int) := by omega
    obtain ⟨c', h1, h2⟩ := bt_get form (done.length : Int) (by omega) hlt
    have hc : c' = c := by
      rw [hd, Int.toNat_natCast] at h1
      simpa using h1.symm
    subst hc
    have hw : wrap64 ((done.length : Int) + 1) = ((done ++ [c']).length : Int) := by rw [w64 (by omega) (by omega)]; simp
    obtain ⟨i1, i2⟩ := ih (done ++ [c']) (x ++ [(c'.toNat : Int)]) (by rw [hd]; simp) (by simp; omega)
    have e : x ++ [(c'.toNat : Int)] ++ nums rest = x ++ nums (c' :: rest) := by simp [nums]
    rw [e] at i1
    have go : okF (c'.toNat : Int) → ∀ r, Evt (fun k => spec_FormRight.l0 k form (x ++ [(c'.toNat : Int)]) m ((done ++ [c']).length : Int) tag els) r → Evt (fun k => spec_FormRight.l0 k form x m (done.length : Int) tag els) r := fun hg r hr => by
      apply Evt.succ
      simp only [spec_FormRight.l0, h2, hw]
      have hlen : x.length < 140737488355328 := by omega
      refine Evt.pos hlt (Evt.pos (by omega) ?_)
      rcases hg with h | h | h | h | h | h
      · exact Evt.neg (by omega) (Evt.pos h (Evt.pos hlen hr))
      · exact Evt.neg (by omega) (Evt.neg (by omega) (Evt.pos h (Evt.pos hlen hr)))
      · exact Evt.neg (by omega) (Evt.neg (by omega) (Evt.neg (by omega) (Evt.pos h (Evt.pos hlen hr))))
      · exact Evt.neg (by omega) (Evt.neg (by omega) (Evt.neg (by omega) (Evt.neg (by omega) (Evt.pos h (Evt.pos hlen hr)))))
      · exact Evt.neg (by omega) (Evt.neg (by omega) (Evt.neg (by omega) (Evt.neg (by omega) (Evt.neg (by omega) (Evt.pos h (Evt.pos hlen hr))))))
      · exact Evt.neg (by omega) (Evt.neg (by omega) (Evt.neg (by omega) (Evt.neg (by omega) (Evt.neg (by omega) (Evt.neg (by omega) (Evt.pos h (Evt.pos hlen hr)))))))
    refine ⟨fun h r hr => go (h c' (List.mem_cons_self ..)) r (i1 (fun y hy => h y (List.mem_cons_of_mem _ hy)) r hr), fun h => ?_⟩
    by_cases hg : okF (c'.toNat : Int)
    · exact go hg 0 (i2 (fun g => h (fun y hy => (List.mem_cons.1 hy).elim (fun e => by rw [e]; exact hg) (g y))))
    · apply Evt.succ
      simp only [spec_FormRight.l0, h2, hw]
      unfold okF at hg
      refine Evt.pos hlt (Evt.pos (by omega) (Evt.ite (fun _ => Evt.pos (by omega) (Evt.pure _)) (fun _ => ?_)))
      exact Evt.neg (by omega) (Evt.neg (by omega) (Evt.neg (by omega) (Evt.neg (by omega) (Evt.neg (by omega) (Evt.neg (by omega) (Evt.pure _))))))
theorem form_one (form : ByteArray) (hf : form.size ≤ 20000) (rest : List UInt8) : ∀ done, form.data.toList = done ++ rest →
    (okL (fPre rest ++ fPost rest) → ∀ r, Evt (fun k => spec_FormRight.j1 k (nums (done ++ (fPre rest ++ fPost rest))) ((done ++ fPre rest).length : Int) tag els) r → Evt (fun k => spec_FormRight.l0 k form (nums done) (-1) (done.length : Int) tag els) r) ∧
    (¬ okL (fPre rest ++ fPost rest) → Evt (fun k => spec_FormRight.l0 k form (nums done) (-1) (done.length : Int) tag els) 0) := by
  induction rest with
  | nil =>
    intro done hd
    have hl : form.size = done.length := by rw [← data_length, hd]; simp
    refine ⟨fun _ r hr => ?_, fun h => absurd (fun c hc => by cases hc) h⟩
    apply Evt.succ
    simp only [spec_FormRight.l0]
    refine Evt.neg (by omega) (Evt.pos (by decide) ?_)
    rw [show (nums done).length = done.length by simp [nums]]
    simpa [fPre, fPost] using hr
  | cons c rest ih =>
    intro done hd
    have hl : form.size = done.length + (rest.length + 1) := by rw [← data_length, hd]; simp
    have hlt : (done.length : Int) < (form.size : Int) := by omega
    obtain ⟨c', h1, h2⟩ := bt_get form (done.length : Int) (by omega) hlt
    have hc : c' = c := by
      rw [hd, Int.toNat_natCast] at h1
      simpa using h1.symm
    subst hc
    have hw : wrap64 ((done.length : Int) + 1) = ((done ++ [c']).length : Int) := by rw [w64 (by omega) (by omega)]; simp
    have hnl : (nums done).length = done.length := by simp [nums]
    by_cases h63 : c' = 63
    · subst h63
      have hp : fPre (63 :: rest) = [] := by simp [fPre]
      have hq : fPost (63 :: rest) = rest := by simp [fPost]
      rw [hp, hq, List.nil_append, List.append_nil]
      obtain ⟨i1, i2⟩ := form_two tag els form hf (done.length : Int) (by omega) rest (done ++ [63]) (nums done) (by rw [hd]; simp) (by simp [nums])
      have go : ∀ r, Evt (fun k => spec_FormRight.l0 k form (nums done) (done.length : Int) ((done ++ [(63 : UInt8)]).length : Int) tag els) r → Evt (fun k => spec_FormRight.l0 k form (nums done) (-1) (done.length : Int) tag els) r := fun r hr => by
        apply Evt.succ
        simp only [spec_FormRight.l0, h2, hw, hnl]
        exact Evt.pos hlt (Evt.pos (by omega) (Evt.pos (by rfl) (Evt.neg (by decide) hr)))
      have e : nums done ++ nums rest = nums (done ++ rest) := by simp [nums]
      rw [e] at i1
      exact ⟨fun h r hr => go r (i1 h r hr), fun h => go 0 (i2 h)⟩
    · have hp : fPre (c' :: rest) = c' :: fPre rest := by simp [fPre, h63]
      have hq : fPost (c' :: rest) = fPost rest := by simp [fPost, h63]
      have hn63 : ¬ (c'.toNat : Int) = 63 := fun e => h63 (UInt8.toNat_inj.1 (by have : (63 : UInt8).toNat = 63 := rfl; omega))
      rw [hp, hq]
      obtain ⟨i1, i2⟩ := ih (done ++ [c']) (by rw [hd]; simp)
      have e0 : nums (done ++ [c']) = nums done ++ [(c'.toNat : Int)] := by simp [nums]
      have e1 : done ++ [c'] ++ (fPre rest ++ fPost rest) = done ++ (c' :: fPre rest ++ fPost rest) := by simp
      have e2 : (done ++ [c'] ++ fPre rest) = (done ++ c' :: fPre rest) := by simp
      rw [e0, e1, e2] at i1
      rw [e0] at i2
      have go : okF (c'.toNat : Int) → ∀ r, Evt (fun k => spec_FormRight.l0 k form (nums done ++ [(c'.toNat : Int)]) (-1) ((done ++ [c']).length : Int) tag els) r → Evt (fun k => spec_FormRight.l0 k form (nums done) (-1) (done.length : Int) tag els) r := fun hg r hr => by
        apply Evt.succ
        simp only [spec_FormRight.l0, h2, hw]
        have hlen : (nums done).length < 140737488355328 := by omega
        refine Evt.pos hlt (Evt.pos (by omega) (Evt.neg hn63 ?_))
        rcases hg with h | h | h | h | h | h
        · exact Evt.pos h (Evt.pos hlen hr)
        · exact Evt.neg (by omega) (Evt.pos h (Evt.pos hlen hr))
        · exact Evt.neg (by omega) (Evt.neg (by omega) (Evt.pos h (Evt.pos hlen hr)))
        · exact Evt.neg (by omega) (Evt.neg (by omega) (Evt.neg (by omega) (Evt.pos h (Evt.pos hlen hr))))
        · exact Evt.neg (by omega) (Evt.neg (by omega) (Evt.neg (by omega) (Evt.neg (by omega) (Evt.pos h (Evt.pos hlen hr)))))
        · exact Evt.neg (by omega) (Evt.neg (by omega) (Evt.neg (by omega) (Evt.neg (by omega) (Evt.neg (by omega) (Evt.pos h (Evt.pos hlen hr))))))
      refine ⟨fun h r hr => go (h c' (by simp)) r (i1 (fun y hy => h y (by simp at hy ⊢; exact .inr hy)) r hr), fun h => ?_⟩
      by_cases hg : okF (c'.toNat : Int)
      · exact go hg 0 (i2 (fun g => h (fun y hy => by
          rcases List.mem_cons.1 (show y ∈ c' :: (fPre rest ++ fPost rest) from hy) with e | e
          · rw [e]; exact hg
          · exact g y e)))
      · apply Evt.succ
        simp only [spec_FormRight.l0, h2, hw]
        unfold okF at hg
        exact Evt.pos hlt (Evt.pos (by omega) (Evt.neg hn63 (Evt.neg (by omega) (Evt.neg (by omega) (Evt.neg (by omega) (Evt.neg (by omega) (Evt.neg (by omega) (Evt.neg (by omega) (Evt.pure _)))))))))
theorem els_both (pre L : List UInt8) (hL : okL L) (hn : L.length ≤ 20000) (hp : pre.length ≤ L.length) (he : fewI els) (d : Nat) : ∀ i : Int, 0 ≤ i → i ≤ (els.length : Int) → i ≤ (L.length : Int) → (els.length : Int) - i ≤ d →
    ∃ r, Evt (fun k => spec_FormRight.l1 k (nums L) (pre.length : Int) i tag els) r ∧ Evt (fun k => impl_FormRight.l1 k (bs8 pre) (bs8 L) els (els.length : Int) i tag els) r := by
  have hel := he.1
  have hLs : ((bs8 L).size : Int) = (L.length : Int) := by rw [bs8_size]
  have hPs : ((bs8 pre).size : Int) = (pre.length : Int) := by rw [bs8_size]
  have hnl : (nums L).length = L.length := by simp [nums]
  have stop : ∃ r, Evt (fun k => spec_FormRight.l1 k (nums L) (pre.length : Int) (els.length : Int) tag els) r ∧ Evt (fun k => impl_FormRight.l1 k (bs8 pre) (bs8 L) els (els.length : Int) (els.length : Int) tag els) r := by
    by_cases g : (els.length : Int) < (pre.length : Int)
    · refine ⟨(els.length : Int), ?_, ?_⟩
      · apply Evt.succ
        simp only [spec_FormRight.l1]
        refine Evt.neg (by omega) ?_
        rw [decide_eq_true g]
        apply Evt.succ
        simp only [spec_FormRight.j3]
        exact Evt.pos (by simp) (Evt.pos (by omega) (Evt.pure _))
      · apply Evt.succ
        simp only [impl_FormRight.l1]
        exact Evt.neg (by omega) (Evt.pos (by omega) (Evt.pure _))
    · refine ⟨-1, ?_, ?_⟩
      · apply Evt.succ
        simp only [spec_FormRight.l1]
        refine Evt.neg (by omega) ?_
        rw [decide_eq_false g]
        apply Evt.succ
        simp only [spec_FormRight.j3]
        exact Evt.neg (by simp) (Evt.pure _)
      · apply Evt.succ
        simp only [impl_FormRight.l1]
        exact Evt.neg (by omega) (Evt.neg (by omega) (Evt.pure _))
  induction d with
  | zero =>
    intro i h0 h1 _ hd
    obtain rfl : i = (els.length : Int) := by omega
    exact stop
  | succ d ih =>
    intro i h0 h1 h2 hd
    by_cases hlt : i < (els.length : Int)
    · have hw : wrap64 (i + 1) = i + 1 := w64 (by omega) (by omega)
      have spec : ∀ r, Evt (fun k => if i ≥ (els.length : Int) then (some i) else (if i ≥ ((nums L).length : Int) then (some i) else (if 0 ≤ i then (if i < ((nums L).length : Int) then (if i < (els.length : Int) then ((spec_l04Element.f k (rd (nums L) i) ((rd_T65 els i).f0)).bind fun t173 => (if t173 = true then (spec_FormRight.l1 k (nums L) (pre.length : Int) (i + 1) tag els) else (some i))) else (none)) else (none)) else (none)))) r → Evt (fun k => spec_FormRight.l1 k (nums L) (pre.length : Int) i tag els) r := fun r hr => by
        apply Evt.succ
        simp only [spec_FormRight.l1]
        refine Evt.pos hlt ?_
        apply Evt.succ
        simp only [spec_FormRight.j3, hw]
        exact Evt.pos (by simp) hr
      have impl : ∀ r, Evt (fun k => if i = ((bs8 L).size : Int) then (some i) else (if (((rd_T65 els i).f0).length : Int) = 1 then (if i < ((bs8 L).size : Int) then (if 0 < (((rd_T65 els i).f0).length : Int) then ((impl_isOf.f k (bt (bs8 L) i) (rdOf ByteArray.empty ((rd_T65 els i).f0) 0)).bind fun t239 => (if t239 = true then (impl_FormRight.l1 k (bs8 pre) (bs8 L) els (els.length : Int) (i + 1) tag els) else (some i))) else (none)) else (none)) else (some i))) r → Evt (fun k => impl_FormRight.l1 k (bs8 pre) (bs8 L) els (els.length : Int) i tag els) r := fun r hr => by
        apply Evt.succ
        simp only [impl_FormRight.l1, hw]
        exact Evt.pos hlt (Evt.pos h0 (Evt.pos hlt hr))
      by_cases hi : i = (L.length : Int)
      · exact ⟨i, spec _ (Evt.neg (by omega) (Evt.pos (by omega) (Evt.pure _))), impl _ (Evt.pos (by omega) (Evt.pure _))⟩
      · have hiL : i < (L.length : Int) := by omega
        have hk := fewI_at he i h0 hlt
        have hc : okF (bt (bs8 L) i) := by
          obtain ⟨c, g1, g2⟩ := bt_get (bs8 L) i h0 (by omega)
          rw [g2]
          refine hL c (List.mem_of_getElem? (i := i.toNat) ?_)
          rw [show (bs8 L).data.toList = L by simp [bs8]] at g1
          exact g1
        by_cases h1' : (((rd_T65 els i).f0).length : Int) = 1
        · obtain ⟨b, hb1, hb2⟩ := el_ev (bt (bs8 L) i) hc _ h1' (hk.2 _ (rdT_mem _ 0 (Int.le_refl _) (by omega)))
          rw [← rd_nums] at hb1
          cases b with
          | true =>
            obtain ⟨r, r1, r2⟩ := ih (i + 1) (by omega) (by omega) (by omega) (by omega)
            exact ⟨r, spec _ (Evt.neg (by omega) (Evt.neg (by omega) (Evt.pos h0 (Evt.pos (by omega) (Evt.pos hlt (Evt.bind hb1 (Evt.pos rfl r1))))))), impl _ (Evt.neg (by omega) (Evt.pos h1' (Evt.pos (by omega) (Evt.pos (by omega) (Evt.bind hb2 (Evt.pos rfl r2))))))⟩
          | false =>
            exact ⟨i, spec _ (Evt.neg (by omega) (Evt.neg (by omega) (Evt.pos h0 (Evt.pos (by omega) (Evt.pos hlt (Evt.bind hb1 (Evt.neg (by decide) (Evt.pure _)))))))), impl _ (Evt.neg (by omega) (Evt.pos h1' (Evt.pos (by omega) (Evt.pos (by omega) (Evt.bind hb2 (Evt.neg (by decide) (Evt.pure _)))))))⟩
        · have hel' : Evt (fun k => spec_l04Element.f k (rd (nums L) i) ((rd_T65 els i).f0)) false := by
            unfold spec_l04Element.f
            exact Evt.neg h1' (Evt.pure _)
          exact ⟨i, spec _ (Evt.neg (by omega) (Evt.neg (by omega) (Evt.pos h0 (Evt.pos (by omega) (Evt.pos hlt (Evt.bind hel' (Evt.neg (by decide) (Evt.pure _)))))))), impl _ (Evt.neg (by omega) (Evt.neg h1' (Evt.pure _)))⟩
    · obtain rfl : i = (els.length : Int) := by omega
      exact stop
theorem six_iff (c : Int) (h0 : 0 ≤ c) (h1 : c ≤ 255) : (Lib.indexByte (⟨#[114, 110, 113, 122, 100, 116]⟩ : ByteArray).data.toList c.toNat.toUInt8 < 0) ↔ ¬ okF c := by
  rw [idx_neg]
  refine not_congr ?_
  have e : c.toNat.toUInt8.toNat = c.toNat := by
    rw [Nat.toUInt8_eq, UInt8.toNat_ofNat']
    omega
  have key : ∀ b : UInt8, c.toNat.toUInt8 = b ↔ c = (b.toNat : Int) := fun b => by
    rw [← UInt8.toNat_inj, e]
    omega
  show c.toNat.toUInt8 ∈ [(114 : UInt8), 110, 113, 122, 100, 116] ↔ _
  simp only [List.mem_cons, List.not_mem_nil, or_false, key]
  rfl
theorem form_both (form : ByteArray) (hf : form.size ≤ 1048576) (he : fewI els) : ∃ r, Evt (fun k => spec_FormRight.f k form tag els) r ∧ Evt (fun k => impl_FormRight.f k form tag els) r := by
  have hel := he.1
  have hcut : strings_Cut.f form (⟨#[63]⟩ : ByteArray) = some (bs8 (fPre form.data.toList), bs8 (fPost form.data.toList), (Lib.cut form.data.toList [63]).2.2) := by
    unfold strings_Cut.f
    rw [if_pos (by omega)]
    show some ((⟨(Lib.cut form.data.toList [63]).1.toArray⟩ : ByteArray), (⟨(Lib.cut form.data.toList [63]).2.1.toArray⟩ : ByteArray), (Lib.cut form.data.toList [63]).2.2) = _
    rw [(cut_63 _).1, (cut_63 _).2]
    rfl
  generalize hP : fPre form.data.toList = P at hcut
  generalize hR : fPost form.data.toList = R at hcut
  have hlen : P.length + R.length ≤ form.size := by
    rw [← data_length, ← hP, ← hR]
    unfold fPre fPost
    have := congrArg List.length (List.takeWhile_append_dropWhile (p := (· != 63)) (l := form.data.toList))
    rw [List.length_append] at this
    rw [List.length_tail]
    omega
  have hsz : ((bs8 (P ++ R)).size : Int) = ((P ++ R).length : Int) := by rw [bs8_size]
  have him : ∀ r, Evt (fun k => impl_FormRight.l0 k form (bs8 P) (bs8 (P ++ R)) ((bs8 (P ++ R)).size : Int) 0 tag els) r → Evt (fun k => impl_FormRight.f k form tag els) r := fun r hr => by
    unfold impl_FormRight.f
    simp only [hcut, Option.bind_some, bs8_app]
    refine Evt.pos (by rw [bs8_size, bs8_size]; omega) hr
  obtain ⟨p1, p2⟩ := pass_loop ((bs8 (P ++ R)).size : Int) (fun i => okF (bt (bs8 (P ++ R)) i)) (0 : Int) (fun k i => impl_FormRight.l0 k form (bs8 P) (bs8 (P ++ R)) ((bs8 (P ++ R)).size : Int) i tag els) (fun i h0 hlt => by
    have hw : wrap64 (i + 1) = i + 1 := w64 (by omega) (by rw [List.length_append] at hsz; omega)
    have hb := bt_range (bs8 (P ++ R)) i
    simp only [impl_FormRight.l0, strings_IndexByte.f, Option.bind_some, hw]
    exact ⟨fun hk r hr => Evt.pos hlt (Evt.pos h0 (Evt.pos hlt (Evt.neg (fun x => (six_iff _ hb.1 hb.2).1 x hk) hr))), fun hk => Evt.pos hlt (Evt.pos h0 (Evt.pos hlt (Evt.pos ((six_iff _ hb.1 hb.2).2 hk) (Evt.pure _))))⟩) (bs8 (P ++ R)).size 0 (Int.le_refl _) (by omega) (by omega)
  have hall : (∀ j : Int, 0 ≤ j → j < ((bs8 (P ++ R)).size : Int) → okF (bt (bs8 (P ++ R)) j)) ↔ okL (P ++ R) := by
    rw [all_bytes (bs8 (P ++ R)) okF, show (bs8 (P ++ R)).data.toList = P ++ R by simp [bs8]]
    rfl
  by_cases hbig : (form.size : Int) > 20000
  · refine ⟨0, ?_, ?_⟩
    · unfold spec_FormRight.f
      exact Evt.pos hbig (Evt.pure _)
    · by_cases hk : okL (P ++ R)
      · refine him _ (p1 (hall.2 hk) _ ?_)
        apply Evt.succ
        simp only [impl_FormRight.l0]
        exact Evt.neg (by omega) (Evt.bind (longText1_ev form) (Evt.pos (B_true hbig) (Evt.pure _)))
      · exact him _ (p2 (fun x => hk (hall.1 x)))
  · have hsm : form.size ≤ 20000 := by omega
    obtain ⟨s1, s2⟩ := form_one tag els form hsm form.data.toList [] rfl
    rw [hP, hR] at s1 s2
    have hsp : ∀ r, Evt (fun k => spec_FormRight.l0 k form (nums []) (-1) (([] : List UInt8).length : Int) tag els) r → Evt (fun k => spec_FormRight.f k form tag els) r := fun r hr => by
      unfold spec_FormRight.f
      exact Evt.neg hbig hr
    by_cases hk : okL (P ++ R)
    · obtain ⟨r, r1, r2⟩ := els_both tag els P (P ++ R) hk (by rw [List.length_append]; omega) (by simp) he els.length 0 (Int.le_refl _) (by omega) (by omega) (by omega)
      refine ⟨r, hsp _ (s1 hk _ ?_), him _ (p1 (hall.2 hk) _ ?_)⟩
      · apply Evt.succ
        simp only [spec_FormRight.j1]
        exact r1
      · apply Evt.succ
        simp only [impl_FormRight.l0]
        exact Evt.neg (by omega) (Evt.bind (longText1_ev form) (Evt.neg (by rw [B_false hbig]; decide) r2))
    · exact ⟨0, hsp _ (s2 hk), him _ (p2 (fun x => hk (hall.1 x)))⟩
end
end Go.Proofs.YtjbdljhjplidmaaDoor.QE
namespace Go.Proofs.YtjbdljhjplidmaaDoor.Pure
open Go.RowKit Go.Proofs.YtjbdljhjplidmaaDoor.QE Go.Proofs.YtjbdljhjplidmaaDoorW.PrintWords Go.Proofs.YtjbdljhjplidmaaDoor.Ev0
theorem FnExactFormRight : laws_FnExactFormRight.Pure := by
  intro form tag els w0 w1 w2
  have ht : tag.size ≤ 9223372036854775807 := by have : tag.size ≤ 2 ^ 63 - 1 := w1; omega
  apply Evt.ex
  unfold laws_FnExactFormRight.f
  refine Evt.ite (fun _ => Evt.pure true) (fun hf => ?_)
  have hE : okE els := okE_of (a := tag) ⟨w1, w2⟩
  obtain ⟨t, ht1, h⟩ := szSeg_ev tag els ht hE 1048576 (by decide) (by decide)
  refine Evt.bind ht1 (Evt.ite (fun _ => Evt.pure true) (fun t0 => ?_))
  obtain ⟨_, _, hfe⟩ := (h.resolve_left t0).2
  have hI := fewI_of hfe
  obtain ⟨r, r1, r2⟩ := form_both tag (els.map cvE) form (by omega) hI
  refine Evt.bind (toSeg_ev tag els hfe) (Evt.bind r1 (Evt.bind (toSeg_ev tag els hfe) (Evt.bind r2 (Evt.pos rfl (Evt.bind (toSeg_ev tag els hfe) (Evt.bind (eqSeg_refl tag _ hI) (Evt.pos (by simp) (Evt.pure true))))))))
end Go.Proofs.YtjbdljhjplidmaaDoor.Pure
