-- Merged by a program of this session (wip/tool/pack.py) out of its own texts for this claim.
import Derived.Lib.AtoiAll
import Derived.Lib.ItoaNum
import Derived.Lib.ParseIntBTie
import Derived.Lib.IndexMore
import Derived.Test.YtjbdljhjplidmaaDoorKFnExactTableCheck0
import Derived.Test.YtjbdljhjplidmaaDoorKFnExactTableCheck1
import Derived.Test.YtjbdljhjplidmaaDoorKFnExactTableCheck2
import Derived.Test.YtjbdljhjplidmaaDoorKFnExactTableCheck3
import Derived.Test.YtjbdljhjplidmaaDoorKFnExactTableCheck12
namespace Go.Proofs.YtjbdljhjplidmaaDoor.Num
def dig (c : UInt8) : Prop := 48 ≤ c.toNat ∧ c.toNat ≤ 57
def val (acc : Nat) : List UInt8 → Nat
  | [] => acc
  | c :: r => val (acc * 10 + (c.toNat - 48)) r
theorem val_ge (l : List UInt8) : ∀ acc, acc ≤ val acc l := by
  induction l with
  | nil => intro acc; exact Nat.le_refl _
  | cons c r ih => intro acc; exact Nat.le_trans (by omega) (ih _)
theorem val_snoc (l : List UInt8) (c : UInt8) : ∀ acc, val acc (l ++ [c]) = val acc l * 10 + (c.toNat - 48) := by
  induction l with
  | nil => intro acc; rfl
  | cons a r ih => intro acc; exact ih _
theorem parse_ok (l : List UInt8) : ∀ acc, (∀ c ∈ l, dig c) → val acc l ≤ 1000000000000000000 → Lib.parseUint10 acc l = .ok (val acc l) := by
  induction l with
  | nil => intro acc _ _; rfl
  | cons c r ih =>
    intro acc hd hv
    have hc := hd c (List.mem_cons_self ..)
    have hg := val_ge r (acc * 10 + (c.toNat - 48))
    have hv' : val (acc * 10 + (c.toNat - 48)) r ≤ 1000000000000000000 := hv
    unfold Lib.parseUint10
    rw [if_pos (show 48 ≤ c.toNat ∧ c.toNat ≤ 57 from hc), if_neg (by omega), if_neg (by omega)]
    exact ih _ (fun x hx => hd x (List.mem_cons_of_mem _ hx)) hv'
theorem parse_back (l : List UInt8) : ∀ acc u, Lib.parseUint10 acc l = .ok u → (∀ c ∈ l, dig c) ∧ u = val acc l := by
  induction l with
  | nil =>
    intro acc u h
    simp only [Lib.parseUint10] at h
    injection h with h
    exact ⟨by simp, h.symm⟩
  | cons c r ih =>
    intro acc u h
    unfold Lib.parseUint10 at h
    by_cases hc : 48 ≤ c.toNat ∧ c.toNat ≤ 57
    · rw [if_pos hc] at h
      by_cases h1 : 1844674407370955162 ≤ acc
      · rw [if_pos h1] at h; cases h
      · rw [if_neg h1] at h
        by_cases h2 : 18446744073709551616 ≤ acc * 10 + (c.toNat - 48)
        · rw [if_pos h2] at h; cases h
        · rw [if_neg h2] at h
          obtain ⟨g1, g2⟩ := ih _ _ h
          refine ⟨fun x hx => ?_, g2⟩
          rcases List.mem_cons.1 hx with rfl | hx
          · exact hc
          · exact g1 x hx
    · rw [if_neg hc] at h; cases h
theorem byte_of (v : Nat) (h : v < 10) : (UInt8.ofNat (48 + v)).toNat = 48 + v := by
  have : v = 0 ∨ v = 1 ∨ v = 2 ∨ v = 3 ∨ v = 4 ∨ v = 5 ∨ v = 6 ∨ v = 7 ∨ v = 8 ∨ v = 9 := by omega
  rcases this with rfl | rfl | rfl | rfl | rfl | rfl | rfl | rfl | rfl | rfl <;> rfl
theorem head_app {a b : List UInt8} (h : a ≠ []) : (a ++ b).head? = a.head? := by
  cases a with
  | nil => exact absurd rfl h
  | cons c r => rfl
theorem dec_facts (u : Nat) : (∀ c ∈ Lib.decDigits u, dig c) ∧ val 0 (Lib.decDigits u) = u ∧ Lib.decDigits u ≠ [] ∧ (0 < u → (Lib.decDigits u).head? ≠ some 48) := by
  induction u using Nat.strongRecOn with
  | ind u ih =>
    rw [Lib.decDigits]
    by_cases g : u < 10
    · rw [dif_pos g]
      have hb := byte_of u g
      refine ⟨fun c hc => ?_, ?_, by simp, fun hp => ?_⟩
      · rw [List.mem_singleton.1 hc]
        unfold dig
        omega
      · show 0 * 10 + ((UInt8.ofNat (48 + u)).toNat - 48) = u
        omega
      · intro h
        have h2 : UInt8.ofNat (48 + u) = 48 := by simpa using h
        have h3 := congrArg UInt8.toNat h2
        rw [hb] at h3
        have h4 : (48 : UInt8).toNat = 48 := rfl
        omega
    · rw [dif_neg g]
      obtain ⟨i1, i2, i3, i4⟩ := ih (u / 10) (by omega)
      have hb := byte_of (u % 10) (by omega)
      refine ⟨fun c hc => ?_, ?_, by simp, fun hp => ?_⟩
      · rcases List.mem_append.1 hc with hc | hc
        · exact i1 c hc
        · rw [List.mem_singleton.1 hc]
          unfold dig
          omega
      · rw [val_snoc, i2, hb]
        omega
      · rw [head_app i3]
        exact i4 (by omega)
theorem val_pos (l : List UInt8) : ∀ c r, l = c :: r → dig c → c ≠ 48 → 0 < val 0 l := by
  intro c r hl hc hn
  subst hl
  have h1 := val_ge r (0 * 10 + (c.toNat - 48))
  have h2 : c.toNat ≠ 48 := fun h => hn (UInt8.toNat_inj.1 h)
  have h3 : val 0 (c :: r) = val (0 * 10 + (c.toNat - 48)) r := rfl
  unfold dig at hc
  omega
theorem dec_back (n : Nat) : ∀ l : List UInt8, l.length = n → l ≠ [] → (∀ c ∈ l, dig c) → (l.head? ≠ some 48 ∨ l = [48]) → Lib.decDigits (val 0 l) = l := by
  induction n with
  | zero => intro l hl hn; exact absurd (List.eq_nil_of_length_eq_zero hl) hn
  | succ n ih =>
    intro l hl hn hd hh
    obtain ⟨m, c, rfl⟩ : ∃ m c, l = m ++ [c] := ⟨l.dropLast, l.getLast hn, (List.dropLast_concat_getLast hn).symm⟩
    have hc := hd c (by simp)
    have hcb : UInt8.ofNat (48 + (c.toNat - 48)) = c := by
      unfold dig at hc
      rw [show 48 + (c.toNat - 48) = c.toNat by omega]
      exact UInt8.ofNat_toNat
    rw [val_snoc]
    by_cases hm : m = []
    · subst hm
      have e : val 0 [] * 10 + (c.toNat - 48) = c.toNat - 48 := by show 0 * 10 + _ = _; omega
      rw [e, Lib.decDigits, dif_pos (by unfold dig at hc; omega), hcb]
      rfl
    · have hm48 : m.head? ≠ some 48 := by
        rcases hh with h | h
        · rwa [head_app hm] at h
        · exfalso
          have := congrArg List.length h
          exact hm (by simpa using this)
      have ih' := ih m (by simp at hl; exact hl) hm (fun x hx => hd x (List.mem_append_left _ hx)) (.inl hm48)
      have hp : 0 < val 0 m := by
        cases m with
        | nil => exact absurd rfl hm
        | cons a r => exact val_pos _ a r rfl (hd a (by simp)) (fun h => hm48 (by rw [h]; rfl))
      have hlt : c.toNat - 48 < 10 := by unfold dig at hc; omega
      rw [Lib.decDigits, dif_neg (by omega), show (val 0 m * 10 + (c.toNat - 48)) / 10 = val 0 m by omega, show (val 0 m * 10 + (c.toNat - 48)) % 10 = c.toNat - 48 by omega, ih', hcb]
def digs (t : List UInt8) : List UInt8 := if t.head? = some 45 then t.tail else t
def isNum (t : List UInt8) : Prop := digs t ≠ [] ∧ (∀ c ∈ digs t, dig c) ∧ ((digs t).head? ≠ some 48 ∨ t = [48])
def valT (t : List UInt8) : Int := if t.head? = some 45 then -(val 0 (digs t) : Int) else (val 0 (digs t) : Int)
theorem num_itoa (t : List UInt8) (h : isNum t) : Lib.itoa (valT t) = t := by
  obtain ⟨h1, h2, h3⟩ := h
  unfold valT digs at *
  by_cases hn : t.head? = some 45
  · rw [if_pos hn] at h1 h2 h3 ⊢
    rw [if_pos hn]
    cases t with
    | nil => cases hn
    | cons a r =>
      have ha : a = 45 := by simpa using hn
      subst ha
      have h4 : r.head? ≠ some 48 := h3.resolve_right (by simp)
      have hb := dec_back r.length r rfl h1 h2 (.inl h4)
      have hp : 0 < val 0 r := by
        cases r with
        | nil => exact absurd rfl h1
        | cons b q => exact val_pos _ b q rfl (h2 b (by simp)) (fun h => h4 (by rw [h]; rfl))
      unfold Lib.itoa
      show (if (-(val 0 r : Int)) < 0 then 45 :: Lib.decDigits (-(val 0 r : Int)).natAbs else _) = 45 :: r
      rw [if_pos (by omega), show (-(val 0 r : Int)).natAbs = val 0 r by omega, hb]
  · rw [if_neg hn] at h1 h2 h3 ⊢
    rw [if_neg hn]
    have hb := dec_back t.length t rfl h1 h2 (h3.imp id id)
    unfold Lib.itoa
    rw [if_neg (by omega), show ((val 0 t : Int)).toNat = val 0 t by omega, hb]
theorem itoa_num (t : List UInt8) (hd : ∀ c ∈ digs t, dig c) (h : Lib.itoa (valT t) = t) : isNum t := by
  unfold isNum
  unfold valT digs at *
  by_cases hn : t.head? = some 45
  · rw [if_pos hn] at hd h ⊢
    rw [if_pos hn] at h
    cases t with
    | nil => cases hn
    | cons a r =>
      have ha : a = 45 := by simpa using hn
      subst ha
      have h' : Lib.itoa (-(val 0 r : Int)) = 45 :: r := h
      unfold Lib.itoa at h'
      by_cases hz : val 0 r = 0
      · rw [hz, if_neg (by omega)] at h'
        have e : (-((0 : Nat) : Int)).toNat = 0 := rfl
        rw [e, Lib.decDigits, dif_pos (by decide)] at h'
        have := congrArg List.head? h'
        simp at this
      · rw [if_pos (by omega), show (-(val 0 r : Int)).natAbs = val 0 r by omega] at h'
        have hr : Lib.decDigits (val 0 r) = r := by simpa using h'
        obtain ⟨_, _, d3, d4⟩ := dec_facts (val 0 r)
        rw [hr] at d3 d4
        exact ⟨d3, hd, .inl (d4 (by omega))⟩
  · rw [if_neg hn] at hd h ⊢
    rw [if_neg hn] at h
    unfold Lib.itoa at h
    rw [if_neg (by omega), show ((val 0 t : Int)).toNat = val 0 t by omega] at h
    obtain ⟨_, _, d3, d4⟩ := dec_facts (val 0 t)
    rw [h] at d3 d4
    refine ⟨d3, hd, ?_⟩
    by_cases hz : val 0 t = 0
    · rw [hz, Lib.decDigits, dif_pos (by decide)] at h
      exact .inr h.symm
    · exact .inl (d4 (by omega))
theorem num_parse (t : List UInt8) (h : isNum t) (hv : val 0 (digs t) ≤ 1000000000000000000) : Lib.atoiAll t = .ok (valT t) := by
  obtain ⟨h1, h2, h3⟩ := h
  unfold valT digs at *
  cases t with
  | nil => simp at h1
  | cons a r =>
    by_cases ha : a = 45
    · subst ha
      have hn : ((45 : UInt8) :: r).head? = some 45 := rfl
      rw [if_pos hn] at h1 h2 hv ⊢
      rw [if_pos hn]
      have hr : r ≠ [] := h1
      have hp := parse_ok r 0 h2 hv
      have hv' : val 0 r ≤ 1000000000000000000 := hv
      unfold Lib.atoiAll Lib.parseMag
      have e45 : (45 : UInt8).toNat = 45 := rfl
      simp only [e45, or_true, if_true, if_neg hr, hp, not_true, false_and, if_false, true_and]
      rw [if_neg (by omega)]
      rfl
    · have hn : ¬ (a :: r).head? = some 45 := by simpa using ha
      rw [if_neg hn] at h1 h2 hv ⊢
      rw [if_neg hn]
      have hda := h2 a (by simp)
      unfold dig at hda
      have hp := parse_ok (a :: r) 0 h2 hv
      unfold Lib.atoiAll Lib.parseMag
      have e2 : ¬ a.toNat = 45 := by omega
      have e5 : ¬ a.toNat = 43 := by omega
      have e4 : ¬ (a :: r) = [] := by simp
      simp only [e5, e2, or_self, if_false, if_neg e4, hp, not_false_eq_true, true_and, false_and]
      rw [if_neg (by omega)]
theorem parse_num (t : List UInt8) (h : isNum t) (v : Int) (hp : Lib.atoiAll t = .ok v) : v = valT t := by
  obtain ⟨h1, h2, h3⟩ := h
  unfold valT digs at *
  cases t with
  | nil => simp at h1
  | cons a r =>
    unfold Lib.atoiAll Lib.parseMag at hp
    by_cases ha : a = 45
    · subst ha
      have hn : ((45 : UInt8) :: r).head? = some 45 := rfl
      rw [if_pos hn] at h1 h2 ⊢
      rw [if_pos hn]
      have e45 : (45 : UInt8).toNat = 45 := rfl
      have hr : r ≠ [] := h1
      simp only [e45, or_true, if_true, if_neg hr, not_true, false_and, if_false, true_and] at hp
      cases hq : Lib.parseUint10 0 r with
      | «syntax» => rw [hq] at hp; cases hp
      | range => rw [hq] at hp; cases hp
      | ok u =>
        rw [hq] at hp
        simp only at hp
        obtain ⟨_, rfl⟩ := parse_back r 0 u hq
        by_cases hb : 9223372036854775808 < val 0 r
        · rw [if_pos hb] at hp; cases hp
        · rw [if_neg hb] at hp
          injection hp with hp
          exact hp.symm
    · have hn : ¬ (a :: r).head? = some 45 := by simpa using ha
      rw [if_neg hn] at h1 h2 ⊢
      rw [if_neg hn]
      have hda := h2 a (by simp)
      unfold dig at hda
      have e2 : ¬ a.toNat = 45 := by omega
      have e5 : ¬ a.toNat = 43 := by omega
      have e4 : ¬ (a :: r) = [] := by simp
      simp only [e5, e2, or_self, if_false, if_neg e4, not_false_eq_true, true_and, false_and] at hp
      cases hq : Lib.parseUint10 0 (a :: r) with
      | «syntax» => rw [hq] at hp; cases hp
      | range => rw [hq] at hp; cases hp
      | ok u =>
        rw [hq] at hp
        simp only at hp
        obtain ⟨_, rfl⟩ := parse_back (a :: r) 0 u hq
        by_cases hb : 9223372036854775808 ≤ val 0 (a :: r)
        · rw [if_pos hb] at hp; cases hp
        · rw [if_neg hb] at hp
          injection hp with hp
          exact hp.symm
theorem dec_len (d : Nat) : ∀ u : Nat, 0 < d → u < 10 ^ d → (Lib.decDigits u).length ≤ d := by
  induction d with
  | zero => intro u h; omega
  | succ d ih =>
    intro u _ hu
    rw [Lib.decDigits]
    by_cases g : u < 10
    · rw [dif_pos g]; simp
    · rw [dif_neg g, List.length_append, List.length_singleton]
      have h1 : u / 10 < 10 ^ d := by rw [Nat.pow_succ] at hu; omega
      have h2 : 0 < d := by
        rcases Nat.eq_zero_or_pos d with z | z
        · subst z; simp at h1; omega
        · exact z
      have := ih (u / 10) h2 h1
      omega
theorem num_len (t : List UInt8) (h : isNum t) (hv : val 0 (digs t) < 1000000000000) : (digs t).length ≤ 12 := by
  obtain ⟨h1, h2, h3⟩ := h
  have h4 : (digs t).head? ≠ some 48 ∨ digs t = [48] := h3.imp id (fun h => by subst h; rfl)
  rw [← dec_back _ _ rfl h1 h2 h4]
  exact dec_len 12 _ (by decide) (by omega)
end Go.Proofs.YtjbdljhjplidmaaDoor.Num
namespace Go.Proofs.YtjbdljhjplidmaaDoor.QF
open Go.RowKit Go.Proofs.YtjbdljhjplidmaaDoorW.PrintWords Go.Proofs.YtjbdljhjplidmaaDoor.Ev0 Go.Proofs.YtjbdljhjplidmaaDoor.Num
theorem bt_get (s : ByteArray) (i : Int) (h0 : 0 ≤ i) (h : i < (s.size : Int)) : ∃ c, s.data.toList[i.toNat]? = some c ∧ bt s i = (c.toNat : Int) := by
  have h' : i.toNat < s.size := by omega
  have h2 : i.toNat < s.data.toList.length := by rw [data_length]; exact h'
  refine ⟨s.data.toList[i.toNat], List.getElem?_eq_getElem h2, ?_⟩
  rw [← bt_at s i h']
  simp only [Array.getElem_toList]
  rfl
theorem all_bytes (s : ByteArray) (p : Int → Prop) : (∀ i, 0 ≤ i → i < (s.size : Int) → p (bt s i)) ↔ ∀ c ∈ s.data.toList, p (c.toNat : Int) := by
  constructor
  · intro h c hc
    obtain ⟨j, hj, rfl⟩ := List.mem_iff_getElem.1 hc
    have hj' : j < s.size := by rw [← data_length]; exact hj
    obtain ⟨c', h1, h2⟩ := bt_get s (j : Int) (by omega) (by omega)
    rw [Int.toNat_natCast, List.getElem?_eq_getElem hj] at h1
    rw [Option.some.inj h1, ← h2]
    exact h _ (by omega) (by omega)
  · intro h i h0 h1
    obtain ⟨c, h2, h3⟩ := bt_get s i h0 h1
    rw [h3]
    exact h c (List.mem_of_getElem? h2)
theorem head_bt (s : ByteArray) (h : 0 < s.size) (b : UInt8) : s.data.toList.head? = some b ↔ bt s 0 = (b.toNat : Int) := by
  obtain ⟨c, h1, h2⟩ := bt_get s 0 (by omega) (by omega)
  rw [h2, List.head?_eq_getElem?]
  rw [show ((0 : Int).toNat) = 0 from rfl] at h1
  rw [h1]
  constructor
  · intro e; rw [Option.some.inj e]
  · intro e
    congr 1
    exact UInt8.toNat_inj.1 (by omega)
theorem tail_extract (s : ByteArray) : (s.extract 1 s.size).data.toList = s.data.toList.tail := by
  cases s with | mk x =>
  cases x with | mk l =>
  cases l with
  | nil => simp [ByteArray.size]
  | cons a r => simp [ByteArray.size]
theorem str_of (s : ByteArray) (l : List UInt8) : s.toList = l ↔ s.data.toList = l := by rw [Lib.toList_data]
theorem size_nil (s : ByteArray) : s.data.toList = [] ↔ s.size = 0 := by
  rw [← data_length]
  exact List.eq_nil_iff_length_eq_zero
theorem dig_int (c : UInt8) : dig c ↔ 48 ≤ (c.toNat : Int) ∧ (c.toNat : Int) ≤ 57 := by unfold dig; omega
theorem digs_some (s : ByteArray) : (s.size ≠ 0 ∧ bt s 0 = 45 → digs s.data.toList = (s.extract 1 s.size).data.toList) ∧ (¬ (s.size ≠ 0 ∧ bt s 0 = 45) → digs s.data.toList = s.data.toList) := by
  unfold digs
  constructor
  · rintro ⟨h0, h⟩
    rw [if_pos ((head_bt s (by omega) 45).2 h), tail_extract]
  · intro h
    rw [if_neg]
    intro e
    have h0 : s.size ≠ 0 := fun z => by rw [(size_nil s).2 z] at e; cases e
    exact h ⟨h0, (head_bt s (by omega) 45).1 e⟩
theorem implNum_l (s d : ByteArray) (hd : (d.size : Int) ≤ 9223372036854775807) (hdig : digs s.data.toList = d.data.toList) :
    Evt (fun k => impl_isNumber.l0 k s d (d.size : Int) 0) (B (isNum s.data.toList)) := by
  refine (right_loop (d.size : Int) (by omega) (fun i => 48 ≤ bt d i ∧ bt d i ≤ 57) (d.size ≠ 0 ∧ (bt d 0 ≠ 48 ∨ s.data.toList = [48])) (fun k i => impl_isNumber.l0 k s d (d.size : Int) i) ?_ ?_).same (B_congr ?_)
  · intro i h0 hlt
    have hw : wrap64 (i + 1) = i + 1 := w64 (by omega) (by omega)
    simp only [impl_isNumber.l0, isDigit_ev, Option.bind_some, hw]
    exact ⟨fun hk r hr => Evt.pos hlt (Evt.pos h0 (Evt.pos hlt (Evt.pos (B_true hk) hr))), fun hk => Evt.pos hlt (Evt.pos h0 (Evt.pos hlt (Evt.neg (by rw [B_false hk]; decide) (Evt.pure _))))⟩
  · simp only [impl_isNumber.l0]
    refine Evt.neg (by omega) (Evt.ite (fun h => (Evt.pure _).same (B_false (fun x => x.1 ((size_nil d).1 ((str_of d _).1 h)))).symm) (fun h => ?_))
    have hz : d.size ≠ 0 := fun z => h ((str_of d _).2 ((size_nil d).2 z))
    refine Evt.pos (by omega) (Evt.ite (fun h1 => (Evt.pure _).same ?_) (fun h1 => (Evt.pure _).same (B_true ⟨hz, .inl h1⟩).symm))
    refine bool_B ?_
    rw [beq_iff_eq, str_of]
    exact ⟨fun e => ⟨hz, .inr e⟩, fun e => e.2.resolve_left (fun x => x h1)⟩
  · unfold isNum
    rw [hdig]
    constructor
    · rintro ⟨h1, h2, h3⟩
      refine ⟨fun e => h2 ((size_nil d).1 e), fun c hc => (dig_int c).2 ((all_bytes d (fun x => 48 ≤ x ∧ x ≤ 57)).1 h1 c hc), h3.imp (fun h e => h ((head_bt d (by omega) 48).1 e)) id⟩
    · rintro ⟨h1, h2, h3⟩
      have hz : d.size ≠ 0 := fun z => h1 ((size_nil d).2 z)
      exact ⟨(all_bytes d (fun x => 48 ≤ x ∧ x ≤ 57)).2 (fun c hc => (dig_int c).1 (h2 c hc)), hz, h3.imp (fun h e => h ((head_bt d (by omega) 48).2 e)) id⟩
theorem extract_size (s : ByteArray) : ((s.extract 1 s.size).size : Int) ≤ s.size := by
  rw [← data_length, tail_extract, List.length_tail, data_length]
  omega
theorem implNum_ev (s : ByteArray) (hs : (s.size : Int) ≤ 9223372036854775807) : Evt (fun k => impl_isNumber.f k s) (B (isNum s.data.toList)) := by
  unfold impl_isNumber.f
  have he := extract_size s
  have no : ¬ (s.size ≠ 0 ∧ bt s 0 = 45) → Evt (fun k => impl_isNumber.j0 k s s false) (B (isNum s.data.toList)) := fun h => by
    apply Evt.succ
    simp only [impl_isNumber.j0]
    refine Evt.neg (by decide) ?_
    apply Evt.succ
    simp only [impl_isNumber.j1]
    exact implNum_l s s hs ((digs_some s).2 h)
  refine Evt.ite (fun h => no (fun x => x.1 ((size_nil s).1 ((str_of s _).1 h)))) (fun h => ?_)
  have hz : s.size ≠ 0 := fun z => h ((str_of s _).2 ((size_nil s).2 z))
  refine Evt.pos (by omega) ?_
  by_cases h1 : bt s 0 = 45
  · rw [show (bt s 0 == 45) = true by rw [h1]; rfl]
    apply Evt.succ
    simp only [impl_isNumber.j0]
    refine Evt.pos (by simp) (Evt.pos (by omega) ?_)
    apply Evt.succ
    simp only [impl_isNumber.j1]
    exact implNum_l s _ (by omega) ((digs_some s).1 ⟨hz, h1⟩)
  · rw [show (bt s 0 == 45) = false by simpa using h1]
    exact no (fun x => h1 x.2)
theorem val_lt (l : List UInt8) : ∀ acc, (∀ c ∈ l, dig c) → val acc l + 1 ≤ (acc + 1) * 10 ^ l.length := by
  induction l with
  | nil =>
    intro acc _
    show acc + 1 ≤ (acc + 1) * 1
    omega
  | cons c r ih =>
    intro acc h
    have hc := h c (List.mem_cons_self ..)
    have := ih (acc * 10 + (c.toNat - 48)) (fun x hx => h x (List.mem_cons_of_mem _ hx))
    unfold dig at hc
    have e : val acc (c :: r) = val (acc * 10 + (c.toNat - 48)) r := rfl
    rw [e, List.length_cons, Nat.pow_succ]
    refine Nat.le_trans this ?_
    have h2 : acc * 10 + (c.toNat - 48) + 1 ≤ (acc + 1) * 10 := by omega
    calc (acc * 10 + (c.toNat - 48) + 1) * 10 ^ r.length ≤ ((acc + 1) * 10) * 10 ^ r.length := Nat.mul_le_mul_right _ h2
      _ = (acc + 1) * (10 ^ r.length * 10) := by rw [Nat.mul_assoc, Nat.mul_comm 10]
theorem val_small (l : List UInt8) (h : ∀ c ∈ l, dig c) (hl : l.length ≤ 12) : val 0 l < 1000000000000 := by
  have h1 := val_lt l 0 h
  have h2 : 10 ^ l.length ≤ 10 ^ 12 := Nat.pow_le_pow_right (by decide) hl
  omega
theorem specNum_l (s d : ByteArray) (neg : Bool) (hd : d.size ≤ 12) (post : List UInt8) : ∀ pre, d.data.toList = pre ++ post → (∀ c ∈ pre, dig c) →
    ((∀ c ∈ post, dig c) → ∀ r, Evt (fun k => if neg = true then ((spec_l01Dec.f k (wrap64 (-(val 0 d.data.toList : Int)))).bind fun t139 => (some (wrap64 (-(val 0 d.data.toList : Int)), (t139.toList == s.toList)))) else ((spec_l01Dec.f k (val 0 d.data.toList : Int)).bind fun t140 => (some ((val 0 d.data.toList : Int), (t140.toList == s.toList))))) r → Evt (fun k => spec_l01Num.l0 k s neg d (val 0 pre : Int) (pre.length : Int)) r) ∧
    (¬ (∀ c ∈ post, dig c) → Evt (fun k => spec_l01Num.l0 k s neg d (val 0 pre : Int) (pre.length : Int)) (0, false)) := by
  induction post with
  | nil =>
    intro pre hp hpre
    have hp' : d.data.toList = pre := by simpa using hp
    have hl : d.size = pre.length := by rw [← data_length, hp']
    refine ⟨fun _ r hr => ?_, fun h => absurd (by simp) h⟩
    apply Evt.succ
    simp only [spec_l01Num.l0]
    refine Evt.neg (by omega) ?_
    rw [hp'] at hr
    exact hr
  | cons c post ih =>
    intro pre hp hpre
    have hl : d.size = pre.length + (post.length + 1) := by rw [← data_length, hp]; simp
    have hlt : (pre.length : Int) < (d.size : Int) := by omega
    obtain ⟨c', h1, h2⟩ := bt_get d (pre.length : Int) (by omega) hlt
    have hc : c' = c := by
      rw [hp, Int.toNat_natCast] at h1
      simpa using h1.symm
    subst hc
    have go : dig c' → ∀ r, Evt (fun k => spec_l01Num.l0 k s neg d (val 0 (pre ++ [c']) : Int) ((pre ++ [c']).length : Int)) r → Evt (fun k => spec_l01Num.l0 k s neg d (val 0 pre : Int) (pre.length : Int)) r := fun hg r hr => by
      have hs := val_small pre hpre (by omega)
      have hg' := hg
      unfold dig at hg'
      apply Evt.succ
      simp only [spec_l01Num.l0, h2]
      refine Evt.pos hlt (Evt.pos (by omega) (Evt.neg (by omega) (Evt.neg (by omega) ?_)))
      have e1 : wrap64 (wrap64 (10 * (val 0 pre : Int)) + (((c'.toNat : Int) - 48) % 256)) = (val 0 (pre ++ [c']) : Int) := by
        rw [val_snoc, w64 (x := 10 * (val 0 pre : Int)) (by omega) (by omega), w64 (by omega) (by omega)]
        omega
      have e2 : wrap64 ((pre.length : Int) + 1) = ((pre ++ [c']).length : Int) := by
        rw [w64 (by omega) (by omega)]
        simp
      rw [e1, e2]
      exact hr
    refine ⟨fun h r hr => ?_, fun h => ?_⟩
    · have hg := h c' (List.mem_cons_self ..)
      exact go hg r ((ih (pre ++ [c']) (by rw [hp]; simp) (fun x hx => (List.mem_append.1 hx).elim (hpre x) (fun y => by rw [List.mem_singleton.1 y]; exact hg))).1 (fun x hx => h x (List.mem_cons_of_mem _ hx)) r hr)
    · by_cases hg : dig c'
      · exact go hg _ ((ih (pre ++ [c']) (by rw [hp]; simp) (fun x hx => (List.mem_append.1 hx).elim (hpre x) (fun y => by rw [List.mem_singleton.1 y]; exact hg))).2 (fun x => h (fun y hy => (List.mem_cons.1 hy).elim (fun e => by rw [e]; exact hg) (x y))))
      · apply Evt.succ
        simp only [spec_l01Num.l0, h2]
        refine Evt.pos hlt (Evt.pos (by omega) ?_)
        by_cases g : (c'.toNat : Int) < 48
        · exact Evt.pos g (Evt.pure _)
        · refine Evt.neg g (Evt.pos ?_ (Evt.pure _))
          rw [dig_int] at hg
          omega
theorem l01Num_ev (s : ByteArray) (hs : (s.size : Int) ≤ 9223372036854775807) : ∃ v, Evt (fun k => spec_l01Num.f k s) (v, B (isNum s.data.toList ∧ (digs s.data.toList).length ≤ 12)) ∧ (isNum s.data.toList → (digs s.data.toList).length ≤ 12 → v = valT s.data.toList) := by
  unfold spec_l01Num.f
  have core : ∀ (neg : Bool) (d : ByteArray), digs s.data.toList = d.data.toList → (neg = true ↔ s.data.toList.head? = some 45) →
      ∃ v, Evt (fun k => spec_l01Num.j1 k s neg d) (v, B (isNum s.data.toList ∧ (digs s.data.toList).length ≤ 12)) ∧ (isNum s.data.toList → (digs s.data.toList).length ≤ 12 → v = valT s.data.toList) := fun neg d hdig hneg => by
    have hdl : (digs s.data.toList).length = d.size := by rw [hdig, data_length]
    by_cases h1 : d.size < 1
    · refine ⟨0, ?_, fun h => absurd ?_ h.1⟩
      · apply Evt.succ
        simp only [spec_l01Num.j1]
        refine Evt.pos (by omega) ?_
        apply Evt.succ
        simp only [spec_l01Num.j2]
        refine Evt.pos (by simp) ((Evt.pure _).same (congrArg _ (B_false (fun h => h.1.1 ?_)).symm))
        rw [hdig]; exact (size_nil d).2 (by omega)
      · rw [hdig]; exact (size_nil d).2 (by omega)
    · by_cases h2 : 12 < d.size
      · refine ⟨0, ?_, fun _ h => absurd h (by omega)⟩
        apply Evt.succ
        simp only [spec_l01Num.j1]
        refine Evt.neg (by omega) ?_
        rw [decide_eq_true (show (d.size : Int) > 12 by omega)]
        apply Evt.succ
        simp only [spec_l01Num.j2]
        exact Evt.pos (by simp) ((Evt.pure _).same (congrArg _ (B_false (fun h => by have := h.2; omega)).symm))
      · have head : ∀ r, Evt (fun k => spec_l01Num.l0 k s neg d 0 0) r → Evt (fun k => spec_l01Num.j1 k s neg d) r := fun r hr => by
          apply Evt.succ
          simp only [spec_l01Num.j1]
          refine Evt.neg (by omega) ?_
          rw [decide_eq_false (show ¬ (d.size : Int) > 12 by omega)]
          apply Evt.succ
          simp only [spec_l01Num.j2]
          exact Evt.neg (by decide) hr
        obtain ⟨l1, l2⟩ := specNum_l s d neg (by omega) d.data.toList [] rfl (by simp)
        by_cases hd : ∀ c ∈ d.data.toList, dig c
        · have hv := val_small d.data.toList hd (by rw [data_length]; omega)
          have hvT : valT s.data.toList = if neg = true then -(val 0 d.data.toList : Int) else (val 0 d.data.toList : Int) := by
            unfold valT
            rw [hdig]
            by_cases hn : neg = true
            · rw [if_pos (hneg.1 hn), if_pos hn]
            · rw [if_neg (fun e => hn (hneg.2 e)), if_neg hn]
          have hB : ∀ x : List UInt8, x = Lib.itoa (valT s.data.toList) → ((bs8 x).toList == s.toList) = B (isNum s.data.toList ∧ (digs s.data.toList).length ≤ 12) := fun x hx => by
            refine bool_B ?_
            rw [beq_iff_eq, Lib.toList_data, Lib.toList_data, show (bs8 x).data.toList = x by simp [bs8], hx]
            exact ⟨fun e => ⟨itoa_num _ (by rw [hdig]; exact hd) e, by omega⟩, fun e => num_itoa _ e.1⟩
          refine ⟨valT s.data.toList, head _ (l1 hd _ ?_), fun _ _ => rfl⟩
          cases neg with
          | true =>
            rw [if_pos rfl] at hvT
            refine Evt.pos (by simp) ?_
            rw [w64 (by omega) (by omega)]
            refine Evt.bind (l01Dec_ev _ (by omega) (by omega)) ((Evt.pure _).same ?_)
            rw [hB _ (by rw [hvT]), hvT]
          | false =>
            rw [if_neg (by decide)] at hvT
            refine Evt.neg (by decide) (Evt.bind (l01Dec_ev _ (by omega) (by omega)) ((Evt.pure _).same ?_))
            rw [hB _ (by rw [hvT]), hvT]
        · exact ⟨0, head _ ((l2 hd).same (congrArg _ (B_false (fun h => hd (by have := h.1.2.1; rwa [hdig] at this))).symm)), fun h => absurd (by have := h.2.1; rwa [hdig] at this) hd⟩
  by_cases hz : s.size = 0
  · obtain ⟨v, h1, h2⟩ := core false s ((digs_some s).2 (fun x => x.1 hz)) ⟨fun e => (by cases e), fun e => by rw [(size_nil s).2 hz] at e; cases e⟩
    refine ⟨v, Evt.neg (by omega) ?_, h2⟩
    apply Evt.succ
    simp only [spec_l01Num.j0]
    exact Evt.neg (by decide) h1
  · by_cases h0 : bt s 0 = 45
    · obtain ⟨v, h1, h2⟩ := core true _ ((digs_some s).1 ⟨hz, h0⟩) ⟨fun _ => (head_bt s (by omega) 45).2 h0, fun _ => rfl⟩
      refine ⟨v, Evt.pos (by omega) (Evt.pos (by omega) ?_), h2⟩
      rw [show (bt s 0 == 45) = true by rw [h0]; rfl]
      apply Evt.succ
      simp only [spec_l01Num.j0]
      exact Evt.pos (by simp) (Evt.pos (by omega) h1)
    · obtain ⟨v, h1, h2⟩ := core false s ((digs_some s).2 (fun x => h0 x.2)) ⟨fun e => (by cases e), fun e => absurd ((head_bt s (by omega) 45).1 e) h0⟩
      refine ⟨v, Evt.pos (by omega) (Evt.pos (by omega) ?_), h2⟩
      rw [show (bt s 0 == 45) = false by simpa using h0]
      apply Evt.succ
      simp only [spec_l01Num.j0]
      exact Evt.neg (by decide) h1
theorem numberIn_ev (s : ByteArray) (hs : s.size ≤ 281474976710656) (lo hi : Int) (h0 : -1000000000 ≤ lo) (h1 : hi ≤ 1000000000) :
    ∃ v, Evt (fun k => impl_numberIn.f k s lo hi) (v, B (isNum s.data.toList ∧ lo ≤ valT s.data.toList ∧ valT s.data.toList ≤ hi)) ∧ (isNum s.data.toList ∧ lo ≤ valT s.data.toList ∧ valT s.data.toList ≤ hi → v = valT s.data.toList) := by
  unfold impl_numberIn.f
  rw [Lib.parseIntB_64]
  have small : isNum s.data.toList → lo ≤ valT s.data.toList → valT s.data.toList ≤ hi → Lib.atoiAll s.data.toList = .ok (valT s.data.toList) := fun h g0 g1 => by
    refine num_parse _ h ?_
    unfold valT at g0 g1
    split at g0 <;> rename_i e
    · rw [if_pos e] at g1; omega
    · rw [if_neg e] at g1; omega
  cases ha : Lib.atoiAll s.data.toList with
  | ok v =>
    refine ⟨v, Evt.pos hs (Evt.bind (implNum_ev s (by omega)) ?_), fun h => parse_num _ h.1 v ha⟩
    by_cases hn : isNum s.data.toList
    · have hv := parse_num _ hn v ha
      refine Evt.pos (B_true hn) ?_
      rw [within_ev, hv]
      exact (Evt.pure _).same (congrArg _ (B_congr ⟨fun h => ⟨hn, h⟩, fun h => h.2⟩))
    · exact Evt.neg (by rw [B_false hn]; decide) ((Evt.pure _).same (congrArg _ (B_false (fun h => hn h.1)).symm))
  | «syntax» => exact ⟨0, Evt.pos hs ((Evt.pure _).same (congrArg _ (B_false (fun h => by rw [small h.1 h.2.1 h.2.2] at ha; cases ha)).symm)), fun h => by rw [small h.1 h.2.1 h.2.2] at ha; cases ha⟩
  | range => exact ⟨_, Evt.pos hs ((Evt.pure _).same (congrArg _ (B_false (fun h => by rw [small h.1 h.2.1 h.2.2] at ha; cases ha)).symm)), fun h => by rw [small h.1 h.2.1 h.2.2] at ha; cases ha⟩
end Go.Proofs.YtjbdljhjplidmaaDoor.QF
namespace Go.Proofs.YtjbdljhjplidmaaDoor.QF
open Go.RowKit Go.Proofs.YtjbdljhjplidmaaDoorW.PrintWords Go.Proofs.YtjbdljhjplidmaaDoor.Ev0
def okT (l : List ByteArray) : Prop := l.length ≤ 9223372036854775807 ∧ ∀ x ∈ l, x.size ≤ 9223372036854775807
def fewT (l : List ByteArray) : Prop := l.length ≤ 1048576 ∧ ∀ x ∈ l, x.size ≤ 1048576
theorem rdT_mem (l : List ByteArray) (i : Int) (h0 : 0 ≤ i) (h : i < (l.length : Int)) : rdOf ByteArray.empty l i ∈ l := by
  unfold rdOf
  rw [getD_at l _ _ (by omega)]
  exact List.getElem_mem _
theorem all_at {α : Type} (l : List α) (z : α) (p : α → Prop) (h : ∀ i : Int, 0 ≤ i → i < (l.length : Int) → p (l.getD i.toNat z)) : ∀ x ∈ l, p x := by
  intro x hx
  obtain ⟨q, hq, rfl⟩ := List.mem_iff_getElem.1 hx
  have := h (q : Int) (by omega) (by omega)
  rw [Int.toNat_natCast, getD_at l z _ hq] at this
  exact this
theorem szT_ev (l : List ByteArray) (hl : okT l) (left : Int) (h0 : 0 ≤ left) (h1 : left ≤ 1048576) : SzR (fun k => laws_szStringS.f k l left) left (fewT l) := by
  have key := sz_loop l.length hl.1 (fun i => (rdOf ByteArray.empty l i).size ≤ 1048576) (fun k => laws_szStringS.f k l left) (fun k s i => laws_szStringS.l0 k l s i) left h0 h1 (fun k => rfl) ?_ ?_
  · obtain ⟨t, ht, h⟩ := key
    exact ⟨t, ht, h.imp id (fun ⟨g0, g1, g2, g3⟩ => ⟨g0, g1, g2, all_at l ByteArray.empty _ g3⟩)⟩
  · intro s i h0 hlt hs0 hs1
    have hw : wrap64 (i + 1) = i + 1 := w64 (by omega) (by have := hl.1; omega)
    have hk := hl.2 _ (rdT_mem l i h0 hlt)
    simp only [laws_szStringS.l0, hw]
    rw [wsub hs0 hs1 (by omega) (by omega)]
    by_cases g : s - ((rdOf ByteArray.empty l i).size : Int) < 0
    · exact .inl ⟨-1, by decide, Evt.pos hlt (Evt.pos h0 (Evt.pos g (Evt.pure _)))⟩
    · exact .inr ⟨_, by omega, by omega, by omega, fun r hr => Evt.pos hlt (Evt.pos h0 (Evt.neg g hr))⟩
  · intro s i hi
    simp only [laws_szStringS.l0]
    exact Evt.neg (by omega) (Evt.pure _)
def okE (l : List S91) : Prop := l.length ≤ 9223372036854775807 ∧ ∀ x ∈ l, okT x.f0
def fewE (l : List S91) : Prop := l.length ≤ 1048576 ∧ ∀ x ∈ l, fewT x.f0
theorem okE_of {a : ByteArray} {l : List S91} (h : wf31 ⟨a, l⟩) : okE l := by
  have g1 : l.length ≤ 2 ^ 63 - 1 := h.2.1
  refine ⟨by omega, fun x hx => ?_⟩
  have g2 : Rd.WfRow Rd.WfStr x.f0 := h.2.2 x hx
  have g3 : x.f0.length ≤ 2 ^ 63 - 1 := g2.1
  refine ⟨by omega, fun y hy => ?_⟩
  have g4 : y.size ≤ 2 ^ 63 - 1 := g2.2 y hy
  omega
theorem szE_ev (l : List S91) (hl : okE l) (left : Int) (h0 : 0 ≤ left) (h1 : left ≤ 1048576) : SzR (fun k => laws_szElementS.f k l left) left (fewE l) := by
  have key := sz_loop l.length hl.1 (fun i => fewT (rd_T91 l i).f0) (fun k => laws_szElementS.f k l left) (fun k s i => laws_szElementS.l0 k l s i) left h0 h1 (fun k => rfl) ?_ ?_
  · obtain ⟨t, ht, h⟩ := key
    exact ⟨t, ht, h.imp id (fun ⟨g0, g1, g2, g3⟩ => ⟨g0, g1, g2, all_at l z91 (fun x => fewT x.f0) g3⟩)⟩
  · intro s i h0 hlt hs0 hs1
    have hw : wrap64 (i + 1) = i + 1 := w64 (by omega) (by have := hl.1; omega)
    have hk : okT (rd_T91 l i).f0 := by
      unfold rd_T91
      rw [getD_at l _ _ (by omega)]
      exact hl.2 _ (List.getElem_mem _)
    obtain ⟨t, ht, h2⟩ := szT_ev _ hk s hs0 hs1
    simp only [laws_szElementS.l0, laws_szElement.f, hw]
    rcases h2 with h2 | ⟨h2, h3, h4⟩
    · exact .inl ⟨-1, by decide, Evt.pos hlt (Evt.pos h0 (Evt.bind (Evt.bind ht (Evt.pos h2 (Evt.pure _))) (Evt.pos (by decide) (Evt.pure _))))⟩
    · exact .inr ⟨t, h2, h3, h4, fun r hr => Evt.pos hlt (Evt.pos h0 (Evt.bind (Evt.bind ht (Evt.neg (by omega) (Evt.pure _))) (Evt.neg (by omega) hr)))⟩
  · intro s i hi
    simp only [laws_szElementS.l0]
    exact Evt.neg (by omega) (Evt.pure _)
theorem szSeg_ev (a : ByteArray) (l : List S91) (ha : a.size ≤ 9223372036854775807) (hl : okE l) (left : Int) (h0 : 0 ≤ left) (h1 : left ≤ 1048576) : SzR (fun k => laws_szSegment.f k a l left) left (a.size ≤ 1048576 ∧ fewE l) := by
  unfold laws_szSegment.f
  rw [wsub h0 h1 (by omega) (by omega)]
  by_cases g : left - (a.size : Int) < 0
  · exact ⟨-1, Evt.pos g (Evt.pure _), .inl (by decide)⟩
  · obtain ⟨t, ht, h2⟩ := szE_ev l hl (left - (a.size : Int)) (by omega) (by omega)
    rcases h2 with h2 | ⟨h2, h3, h4⟩
    · exact ⟨-1, Evt.neg g (Evt.bind ht (Evt.pos h2 (Evt.pure _))), .inl (by decide)⟩
    · exact ⟨t, Evt.neg g (Evt.bind ht (Evt.neg (by omega) (Evt.pure _))), .inr ⟨h2, by omega, by omega, h4⟩⟩
def cvE (x : S91) : S65 := ⟨x.f0⟩
theorem toT_ev (l : List ByteArray) (hl : l.length ≤ 1048576) : Evt (fun k => laws_toStringS.f k l) l := by
  unfold laws_toStringS.f
  refine Evt.pos (by omega) (Evt.pos (by omega) ?_)
  rw [Int.toNat_natCast]
  refine (fill_loop l ByteArray.empty (⟨#[]⟩ : ByteArray) id (fun k acc i => laws_toStringS.l0 k l acc i) ?_ ?_).same (List.map_id l)
  · intro acc i h0 hlt ha r hr
    have hw : wrap64 (i + 1) = i + 1 := w64 (by omega) (by omega)
    simp only [laws_toStringS.l0, hw]
    exact Evt.pos hlt (Evt.pos h0 (Evt.pos (by omega) hr))
  · intro acc i hi
    simp only [laws_toStringS.l0]
    exact Evt.neg (by omega) (Evt.pure _)
theorem toE_ev (l : List S91) (hl : fewE l) : Evt (fun k => laws_toElementS.f k l) (l.map cvE) := by
  have hn := hl.1
  unfold laws_toElementS.f
  refine Evt.pos (by omega) (Evt.pos (by omega) ?_)
  rw [Int.toNat_natCast]
  refine fill_loop l z91 z65 cvE (fun k acc i => laws_toElementS.l0 k l acc i) ?_ ?_
  · intro acc i h0 hlt ha r hr
    have hw : wrap64 (i + 1) = i + 1 := w64 (by omega) (by omega)
    have hk : fewT (rd_T91 l i).f0 := by
      unfold rd_T91
      rw [getD_at l _ _ (by omega)]
      exact hl.2 _ (List.getElem_mem _)
    simp only [laws_toElementS.l0, laws_toElement.f, hw]
    exact Evt.pos hlt (Evt.pos h0 (Evt.bind (Evt.bind (toT_ev _ hk.1) (Evt.pure _)) (Evt.pos (by omega) hr)))
  · intro acc i hi
    simp only [laws_toElementS.l0]
    exact Evt.neg (by omega) (Evt.pure _)
theorem toSeg_ev (a : ByteArray) (l : List S91) (hl : fewE l) : Evt (fun k => laws_toSegment.f k a l) (a, l.map cvE) := by
  unfold laws_toSegment.f
  exact Evt.bind (toE_ev l hl) (Evt.pure _)
def fewI (l : List S65) : Prop := l.length ≤ 1048576 ∧ ∀ x ∈ l, fewT x.f0
theorem fewI_of {l : List S91} (h : fewE l) : fewI (l.map cvE) := by
  refine ⟨by rw [List.length_map]; exact h.1, fun x hx => ?_⟩
  obtain ⟨y, hy, rfl⟩ := List.mem_map.1 hx
  exact h.2 y hy
theorem fewI_at {l : List S65} (h : fewI l) (i : Int) (h0 : 0 ≤ i) (hlt : i < (l.length : Int)) : fewT (rd_T65 l i).f0 := by
  unfold rd_T65
  rw [getD_at l _ _ (by omega)]
  exact h.2 _ (List.getElem_mem _)
theorem eqS_refl (l : List ByteArray) (hl : l.length ≤ 9000000) : Evt (fun k => laws_eqStringS.f k l l) true := by
  unfold laws_eqStringS.f
  refine Evt.pos rfl (all_loop (l.length : Int) (by omega) (fun k i => laws_eqStringS.l0 k l l i) ?_ ?_)
  · intro i h0 hlt ih
    have hw : wrap64 (i + 1) = i + 1 := w64 (by omega) (by omega)
    simp only [laws_eqStringS.l0, if_true, hw]
    exact Evt.pos hlt (Evt.pos h0 (Evt.pos hlt ih))
  · simp only [laws_eqStringS.l0]
    exact Evt.neg (by omega) (Evt.pure _)
theorem eqE_refl (l : List S65) (hl : fewI l) : Evt (fun k => laws_eqElementS.f k l l) true := by
  have hn := hl.1
  unfold laws_eqElementS.f
  refine Evt.pos rfl (all_loop (l.length : Int) (by omega) (fun k i => laws_eqElementS.l0 k l l i) ?_ ?_)
  · intro i h0 hlt ih
    have hw : wrap64 (i + 1) = i + 1 := w64 (by omega) (by omega)
    have hk := (fewI_at hl i h0 hlt).1
    simp only [laws_eqElementS.l0, laws_eqElement.f, hw]
    exact Evt.pos hlt (Evt.pos h0 (Evt.pos hlt (Evt.bind (Evt.bind (eqS_refl _ (by omega)) (Evt.pos (by simp) (Evt.pure true))) (Evt.pos (by simp) ih))))
  · simp only [laws_eqElementS.l0]
    exact Evt.neg (by omega) (Evt.pure _)
theorem eqSeg_refl (a : ByteArray) (l : List S65) (hl : fewI l) : Evt (fun k => laws_eqSegment.f k a l a l) true := by
  unfold laws_eqSegment.f
  exact Evt.pos rfl (Evt.bind (eqE_refl l hl) (Evt.pos (by simp) (Evt.pure true)))
end Go.Proofs.YtjbdljhjplidmaaDoor.QF
namespace Go.Proofs.YtjbdljhjplidmaaDoor.QF
open Go.RowKit Go.Proofs.YtjbdljhjplidmaaDoorW.PrintWords Go.Proofs.YtjbdljhjplidmaaDoor.Ev0
theorem longText_ev (l : List ByteArray) (hl : l.length ≤ 1000) : Evt (fun k => impl_longText.f k l) (B (∃ x ∈ l, (x.size : Int) > 20000)) := by
  unfold impl_longText.f slices_ContainsFunc_string_string_impl_longText_1.f slices_IndexFunc_string_string_impl_longText_1.f
  obtain ⟨r, hr, h⟩ := find_loop (l.length : Int) (by omega) (fun i => ((rdOf ByteArray.empty l i).size : Int) > 20000) (fun k i => slices_IndexFunc_string_string_impl_longText_1.l0 k l (l.length : Int) i) (by
      intro i h0 hlt
      have hw : wrap64 (i + 1) = i + 1 := w64 (by omega) (by omega)
      simp only [slices_IndexFunc_string_string_impl_longText_1.l0, impl_longText_1.f, Option.bind_some, hw]
      exact ⟨fun hp => Evt.pos hlt (Evt.pos h0 (Evt.pos hlt (Evt.pos (decide_eq_true hp) (Evt.pure _)))), fun hp r hr => Evt.pos hlt (Evt.pos h0 (Evt.pos hlt (Evt.neg (by simpa using hp) hr)))⟩) (by
      simp only [slices_IndexFunc_string_string_impl_longText_1.l0]
      exact Evt.neg (by omega) (Evt.pure _))
  have at_ : ∀ i : Int, 0 ≤ i → i < (l.length : Int) → rdOf ByteArray.empty l i ∈ l := fun i h0 h1 => by
    unfold rdOf
    rw [getD_at l _ _ (by omega)]
    exact List.getElem_mem _
  refine Evt.bind (Evt.bind hr (Evt.pure _)) ((Evt.pure _).same ?_)
  rw [decide_B]
  refine B_congr ⟨fun hg => ?_, fun ⟨x, hx, hg⟩ => ?_⟩
  · rcases h with ⟨h1, _⟩ | ⟨h1, h2, h3, _⟩
    · omega
    · exact ⟨_, at_ r h1 h2, h3⟩
  · rcases h with ⟨h1, h2⟩ | ⟨h1, _⟩
    · obtain ⟨i, hi, rfl⟩ := List.mem_iff_getElem.1 hx
      refine absurd ?_ (h2 i (by omega) (by omega))
      show ((rdOf ByteArray.empty l (i : Int)).size : Int) > 20000
      unfold rdOf
      rw [Int.toNat_natCast, getD_at l _ _ hi]
      exact hg
    · exact h1
theorem longText1_ev (s : ByteArray) : Evt (fun k => impl_longText.f k [s]) (B ((s.size : Int) > 20000)) :=
  (longText_ev [s] (by simp)).same (B_congr ⟨fun ⟨x, hx, h⟩ => by rw [List.mem_singleton.1 hx] at h; exact h, fun h => ⟨s, by simp, h⟩⟩)
end Go.Proofs.YtjbdljhjplidmaaDoor.QF
namespace Go.Proofs.YtjbdljhjplidmaaDoor.QF
open Go.RowKit Go.Proofs.YtjbdljhjplidmaaDoorW.PrintWords Go.Proofs.YtjbdljhjplidmaaDoor.Ev0 Go.Proofs.YtjbdljhjplidmaaDoor.Num
theorem num_zero (t : List UInt8) (h : isNum t) : valT t = 0 ↔ t = [48] := by
  constructor
  · intro e
    have := num_itoa t h
    rw [e] at this
    rw [← this]
    unfold Lib.itoa
    rw [if_neg (by decide), show (0 : Int).toNat = 0 from rfl, Lib.decDigits, dif_pos (by decide)]
    rfl
  · rintro rfl
    rfl
theorem num_12 (t : List UInt8) (h : isNum t) (g0 : -1000000000 ≤ valT t) (g1 : valT t ≤ 1000000000) : (digs t).length ≤ 12 := by
  refine num_len t h ?_
  unfold valT at g0 g1
  split at g0 <;> rename_i e
  · rw [if_pos e] at g1; omega
  · rw [if_neg e] at g1; omega
def PartPr (s : ByteArray) : Prop := (s.size : Int) ≤ 40 ∧ ∀ i : Int, 0 ≤ i → i < (s.size : Int) → 32 ≤ bt s i ∧ bt s i ≤ 126
theorem implPt_ev (s : ByteArray) (hs : (s.size : Int) ≤ 9223372036854775806) : Evt (fun k => impl_isPart.f k s) (B (PartPr s)) := by
  unfold impl_isPart.f impl_isPrinted.f
  refine and_ Iff.rfl (fun h => ?_)
  refine (Evt.bind (right_loop (s.size : Int) (by omega) (fun i => 32 ≤ bt s i ∧ bt s i ≤ 126) True (fun k i => impl_isPrinted.l0 k s (s.size : Int) i) ?_ ?_) (Evt.pure _)).same (B_congr ⟨fun x => x.1, fun x => ⟨x, trivial⟩⟩)
  · intro i h0 hlt
    have hw : wrap64 (i + 1) = i + 1 := w64 (by omega) (by omega)
    simp only [impl_isPrinted.l0, hw]
    refine ⟨fun hk r hr => Evt.pos hlt (Evt.pos h0 (Evt.pos hlt (Evt.neg (by omega) (Evt.neg (by omega) hr)))), fun hk => Evt.pos hlt (Evt.pos h0 (Evt.pos hlt (Evt.ite (fun _ => Evt.pure _) (fun _ => Evt.pos (by omega) (Evt.pure _)))))⟩
  · simp only [impl_isPrinted.l0]
    exact Evt.neg (by omega) ((Evt.pure _).same (B_true trivial).symm)
theorem specPt_ev (s : ByteArray) (hs : (s.size : Int) ≤ 9223372036854775806) : Evt (fun k => spec_l02Part.f k s) (B (PartPr s)) := by
  unfold spec_l02Part.f
  refine fail_ (by omega) (fun h => ?_)
  refine (right_loop (s.size : Int) (by omega) (fun i => 32 ≤ bt s i ∧ bt s i ≤ 126) True (fun k i => spec_l02Part.l0 k s i) ?_ ?_).same (B_congr ⟨fun x => x.1, fun x => ⟨x, trivial⟩⟩)
  · intro i h0 hlt
    have hw : wrap64 (i + 1) = i + 1 := w64 (by omega) (by omega)
    simp only [spec_l02Part.l0, hw]
    refine ⟨fun hk r hr => Evt.pos hlt (Evt.pos h0 (Evt.neg (by omega) (Evt.neg (by omega) hr))), fun hk => Evt.pos hlt (Evt.pos h0 (Evt.ite (fun _ => Evt.pure _) (fun _ => Evt.pos (by omega) (Evt.pure _))))⟩
  · simp only [spec_l02Part.l0]
    exact Evt.neg (by omega) ((Evt.pure _).same (B_true trivial).symm)
def okF (c : Int) : Prop := c = 114 ∨ c = 110 ∨ c = 113 ∨ c = 122 ∨ c = 100 ∨ c = 116
theorem l01Day_ev (n : Int) : spec_l01Day.f n = some (B (0 ≤ n ∧ n ≤ 100000)) := by
  unfold spec_l01Day.f
  by_cases h : n ≥ 0
  · rw [if_pos h, decide_B]
    exact congrArg some (B_congr ⟨fun x => ⟨h, x⟩, fun x => x.2⟩)
  · rw [if_neg h, B_false (fun x => h x.1)]
theorem el_ev (c : Int) (hc : okF c) (l : List ByteArray) (hl : (l.length : Int) = 1) (hs : (rdOf ByteArray.empty l 0).size ≤ 1048576) :
    ∃ b, Evt (fun k => spec_l04Element.f k c l) b ∧ Evt (fun k => impl_isOf.f k c (rdOf ByteArray.empty l 0)) b := by
  generalize hg : rdOf ByteArray.empty l 0 = s at hs
  obtain ⟨v, hv, hvT⟩ := l01Num_ev s (by omega)
  have start : ∀ b, Evt (fun k => if c = 114 then ((spec_l01Name.f k s).bind fun t145 => (some t145)) else (if c = 110 then (if (v, B (isNum s.data.toList ∧ (digs s.data.toList).length ≤ 12)).2 = true then (if (v, B (isNum s.data.toList ∧ (digs s.data.toList).length ≤ 12)).1 ≥ 0 then (some (decide ((v, B (isNum s.data.toList ∧ (digs s.data.toList).length ≤ 12)).1 ≤ 1000000000))) else (some false)) else (some false)) else (if c = 113 then (if (v, B (isNum s.data.toList ∧ (digs s.data.toList).length ≤ 12)).2 = true then ((spec_l01Qty.f (v, B (isNum s.data.toList ∧ (digs s.data.toList).length ≤ 12)).1).bind fun t146 => (some t146)) else (some false)) else (if c = 122 then (if (v, B (isNum s.data.toList ∧ (digs s.data.toList).length ≤ 12)).2 = true then (if (v, B (isNum s.data.toList ∧ (digs s.data.toList).length ≤ 12)).1 ≥ (-1000000) then (if (v, B (isNum s.data.toList ∧ (digs s.data.toList).length ≤ 12)).1 ≤ 1000000 then (some ((v, B (isNum s.data.toList ∧ (digs s.data.toList).length ≤ 12)).1 != 0)) else (some false)) else (some false)) else (some false)) else (if c = 100 then (if (v, B (isNum s.data.toList ∧ (digs s.data.toList).length ≤ 12)).2 = true then ((spec_l01Day.f (v, B (isNum s.data.toList ∧ (digs s.data.toList).length ≤ 12)).1).bind fun t147 => (some t147)) else (some false)) else (if s.toList = ([] : List UInt8) then (some false) else ((spec_l02Part.f k s).bind fun t148 => (some t148)))))))) b → Evt (fun k => spec_l04Element.f k c l) b := fun b hb => by
    unfold spec_l04Element.f
    rw [hg]
    exact Evt.pos hl (Evt.pos (by omega) (Evt.bind hv hb))
  -- the numbers: one bound from below, one from above
  have num : ∀ lo hi : Int, -1000000000 ≤ lo → hi ≤ 1000000000 → ∃ w, Evt (fun k => impl_numberIn.f k s lo hi) (w, B ((isNum s.data.toList ∧ (digs s.data.toList).length ≤ 12) ∧ lo ≤ v ∧ v ≤ hi)) := fun lo hi h0 h1 => by
    obtain ⟨w, hw, _⟩ := numberIn_ev s (by omega) lo hi h0 h1
    refine ⟨w, hw.same (congrArg _ (B_congr ⟨fun h => ?_, fun h => ?_⟩))⟩
    · have h12 := num_12 _ h.1 (by omega) (by omega)
      rw [hvT h.1 h12]
      exact ⟨⟨h.1, h12⟩, h.2⟩
    · have e := hvT h.1.1 h.1.2
      rw [e] at h
      exact ⟨h.1.1, h.2⟩
  have no : ∀ q : Prop, ¬ (isNum s.data.toList ∧ (digs s.data.toList).length ≤ 12) → false = B ((isNum s.data.toList ∧ (digs s.data.toList).length ≤ 12) ∧ q) := fun q hn => (B_false (fun x => hn x.1)).symm
  rcases hc with rfl | rfl | rfl | rfl | rfl | rfl
  · refine ⟨nameB s, start _ (Evt.pos rfl (Evt.bind (specName_ev s (by omega)) (Evt.pure _))), ?_⟩
    unfold impl_isOf.f
    exact Evt.pos rfl (Evt.bind (implName_ev s (by omega)) (Evt.pure _))
  · obtain ⟨w, hw⟩ := num 0 1000000000 (by decide) (by decide)
    refine ⟨B ((isNum s.data.toList ∧ (digs s.data.toList).length ≤ 12) ∧ 0 ≤ v ∧ v ≤ 1000000000), start _ (Evt.neg (by decide) (Evt.pos rfl (Evt.ite (fun h => ?_) (fun h => (Evt.pure _).same (no _ (fun x => h (B_true x))))))), ?_⟩
    rotate_left
    · unfold impl_isOf.f
      exact Evt.neg (by decide) (Evt.pos rfl (Evt.bind hw (Evt.pure _)))
    · have h' := B_iff.1 h
      exact Evt.ite (fun h1 => (Evt.pure _).same ((decide_B _).trans (B_congr ⟨fun x => ⟨h', h1, x⟩, fun x => x.2.2⟩))) (fun h1 => (Evt.pure _).same (B_false (fun x => h1 x.2.1)).symm)
  · obtain ⟨w, hw⟩ := num 1 1000000 (by decide) (by decide)
    refine ⟨B ((isNum s.data.toList ∧ (digs s.data.toList).length ≤ 12) ∧ 1 ≤ v ∧ v ≤ 1000000), start _ (Evt.neg (by decide) (Evt.neg (by decide) (Evt.pos rfl (Evt.ite (fun h => ?_) (fun h => (Evt.pure _).same (no _ (fun x => h (B_true x)))))))), ?_⟩
    rotate_left
    · unfold impl_isOf.f
      exact Evt.neg (by decide) (Evt.neg (by decide) (Evt.pos rfl (Evt.bind hw (Evt.pure _))))
    · have h' := B_iff.1 h
      simp only [l01Qty_ev, Option.bind_some]
      exact (Evt.pure _).same (B_congr ⟨fun x => ⟨h', x⟩, fun x => x.2⟩)
  · obtain ⟨w, hw⟩ := num (-1000000) 1000000 (by decide) (by decide)
    by_cases h : isNum s.data.toList ∧ (digs s.data.toList).length ≤ 12
    · have e := hvT h.1 h.2
      have hz : (v != 0) = (s.toList != ([48] : List UInt8)) := by
        have hnz := num_zero _ h.1
        rw [← e] at hnz
        by_cases z : v = 0
        · rw [show (v != 0) = false by simp [z], show (s.toList != ([48] : List UInt8)) = false by simp [(str_of s _).2 (hnz.1 z)]]
        · rw [show (v != 0) = true by simp [z], show (s.toList != ([48] : List UInt8)) = true by simp only [bne_iff_ne, ne_eq]; exact fun x => z (hnz.2 ((str_of s _).1 x))]
      by_cases g : -1000000 ≤ v ∧ v ≤ 1000000
      · refine ⟨v != 0, start _ (Evt.neg (by decide) (Evt.neg (by decide) (Evt.neg (by decide) (Evt.pos rfl (Evt.pos (B_true h) (Evt.pos g.1 (Evt.pos g.2 (Evt.pure _)))))))), ?_⟩
        unfold impl_isOf.f
        refine Evt.neg (by decide) (Evt.neg (by decide) (Evt.neg (by decide) (Evt.pos rfl (Evt.bind hw (Evt.pos (B_true ⟨h, g⟩) ((Evt.pure _).same hz.symm))))))
      · refine ⟨false, start _ (Evt.neg (by decide) (Evt.neg (by decide) (Evt.neg (by decide) (Evt.pos rfl (Evt.pos (B_true h) (Evt.ite (fun g1 => Evt.neg (fun g2 => g ⟨g1, g2⟩) (Evt.pure _)) (fun _ => Evt.pure _))))))), ?_⟩
        unfold impl_isOf.f
        refine Evt.neg (by decide) (Evt.neg (by decide) (Evt.neg (by decide) (Evt.pos rfl (Evt.bind hw (Evt.neg (by rw [B_false (fun x => g x.2)]; exact Bool.false_ne_true) (Evt.pure _))))))
    · refine ⟨false, start _ (Evt.neg (by decide) (Evt.neg (by decide) (Evt.neg (by decide) (Evt.pos rfl (Evt.neg (by rw [B_false h]; exact Bool.false_ne_true) (Evt.pure _)))))), ?_⟩
      unfold impl_isOf.f
      refine Evt.neg (by decide) (Evt.neg (by decide) (Evt.neg (by decide) (Evt.pos rfl (Evt.bind hw (Evt.neg (by rw [← no _ h]; exact Bool.false_ne_true) (Evt.pure _))))))
  · obtain ⟨w, hw⟩ := num 0 100000 (by decide) (by decide)
    refine ⟨B ((isNum s.data.toList ∧ (digs s.data.toList).length ≤ 12) ∧ 0 ≤ v ∧ v ≤ 100000), start _ (Evt.neg (by decide) (Evt.neg (by decide) (Evt.neg (by decide) (Evt.neg (by decide) (Evt.pos rfl (Evt.ite (fun h => ?_) (fun h => (Evt.pure _).same (no _ (fun x => h (B_true x)))))))))), ?_⟩
    rotate_left
    · unfold impl_isOf.f
      exact Evt.neg (by decide) (Evt.neg (by decide) (Evt.neg (by decide) (Evt.neg (by decide) (Evt.pos rfl (Evt.bind hw (Evt.pure _))))))
    · have h' := B_iff.1 h
      simp only [l01Day_ev, Option.bind_some]
      exact (Evt.pure _).same (B_congr ⟨fun x => ⟨h', x⟩, fun x => x.2⟩)
  · by_cases hn : s.toList = ([] : List UInt8)
    · refine ⟨false, start _ (Evt.neg (by decide) (Evt.neg (by decide) (Evt.neg (by decide) (Evt.neg (by decide) (Evt.neg (by decide) (Evt.pos hn (Evt.pure _))))))), ?_⟩
      unfold impl_isOf.f
      exact Evt.neg (by decide) (Evt.neg (by decide) (Evt.neg (by decide) (Evt.neg (by decide) (Evt.neg (by decide) (Evt.pos rfl (Evt.pos hn (Evt.pure _)))))))
    · refine ⟨B (PartPr s), start _ (Evt.neg (by decide) (Evt.neg (by decide) (Evt.neg (by decide) (Evt.neg (by decide) (Evt.neg (by decide) (Evt.neg hn (Evt.bind (specPt_ev s (by omega)) (Evt.pure _)))))))), ?_⟩
      unfold impl_isOf.f
      exact Evt.neg (by decide) (Evt.neg (by decide) (Evt.neg (by decide) (Evt.neg (by decide) (Evt.neg (by decide) (Evt.pos rfl (Evt.neg hn (Evt.bind (implPt_ev s (by omega)) (Evt.pure _))))))))
end Go.Proofs.YtjbdljhjplidmaaDoor.QF
