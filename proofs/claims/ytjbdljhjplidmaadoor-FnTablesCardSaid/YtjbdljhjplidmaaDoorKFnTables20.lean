-- Merged by a program of this session (wip/tool/pack.py) out of its own texts for this claim.
import Derived.Test.YtjbdljhjplidmaaDoorKFnTables0
import Derived.Test.YtjbdljhjplidmaaDoorKFnTables1
import Derived.Test.YtjbdljhjplidmaaDoorKFnTables2
import Derived.Test.YtjbdljhjplidmaaDoorKFnTables3
import Derived.Test.YtjbdljhjplidmaaDoorKFnTables4
import Derived.Test.YtjbdljhjplidmaaDoorKFnTables18
import Derived.Test.YtjbdljhjplidmaaDoorKFnTables19
set_option linter.unusedVariables false
namespace Go.Proofs.YtjbdljhjplidmaaDoor.QF
open Go.RowKit Go.Proofs.YtjbdljhjplidmaaDoorW.PrintWords Go.Proofs.YtjbdljhjplidmaaDoor.Ev0
abbrev EX := S65
abbrev GX := S36
theorem strN_size (l : List Int) : (strOfNums l).size = l.length := by
  unfold strOfNums
  simp [ByteArray.size]
theorem words_l (b : List Int) (hb : (b.length : Int) ≤ 1048576) (s p q u v : Int) (d : Nat) : ∀ (n : Int) (x : List Int) (t m : Int), Pl b t → n ≤ d → n ≤ 1000 → x.length + d ≤ 100000 →
    ∃ r t' m', Evt (fun k => spec_l01Src_words.l0 k n x b t m s p q u v) (r, t', m', s) ∧ Pl b t' ∧ r.size ≤ x.length + d := by
  induction d with
  | zero =>
    intro n x t m ht hn _ hx
    refine ⟨strOfNums x, t, m, Evt.succ ?_, ht, by rw [strN_size]; omega⟩
    simp only [spec_l01Src_words.l0]
    exact Evt.neg (by omega) (Evt.pure _)
  | succ d ih =>
    intro n x t m ht hn h1000 hx
    by_cases g : n > 0
    · have hw : wrap64 (n - 1) = n - 1 := w64 (by omega) (by omega)
      have hl : x.length < 140737488355328 := by omega
      obtain ⟨r, t1, m1, e1, h1, z0, z1⟩ := n_ev b hb t m s 6 ht (by decide)
      have step : ∀ c t2 m2, Pl b t2 → ∃ r t' m', Evt (fun k => spec_l01Src_words.l0 k (n - 1) (x ++ [c]) b t2 m2 s p q u v) (r, t', m', s) ∧ Pl b t' ∧ r.size ≤ x.length + (d + 1) := fun c t2 m2 h2 => by
        obtain ⟨r, t', m', h, hp, hr⟩ := ih (n - 1) (x ++ [c]) t2 m2 h2 (by omega) (by omega) (by simp; omega)
        exact ⟨r, t', m', h, hp, by simp at hr; omega⟩
      by_cases r0 : r = 0
      · obtain ⟨o, t', m', h, hp, ho⟩ := step ((p) % 256) t1 m1 h1
        refine ⟨o, t', m', Evt.succ ?_, hp, ho⟩
        simp only [spec_l01Src_words.l0, e1, Option.bind_some, hw]
        exact Evt.pos g (Evt.pos r0 (Evt.pos hl h))
      by_cases r1 : r = 1
      · obtain ⟨o, t', m', h, hp, ho⟩ := step ((q) % 256) t1 m1 h1
        refine ⟨o, t', m', Evt.succ ?_, hp, ho⟩
        simp only [spec_l01Src_words.l0, e1, Option.bind_some, hw]
        exact Evt.pos g (Evt.neg r0 (Evt.pos r1 (Evt.pos hl h)))
      by_cases r2 : r = 2
      · obtain ⟨o, t', m', h, hp, ho⟩ := step ((u) % 256) t1 m1 h1
        refine ⟨o, t', m', Evt.succ ?_, hp, ho⟩
        simp only [spec_l01Src_words.l0, e1, Option.bind_some, hw]
        exact Evt.pos g (Evt.neg r0 (Evt.neg r1 (Evt.pos r2 (Evt.pos hl h))))
      by_cases r3 : r = 3
      · obtain ⟨o, t', m', h, hp, ho⟩ := step ((v) % 256) t1 m1 h1
        refine ⟨o, t', m', Evt.succ ?_, hp, ho⟩
        simp only [spec_l01Src_words.l0, e1, Option.bind_some, hw]
        exact Evt.pos g (Evt.neg r0 (Evt.neg r1 (Evt.neg r2 (Evt.pos r3 (Evt.pos hl h)))))
      obtain ⟨w, t2, m2, e2, h2, y0, y1⟩ := n_ev b hb t1 m1 s 6 h1 (by decide)
      obtain ⟨o, t', m', h, hp, ho⟩ := step (bt (⟨#[65, 66, 99, 32, 49, 45]⟩ : ByteArray) w) t2 m2 h2
      refine ⟨o, t', m', Evt.succ ?_, hp, ho⟩
      simp only [spec_l01Src_words.l0, e1, e2, Option.bind_some, hw]
      exact Evt.pos g (Evt.neg r0 (Evt.neg r1 (Evt.neg r2 (Evt.neg r3 (Evt.pos y0 (Evt.pos (by omega) (Evt.pos hl h)))))))
    · refine ⟨strOfNums x, t, m, Evt.succ ?_, ht, by rw [strN_size]; omega⟩
      simp only [spec_l01Src_words.l0]
      exact Evt.neg g (Evt.pure _)
theorem words_ev (b : List Int) (hb : (b.length : Int) ≤ 1048576) (t m s p q u v n : Int) (ht : Pl b t) (hn : n ≤ 100) : ∃ r t' m', Evt (fun k => spec_l01Src_words.f k b t m s p q u v n) (r, t', m', s) ∧ Pl b t' ∧ r.size ≤ 1000 := by
  obtain ⟨r, t', m', h, hp, hr⟩ := words_l b hb s p q u v 100 n [] t m ht (by omega) (by omega) (by simp)
  exact ⟨r, t', m', h, hp, by simp at hr; omega⟩
theorem itoa_small (a : Int) (h0 : -9223372036854775808 ≤ a) (h1 : a ≤ 9223372036854775807) : (bs8 (Lib.itoa a)).size ≤ 1000 := by
  rw [bs8_size]
  have := itoa_len a h0 h1
  omega
theorem value_ev (b : List Int) (hb : (b.length : Int) ≤ 1048576) (t m s c : Int) (ht : Pl b t) : ∃ r t' m', Evt (fun k => spec_l01Src_l04Value.f k b t m s c) (r, t', m', s) ∧ Pl b t' ∧ r.size ≤ 1000 := by
  have tail : ∀ x : Bool, ∃ r t' m', Evt (fun k => spec_l01Src_l04Value.j0 k c x b t m s) (r, t', m', s) ∧ Pl b t' ∧ r.size ≤ 1000 := fun x => by
    by_cases hx : x = true
    · obtain ⟨r, t1, m1, e1, h1, z0, z1⟩ := n_ev b hb t m s 30 ht (by decide)
      have hw : wrap64 (1 + r) = 1 + r := w64 (by omega) (by omega)
      refine ⟨_, t1, m1, Evt.succ ?_, h1, itoa_small (1 + r) (by omega) (by omega)⟩
      simp only [spec_l01Src_l04Value.j0, e1, Option.bind_some, hw]
      exact Evt.pos hx (Evt.bind (l01Dec_ev _ (by omega) (by omega)) (Evt.pure _))
    by_cases h122 : c = 122
    · obtain ⟨r, t1, m1, e1, h1, z0, z1⟩ := n_ev b hb t m s 20 ht (by decide)
      have hw : wrap64 (r - 25) = r - 25 := w64 (by omega) (by omega)
      refine ⟨_, t1, m1, Evt.succ ?_, h1, itoa_small (r - 25) (by omega) (by omega)⟩
      simp only [spec_l01Src_l04Value.j0, e1, Option.bind_some, hw]
      exact Evt.neg hx (Evt.pos h122 (Evt.bind (l01Dec_ev _ (by omega) (by omega)) (Evt.pure _)))
    by_cases h100 : c = 100
    · obtain ⟨r, t1, m1, e1, h1, z0, z1⟩ := n_ev b hb t m s 300 ht (by decide)
      refine ⟨_, t1, m1, Evt.succ ?_, h1, itoa_small r (by omega) (by omega)⟩
      simp only [spec_l01Src_l04Value.j0, e1, Option.bind_some]
      exact Evt.neg hx (Evt.neg h122 (Evt.pos h100 (Evt.bind (l01Dec_ev _ (by omega) (by omega)) (Evt.pure _))))
    obtain ⟨r, t1, m1, e1, h1, z0, z1⟩ := n_ev b hb t m s 5 ht (by decide)
    have hw : wrap64 (1 + r) = 1 + r := w64 (by omega) (by omega)
    obtain ⟨o, t2, m2, e2, h2, ho⟩ := words_ev b hb t1 m1 s 39 43 58 63 (1 + r) h1 (by omega)
    refine ⟨o, t2, m2, Evt.succ ?_, h2, ho⟩
    simp only [spec_l01Src_l04Value.j0, spec_l01Plain.f, e1, Option.bind_some, hw]
    exact Evt.neg hx (Evt.neg h122 (Evt.neg h100 (Evt.bind e2 (Evt.pure _))))
  unfold spec_l01Src_l04Value.f
  by_cases h114 : c = 114
  · obtain ⟨r, t1, m1, e1, h1, hr⟩ := pick_ev b hb t m s ht [(⟨#[80, 79, 45, 49]⟩ : ByteArray), (⟨#[80, 79, 45, 50]⟩ : ByteArray), (⟨#[66, 79, 76, 84]⟩ : ByteArray), (⟨#[78, 85, 84]⟩ : ByteArray), (⟨#[71, 69, 65, 82]⟩ : ByteArray), (⟨#[82, 55]⟩ : ByteArray)] (by decide) (by decide)
    refine ⟨r, t1, m1, Evt.pos h114 ?_, h1, ?_⟩
    · simp only [e1, Option.bind_some]
      exact Evt.pure _
    · simp only [List.mem_cons, List.not_mem_nil, or_false] at hr
      rcases hr with rfl | rfl | rfl | rfl | rfl | rfl <;> decide
  · obtain ⟨r, t', m', h, hp, hr⟩ := tail (if c = 110 then (c == 110) else (c == 113))
    refine ⟨r, t', m', Evt.neg h114 ?_, hp, hr⟩
    by_cases h110 : c = 110
    · rw [if_pos h110] at h
      exact Evt.pos h110 h
    · rw [if_neg h110] at h
      exact Evt.neg h110 h
def sT (n : Nat) (l : List ByteArray) : Prop := l.length ≤ n ∧ ∀ x ∈ l, x.size ≤ 1000
theorem seg_l (parts : List ByteArray) (hp : parts.length ≤ 1000) (tag : ByteArray) (d : Nat) : ∀ (i : Int) (e : List EX), 0 ≤ i → i ≤ (parts.length : Int) → (parts.length : Int) - i ≤ d → e.length + d ≤ 2000 → (∀ x ∈ e, fewT x.f0) → (∀ x ∈ parts, x.size ≤ 1000) →
    ∃ e', Evt (fun k => spec_l03Seg.l0 k parts i tag e) (tag, e') ∧ e'.length ≤ 2000 ∧ ∀ x ∈ e', fewT x.f0 := by
  induction d with
  | zero =>
    intro i e i0 i1 hd hl he hs
    refine ⟨e, Evt.succ ?_, by omega, he⟩
    simp only [spec_l03Seg.l0]
    exact Evt.neg (by omega) (Evt.pure _)
  | succ d ih =>
    intro i e i0 i1 hd hl he hs
    by_cases g : i < (parts.length : Int)
    · have hw : wrap64 (i + 1) = i + 1 := w64 (by omega) (by omega)
      have hx := hs _ (rdT_mem parts i i0 g)
      obtain ⟨e', h, h1, h2⟩ := ih (i + 1) (e ++ [(⟨[rdOf ByteArray.empty parts i]⟩ : EX)]) (by omega) (by omega) (by omega) (by simp; omega) (fun x hx' => (List.mem_append.1 hx').elim (he x) (fun y => by
        rw [List.mem_singleton.1 y]
        exact ⟨by simp, fun z hz => by rw [List.mem_singleton.1 hz]; omega⟩)) hs
      refine ⟨e', Evt.succ ?_, h1, h2⟩
      simp only [spec_l03Seg.l0, hw]
      exact Evt.pos g (Evt.pos i0 (Evt.pos (by omega) h))
    · refine ⟨e, Evt.succ ?_, by omega, he⟩
      simp only [spec_l03Seg.l0]
      exact Evt.neg g (Evt.pure _)
theorem seg_ev (tag : ByteArray) (parts : List ByteArray) (hp : sT 1000 parts) : ∃ g : GX, Evt (fun k => spec_l03Seg.f k tag parts) (g.f0, g.f1) ∧ fewI g.f1 := by
  obtain ⟨e, h, h1, h2⟩ := seg_l parts hp.1 tag parts.length 0 [] (Int.le_refl _) (by omega) (by omega) (by have := hp.1; simp; omega) (by simp) hp.2
  exact ⟨⟨tag, e⟩, h, by show e.length ≤ 1048576; omega, h2⟩
theorem sT_snoc {n : Nat} {l : List ByteArray} {x : ByteArray} (h : sT n l) (hx : x.size ≤ 1000) : sT (n + 1) (l ++ [x]) :=
  ⟨by have := h.1; simp; omega, fun y hy => (List.mem_append.1 hy).elim (h.2 y) (fun e => by rw [List.mem_singleton.1 e]; exact hx)⟩
theorem sT_set {n : Nat} {l : List ByteArray} {x : ByteArray} (h : sT n l) (i : Nat) (hx : x.size ≤ 1000) : sT n (l.set i x) :=
  ⟨by rw [List.length_set]; exact h.1, fun y hy => (List.mem_or_eq_of_mem_set hy).elim (h.2 y) (fun e => by rw [e]; exact hx)⟩
theorem sT_few {n : Nat} {l : List ByteArray} (h : sT n l) (hn : n ≤ 1048576) : fewT l := ⟨by have := h.1; omega, fun x hx => by have := h.2 x hx; omega⟩
def sE (n : Nat) (l : List EX) : Prop := l.length ≤ n ∧ ∀ x ∈ l, fewT x.f0
theorem sE_snoc {n : Nat} {l : List EX} {x : EX} (h : sE n l) (hx : fewT x.f0) : sE (n + 1) (l ++ [x]) :=
  ⟨by have := h.1; simp; omega, fun y hy => (List.mem_append.1 hy).elim (h.2 y) (fun e => by rw [List.mem_singleton.1 e]; exact hx)⟩
section
variable (b : List Int) (hb : (b.length : Int) ≤ 1048576) (s : Int)
include hb
theorem l02_j4 (t m : Int) (ht : Pl b t) (tag : ByteArray) (e : List EX) (he : sE 100 e) : ∃ (g : GX) (t' m' : Int), Evt (fun k => spec_l01Src_l02Segment.j4 k b t m s tag e) (g.f0, g.f1, t', m', s) ∧ Pl b t' ∧ fewI g.f1 := by
  have hel := he.1
  obtain ⟨r, t1, m1, e1, h1⟩ := draw_one_ev b hb t m s 20 ht (by decide)
  by_cases hr : r = true
  · obtain ⟨x, t2, m2, e2, h2, y0, y1⟩ := n_ev b hb t1 m1 s 3 h1 (by decide)
    by_cases x0 : x = 0
    · obtain ⟨p, t3, m3, e3, h3, hp⟩ := pick_ev b hb t2 m2 s h2 [(⟨#[]⟩ : ByteArray), (⟨#[65, 66]⟩ : ByteArray), (⟨#[65, 66, 67, 68]⟩ : ByteArray), (⟨#[65, 66, 49]⟩ : ByteArray), (⟨#[97, 98, 99]⟩ : ByteArray)] (by decide) (by decide)
      refine ⟨⟨p, e⟩, t3, m3, Evt.succ ?_, h3, by show e.length ≤ _; omega, he.2⟩
      simp only [spec_l01Src_l02Segment.j4, e1, e2, e3, Option.bind_some]
      exact Evt.pos hr (Evt.pos x0 (Evt.pure _))
    by_cases x1 : x = 1
    · have hk := sE_snoc he (x := (⟨([] : List ByteArray)⟩ : EX)) ⟨by simp, by simp⟩
      refine ⟨⟨tag, e ++ [(⟨([] : List ByteArray)⟩ : EX)]⟩, t2, m2, Evt.succ ?_, h2, by have := hk.1; show (e ++ _).length ≤ _; omega, hk.2⟩
      simp only [spec_l01Src_l02Segment.j4, e1, e2, Option.bind_some]
      exact Evt.pos hr (Evt.neg x0 (Evt.pos x1 (Evt.pos (by omega) (Evt.pure _))))
    obtain ⟨p, t3, m3, e3, h3, hp⟩ := pick_ev b hb t2 m2 s h2 [(⟨#[10]⟩ : ByteArray), (⟨#[255]⟩ : ByteArray), (⟨#[97]⟩ : ByteArray)] (by decide) (by decide)
    obtain ⟨q, t4, m4, e4, h4, hq⟩ := pick_ev b hb t3 m3 s h3 [(⟨#[]⟩ : ByteArray), (⟨#[98]⟩ : ByteArray)] (by decide) (by decide)
    have hps : p.size ≤ 1000 := by
      simp only [List.mem_cons, List.not_mem_nil, or_false] at hp
      rcases hp with rfl | rfl | rfl <;> decide
    have hqs : q.size ≤ 1000 := by
      simp only [List.mem_cons, List.not_mem_nil, or_false] at hq
      rcases hq with rfl | rfl <;> decide
    have hk := sE_snoc he (x := (⟨[p, q]⟩ : EX)) ⟨by simp, fun z hz => by
      simp only [List.mem_cons, List.not_mem_nil, or_false] at hz
      rcases hz with rfl | rfl <;> omega⟩
    refine ⟨⟨tag, e ++ [(⟨[p, q]⟩ : EX)]⟩, t4, m4, Evt.succ ?_, h4, by have := hk.1; show (e ++ _).length ≤ _; omega, hk.2⟩
    simp only [spec_l01Src_l02Segment.j4, e1, e2, e3, e4, Option.bind_some]
    exact Evt.pos hr (Evt.neg x0 (Evt.neg x1 (Evt.pos (by omega) (Evt.pure _))))
  · refine ⟨⟨tag, e⟩, t1, m1, Evt.succ ?_, h1, by show e.length ≤ _; omega, he.2⟩
    simp only [spec_l01Src_l02Segment.j4, e1, Option.bind_some]
    exact Evt.neg hr (Evt.pure _)
theorem l02_l2 (tag : ByteArray) (d : Nat) : ∀ (e : List EX) (t m : Int), Pl b t → sE 100 e → e.length ≤ d → ∃ (g : GX) (t' m' : Int), Evt (fun k => spec_l01Src_l02Segment.l2 k b t m s tag e) (g.f0, g.f1, t', m', s) ∧ Pl b t' ∧ fewI g.f1 := by
  induction d with
  | zero =>
    intro e t m ht he hd
    obtain ⟨g, t', m', h, hp⟩ := l02_j4 b hb s t m ht tag e he
    refine ⟨g, t', m', Evt.succ ?_, hp⟩
    simp only [spec_l01Src_l02Segment.l2]
    exact Evt.neg (by omega) h
  | succ d ih =>
    intro e t m ht he hd
    have hel := he.1
    by_cases g0 : (e.length : Int) > 0
    · have hw : wrap64 ((e.length : Int) - 1) = (e.length : Int) - 1 := w64 (by omega) (by omega)
      obtain ⟨z, hz⟩ : ∃ z, spec_l02Empty.f ((rd_T65 e ((e.length : Int) - 1)).f0) = some z := by
        unfold spec_l02Empty.f
        by_cases h1 : (((rd_T65 e ((e.length : Int) - 1)).f0).length : Int) = 1
        · rw [if_pos h1, if_pos (by omega)]
          exact ⟨_, rfl⟩
        · rw [if_neg h1]
          exact ⟨_, rfl⟩
      by_cases hz1 : z = true
      · obtain ⟨r, t1, m1, e1, h1⟩ := draw_one_ev b hb t m s 20 ht (by decide)
        by_cases hr : r = true
        · obtain ⟨g, t', m', h, hp⟩ := l02_j4 b hb s t1 m1 h1 tag e he
          refine ⟨g, t', m', Evt.succ ?_, hp⟩
          simp only [spec_l01Src_l02Segment.l2, hw, hz, e1, Option.bind_some]
          exact Evt.pos g0 (Evt.pos (by omega) (Evt.pos (by omega) (Evt.pos hz1 (Evt.pos hr h))))
        · obtain ⟨g, t', m', h, hp⟩ := ih (e.take ((e.length : Int) - 1).toNat) t1 m1 h1 ⟨by rw [List.length_take]; omega, fun x hx => he.2 x (List.mem_of_mem_take hx)⟩ (by rw [List.length_take]; omega)
          refine ⟨g, t', m', Evt.succ ?_, hp⟩
          simp only [spec_l01Src_l02Segment.l2, hw, hz, e1, Option.bind_some]
          exact Evt.pos g0 (Evt.pos (by omega) (Evt.pos (by omega) (Evt.pos hz1 (Evt.neg hr (Evt.pos (by omega) h)))))
      · obtain ⟨g, t', m', h, hp⟩ := l02_j4 b hb s t m ht tag e he
        refine ⟨g, t', m', Evt.succ ?_, hp⟩
        simp only [spec_l01Src_l02Segment.l2, hw, hz, Option.bind_some]
        exact Evt.pos g0 (Evt.pos (by omega) (Evt.pos (by omega) (Evt.neg hz1 h)))
    · obtain ⟨g, t', m', h, hp⟩ := l02_j4 b hb s t m ht tag e he
      refine ⟨g, t', m', Evt.succ ?_, hp⟩
      simp only [spec_l01Src_l02Segment.l2]
      exact Evt.neg g0 h
theorem l02_l1 (p q u v : Int) (tag : ByteArray) (n : Int) (e : List EX) (N : Nat) (hN : N ≤ 50) (he : sE N e) (next : ∀ (e' : List EX) (t m : Int), Pl b t → sE (N + 1) e' → ∃ (g : GX) (t' m' : Int), Evt (fun k => spec_l01Src_l02Segment.l0 k (wrap64 (n - 1)) b t m s p q u v tag e') (g.f0, g.f1, t', m', s) ∧ Pl b t' ∧ fewI g.f1) (d : Nat) :
    ∀ (c : Int) (x : List ByteArray) (t m : Int), Pl b t → c ≤ d → c ≤ 10 → (1 ≤ c ∨ x ≠ []) → sT (20 - d) x → d ≤ 20 → ∃ (g : GX) (t' m' : Int), Evt (fun k => spec_l01Src_l02Segment.l1 k n c b t m s p q u v tag e x) (g.f0, g.f1, t', m', s) ∧ Pl b t' ∧ fewI g.f1 := by
  have hel := he.1
  have fin : ∀ (c : Int) (x : List ByteArray) (t m : Int), ¬ c > 0 → Pl b t → x ≠ [] → sT 20 x → ∃ (g : GX) (t' m' : Int), Evt (fun k => spec_l01Src_l02Segment.l1 k n c b t m s p q u v tag e x) (g.f0, g.f1, t', m', s) ∧ Pl b t' ∧ fewI g.f1 := fun c x t m hc ht hx hsx => by
    have hxl := List.length_pos_iff.2 hx
    obtain ⟨r, t1, m1, e1, h1⟩ := draw_one_ev b hb t m s 60 ht (by decide)
    by_cases hr : r = true
    · obtain ⟨y, t2, m2, e2, h2, y0, y1⟩ := n_ev b hb t1 m1 s 3 h1 (by decide)
      have hw : wrap64 (39 + y) = 39 + y := w64 (by omega) (by omega)
      obtain ⟨o, t3, m3, e3, h3, ho⟩ := words_ev b hb t2 m2 s p q u v (39 + y) h2 (by omega)
      obtain ⟨g, t', m', h, hp⟩ := next (e ++ [(⟨x.set (0 : Int).toNat o⟩ : EX)]) t3 m3 h3 (sE_snoc he (sT_few (sT_set hsx _ ho) (by decide)))
      refine ⟨g, t', m', Evt.succ ?_, hp⟩
      simp only [spec_l01Src_l02Segment.l1, e1, e2, Option.bind_some, hw]
      exact Evt.neg hc (Evt.pos hr (Evt.bind e3 (Evt.pos (by omega) (Evt.pos (by omega) h))))
    · obtain ⟨g, t', m', h, hp⟩ := next (e ++ [(⟨x⟩ : EX)]) t1 m1 h1 (sE_snoc he (sT_few hsx (by decide)))
      refine ⟨g, t', m', Evt.succ ?_, hp⟩
      simp only [spec_l01Src_l02Segment.l1, e1, Option.bind_some]
      exact Evt.neg hc (Evt.neg hr (Evt.pos (by omega) h))
  induction d with
  | zero =>
    intro c x t m ht hc _ hx hsx _
    exact fin c x t m (by omega) ht (hx.resolve_left (by omega)) hsx
  | succ d ih =>
    intro c x t m ht hc hc10 hx hsx hd
    by_cases g0 : c > 0
    · have hw : wrap64 (c - 1) = c - 1 := w64 (by omega) (by omega)
      have hxl := hsx.1
      obtain ⟨y, t1, m1, e1, h1, y0, y1⟩ := n_ev b hb t m s 6 ht (by decide)
      obtain ⟨o, t2, m2, e2, h2, ho⟩ := words_ev b hb t1 m1 s p q u v y h1 (by omega)
      have hk := sT_snoc hsx ho
      obtain ⟨g, t', m', h, hp⟩ := ih (c - 1) (x ++ [o]) t2 m2 h2 (by omega) (by omega) (.inr (by simp)) ⟨by have := hk.1; omega, hk.2⟩ (by omega)
      refine ⟨g, t', m', Evt.succ ?_, hp⟩
      simp only [spec_l01Src_l02Segment.l1, e1, Option.bind_some, hw]
      exact Evt.pos g0 (Evt.bind e2 (Evt.pos (by omega) h))
    · exact fin c x t m g0 ht (hx.resolve_left (by omega)) ⟨by have := hsx.1; omega, hsx.2⟩
theorem l02_l0 (p q u v : Int) (tag : ByteArray) (d : Nat) : ∀ (n : Int) (e : List EX) (t m : Int), Pl b t → n ≤ d → n ≤ 40 → d ≤ 40 → sE (40 - d) e → ∃ (g : GX) (t' m' : Int), Evt (fun k => spec_l01Src_l02Segment.l0 k n b t m s p q u v tag e) (g.f0, g.f1, t', m', s) ∧ Pl b t' ∧ fewI g.f1 := by
  have fin : ∀ (n : Int) (e : List EX) (t m : Int), ¬ n > 0 → Pl b t → sE 100 e → ∃ (g : GX) (t' m' : Int), Evt (fun k => spec_l01Src_l02Segment.l0 k n b t m s p q u v tag e) (g.f0, g.f1, t', m', s) ∧ Pl b t' ∧ fewI g.f1 := fun n e t m hn ht he => by
    obtain ⟨g, t', m', h, hp⟩ := l02_l2 b hb s tag e.length e t m ht he (Nat.le_refl _)
    refine ⟨g, t', m', Evt.succ ?_, hp⟩
    simp only [spec_l01Src_l02Segment.l0]
    exact Evt.neg hn h
  induction d with
  | zero =>
    intro n e t m ht hn _ _ he
    exact fin n e t m (by omega) ht ⟨by have := he.1; omega, he.2⟩
  | succ d ih =>
    intro n e t m ht hn hn40 hd he
    by_cases g0 : n > 0
    · have hw : wrap64 (n - 1) = n - 1 := w64 (by omega) (by omega)
      obtain ⟨y, t1, m1, e1, h1, y0, y1⟩ := n_ev b hb t m s 2 ht (by decide)
      obtain ⟨z, t2, m2, e2, h2, z0, z1⟩ := n_ev b hb t1 m1 s 4 h1 (by decide)
      have hyz : 0 ≤ y * z ∧ y * z ≤ 3 := by
        have : y = 0 ∨ y = 1 := by omega
        rcases this with rfl | rfl
        · omega
        · omega
      have hw1 : wrap64 (y * z) = y * z := w64 (by omega) (by omega)
      have hw2 : wrap64 (1 + y * z) = 1 + y * z := w64 (by omega) (by omega)
      obtain ⟨g, t', m', h, hp⟩ := l02_l1 b hb s p q u v tag n e (40 - (d + 1)) (by omega) he (fun e' t m ht he' => by
        rw [hw]
        exact ih (n - 1) e' t m ht (by omega) (by omega) (by omega) ⟨by have := he'.1; omega, he'.2⟩) 20 (1 + y * z) [] t2 m2 h2 (by omega) (by omega) (.inl (by omega)) ⟨by simp, by simp⟩ (Nat.le_refl _)
      refine ⟨g, t', m', Evt.succ ?_, hp⟩
      simp only [spec_l01Src_l02Segment.l0, e1, e2, Option.bind_some, hw1, hw2]
      exact Evt.pos g0 h
    · exact fin n e t m g0 ht ⟨by have := he.1; omega, he.2⟩
theorem l02_ev (t m : Int) (ht : Pl b t) : ∃ (g : GX) (t' m' : Int), Evt (fun k => spec_l01Src_l02Segment.f k b t m s) (g.f0, g.f1, t', m', s) ∧ Pl b t' ∧ fewI g.f1 := by
  unfold spec_l01Src_l02Segment.f
  obtain ⟨tag, t1, m1, e1, h1, _⟩ := pick_ev b hb t m s ht [(⟨#[68, 79, 67]⟩ : ByteArray), (⟨#[76, 73, 78]⟩ : ByteArray), (⟨#[78, 79, 84]⟩ : ByteArray), (⟨#[65, 66, 67]⟩ : ByteArray), (⟨#[73, 88, 72]⟩ : ByteArray)] (by decide) (by decide)
  obtain ⟨y, t2, m2, e2, h2, y0, y1⟩ := n_ev b hb t1 m1 s 5 h1 (by decide)
  obtain ⟨r, t3, m3, e3, h3⟩ := draw_one_ev b hb t2 m2 s 40 h2 (by decide)
  have tail : ∀ n t m, Pl b t → n ≤ 40 → ∃ (g : GX) (t' m' : Int), Evt (fun k => spec_l01Src_l02Segment.j0 k n b t m s 39 43 58 63 tag) (g.f0, g.f1, t', m', s) ∧ Pl b t' ∧ fewI g.f1 := fun n t m ht hn => by
    obtain ⟨g, t', m', h, hp⟩ := l02_l0 b hb s 39 43 58 63 tag 40 n [] t m ht (by omega) hn (Nat.le_refl _) ⟨by simp, by simp⟩
    refine ⟨g, t', m', Evt.succ ?_, hp⟩
    simp only [spec_l01Src_l02Segment.j0]
    exact h
  simp only [spec_l01Plain.f, e1, e2, e3, Option.bind_some]
  by_cases hr : r = true
  · obtain ⟨z, t4, m4, e4, h4, z0, z1⟩ := n_ev b hb t3 m3 s 3 h3 (by decide)
    have hw : wrap64 (9 + z) = 9 + z := w64 (by omega) (by omega)
    obtain ⟨g, t', m', h, hp⟩ := tail (9 + z) t4 m4 h4 (by omega)
    refine ⟨g, t', m', Evt.pos hr ?_, hp⟩
    simp only [e4, Option.bind_some, hw]
    exact h
  · obtain ⟨g, t', m', h, hp⟩ := tail y t3 m3 h3 (by omega)
    exact ⟨g, t', m', Evt.neg hr h, hp⟩
end
end Go.Proofs.YtjbdljhjplidmaaDoor.QF
set_option linter.unusedVariables false
namespace Go.Proofs.YtjbdljhjplidmaaDoor.QF
open Go.RowKit Go.Proofs.YtjbdljhjplidmaaDoorW.PrintWords Go.Proofs.YtjbdljhjplidmaaDoor.Ev0
abbrev RX := S57
def okRow2 (r : RX) : Prop := 0 ≤ r.f1 ∧ r.f1 ≤ 1 ∧ 1 ≤ r.f2 ∧ r.f2 ≤ 20 ∧ r.f3.size ≤ 100
theorem tab_rows2 (k : Int) : ∀ r ∈ tab k, okRow2 r := by
  rcases kinds k with h | ⟨_, h⟩
  · rcases h with rfl | rfl | rfl | rfl | rfl | rfl | rfl <;>
      exact fun r hr => (by simp [tab] at hr; rcases hr with rfl | rfl | rfl <;> exact ⟨by decide, by decide, by decide, by decide, by decide⟩)
  · rw [h]
    exact fun r hr => (by cases hr)
def sB (n : Nat) (q : List GX) : Prop := q.length ≤ n ∧ ∀ x ∈ q, fewI x.f1
theorem sB_snoc {n : Nat} {l : List GX} {x : GX} (h : sB n l) (hx : fewI x.f1) : sB (n + 1) (l ++ [x]) :=
  ⟨by have := h.1; simp; omega, fun y hy => (List.mem_append.1 hy).elim (h.2 y) (fun e => by rw [List.mem_singleton.1 e]; exact hx)⟩
section
variable (b : List Int) (hb : (b.length : Int) ≤ 1048576) (s : Int) (T : List RX) (hT : T.length ≤ 3) (hrows : ∀ r ∈ T, okRow2 r)
def Good (F : Nat → Option (List GX × Int × Int × Int)) : Prop := ∃ q t' m', Evt F (q, t', m', s) ∧ Pl b t' ∧ sB 200 q
theorem Good.step {F G : Nat → Option (List GX × Int × Int × Int)} (h : Good b s F) (hs : ∀ r, Evt F r → Evt G r) : Good b s G := by
  obtain ⟨q, t', m', h1, h2⟩ := h
  exact ⟨q, t', m', hs _ h1, h2⟩
include hb
theorem body_j10 (q : List GX) (hq : sB 100 q) (x : Bool) (hx : x = true → 0 < q.length) (t m : Int) (ht : Pl b t) : Good b s (fun k => spec_l01Src_l04Body.j10 k q x b t m s) := by
  have hql := hq.1
  by_cases h : x = true
  · have hpos := hx h
    obtain ⟨r, t1, m1, e1, h1, z0, z1⟩ := n_ev b hb t m s (q.length : Int) ht (by omega)
    obtain ⟨y, t2, m2, e2, h2, y0, y1⟩ := n_ev b hb t1 m1 s 3 h1 (by decide)
    have hr : r < (q.length : Int) := by omega
    have hw : wrap64 (r + 1) = r + 1 := w64 (by omega) (by omega)
    by_cases y00 : y = 0
    · refine ⟨q.eraseIdx r.toNat, t2, m2, Evt.succ ?_, h2, by have := List.length_eraseIdx_le q r.toNat; omega, fun z hz => hq.2 z (List.mem_of_mem_eraseIdx hz)⟩
      simp only [spec_l01Src_l04Body.j10, e1, e2, Option.bind_some, hw]
      exact Evt.pos h (Evt.pos y00 (Evt.pos z0 (Evt.pos (by omega) (Evt.pos (by omega) (Evt.pos (by omega) (Evt.pure _))))))
    by_cases y11 : y = 1
    · have hk := sB_snoc hq (x := (⟨(rd_T36 q r).f0, (rd_T36 q r).f1⟩ : GX)) (by
        show fewI (rd_T36 q r).f1
        unfold rd_T36
        rw [getD_at q _ _ (by omega)]
        exact hq.2 _ (List.getElem_mem _))
      refine ⟨_, t2, m2, Evt.succ ?_, h2, by have := hk.1; omega, hk.2⟩
      simp only [spec_l01Src_l04Body.j10, e1, e2, Option.bind_some, hw]
      exact Evt.pos h (Evt.neg y00 (Evt.pos y11 (Evt.pos z0 (Evt.pos hr (Evt.pos (by omega) (Evt.pure _))))))
    obtain ⟨g, t3, m3, e3, h3, hg⟩ := l02_ev b hb s t2 m2 h2
    refine ⟨q.set r.toNat (⟨g.f0, g.f1⟩ : GX), t3, m3, Evt.succ ?_, h3, by rw [List.length_set]; omega, fun z hz => (List.mem_or_eq_of_mem_set hz).elim (hq.2 z) (fun e => by rw [e]; exact hg)⟩
    simp only [spec_l01Src_l04Body.j10, e1, e2, Option.bind_some, hw]
    exact Evt.pos h (Evt.neg y00 (Evt.neg y11 (Evt.bind e3 (Evt.pos z0 (Evt.pos hr (Evt.pure _))))))
  · refine ⟨q, t, m, Evt.succ ?_, ht, by omega, hq.2⟩
    simp only [spec_l01Src_l04Body.j10]
    exact Evt.neg h (Evt.pure _)
theorem body_end (q : List GX) (hq : sB 100 q) (i : Int) (hi : ¬ i < (T.length : Int)) (t m : Int) (ht : Pl b t) : Good b s (fun k => spec_l01Src_l04Body.l0 k q T i b t m s) := by
  obtain ⟨r, t1, m1, e1, h1⟩ := draw_one_ev b hb t m s 8 ht (by decide)
  by_cases hr : r = true
  · refine (body_j10 b hb s q hq (decide ((q.length : Int) > 0)) (fun h => by have := of_decide_eq_true h; omega) t1 m1 h1).step b s (fun o ho => Evt.succ ?_)
    simp only [spec_l01Src_l04Body.l0, e1, Option.bind_some]
    exact Evt.neg hi (Evt.pos hr ho)
  · refine (body_j10 b hb s q hq false (fun h => by cases h) t1 m1 h1).step b s (fun o ho => Evt.succ ?_)
    simp only [spec_l01Src_l04Body.l0, e1, Option.bind_some]
    exact Evt.neg hi (Evt.neg hr ho)
section
variable (i : Int) (hi0 : 0 ≤ i) (hiT : i < (T.length : Int)) (q : List GX) (hq : sB 90 q) (n : Int)
  (next : ∀ (g : GX) (t m : Int), Pl b t → fewI g.f1 → Good b s (fun k => spec_l01Src_l04Body.l1 k (q ++ [g]) T i (wrap64 (n - 1)) b t m s))
include hi0 hiT hq next
theorem body_j9 (parts : List ByteArray) (hp : sT 200 parts) (x : Bool) (hx : x = true → 0 < parts.length) (t m : Int) (ht : Pl b t) : Good b s (fun k => spec_l01Src_l04Body.j9 k q T i n parts x b t m s) := by
  have hql := hq.1
  have hpl := hp.1
  by_cases h : x = true
  · have hpos := hx h
    obtain ⟨r, t1, m1, e1, h1, z0, z1⟩ := n_ev b hb t m s (parts.length : Int) ht (by omega)
    obtain ⟨p, t2, m2, e2, h2, hpm⟩ := pick_ev b hb t1 m1 s h1 [(⟨#[]⟩ : ByteArray), (⟨#[48]⟩ : ByteArray), (⟨#[45, 49]⟩ : ByteArray), (⟨#[48, 49]⟩ : ByteArray), (⟨#[120]⟩ : ByteArray), (⟨#[49, 48, 48, 48, 48, 48, 49]⟩ : ByteArray), (⟨#[49, 48, 48, 48, 48, 48, 48, 48, 48, 49]⟩ : ByteArray), (⟨#[78, 65, 77, 69, 45, 84, 79, 79, 45, 76, 79, 78, 71]⟩ : ByteArray)] (by decide) (by decide)
    have hps : p.size ≤ 1000 := by
      simp only [List.mem_cons, List.not_mem_nil, or_false] at hpm
      rcases hpm with rfl | rfl | rfl | rfl | rfl | rfl | rfl | rfl <;> decide
    have hset := sT_set hp r.toNat hps
    obtain ⟨g, hg, hgf⟩ := seg_ev (rd_T57 T i).f0 (parts.set r.toNat p) ⟨by have := hset.1; omega, hset.2⟩
    refine (next g t2 m2 h2 hgf).step b s (fun o ho => Evt.succ ?_)
    simp only [spec_l01Src_l04Body.j9, e1, e2, Option.bind_some]
    exact Evt.pos h (Evt.pos z0 (Evt.pos (by omega) (Evt.pos hi0 (Evt.pos hiT (Evt.bind hg (Evt.pos (by omega) ho))))))
  · obtain ⟨g, hg, hgf⟩ := seg_ev (rd_T57 T i).f0 parts ⟨by omega, hp.2⟩
    refine (next g t m ht hgf).step b s (fun o ho => Evt.succ ?_)
    simp only [spec_l01Src_l04Body.j9]
    exact Evt.neg h (Evt.pos hi0 (Evt.pos hiT (Evt.bind hg (Evt.pos (by omega) ho))))
theorem body_j8 (parts : List ByteArray) (hp : sT 200 parts) (t m : Int) (ht : Pl b t) : Good b s (fun k => spec_l01Src_l04Body.j8 k q T i n parts b t m s) := by
  obtain ⟨r, t1, m1, e1, h1⟩ := draw_one_ev b hb t m s 30 ht (by decide)
  by_cases hr : r = true
  · refine (body_j9 b hb s T i hi0 hiT q hq n next parts hp (decide ((parts.length : Int) > 0)) (fun h => by have := of_decide_eq_true h; omega) t1 m1 h1).step b s (fun o ho => Evt.succ ?_)
    simp only [spec_l01Src_l04Body.j8, e1, Option.bind_some]
    exact Evt.pos hr ho
  · refine (body_j9 b hb s T i hi0 hiT q hq n next parts hp false (fun h => by cases h) t1 m1 h1).step b s (fun o ho => Evt.succ ?_)
    simp only [spec_l01Src_l04Body.j8, e1, Option.bind_some]
    exact Evt.neg hr ho
theorem body_j7 (parts : List ByteArray) (hp : sT 100 parts) (t m : Int) (ht : Pl b t) : Good b s (fun k => spec_l01Src_l04Body.j7 k q T i n parts b t m s) := by
  have hpl := hp.1
  obtain ⟨r, t1, m1, e1, h1⟩ := draw_one_ev b hb t m s 30 ht (by decide)
  by_cases hr : r = true
  · have hk := sT_snoc hp (x := (⟨#[88]⟩ : ByteArray)) (by decide)
    refine (body_j8 b hb s T i hi0 hiT q hq n next _ ⟨by have := hk.1; omega, hk.2⟩ t1 m1 h1).step b s (fun o ho => Evt.succ ?_)
    simp only [spec_l01Src_l04Body.j7, e1, Option.bind_some]
    exact Evt.pos hr (Evt.pos (by omega) ho)
  · refine (body_j8 b hb s T i hi0 hiT q hq n next parts ⟨by omega, hp.2⟩ t1 m1 h1).step b s (fun o ho => Evt.succ ?_)
    simp only [spec_l01Src_l04Body.j7, e1, Option.bind_some]
    exact Evt.neg hr ho
theorem body_l2 (hf : (rd_T57 T i).f3.size ≤ 100) (d : Nat) : ∀ (a : Int) (parts : List ByteArray) (t m : Int), Pl b t → 0 ≤ a → a ≤ ((rd_T57 T i).f3.size : Int) → ((rd_T57 T i).f3.size : Int) - a ≤ d → (parts.length : Int) ≤ a → (∀ x ∈ parts, x.size ≤ 1000) →
    Good b s (fun k => spec_l01Src_l04Body.l2 k q T i n parts a b t m s) := by
  induction d with
  | zero =>
    intro a parts t m ht a0 a1 hd hp hs
    refine (body_j7 b hb s T i hi0 hiT q hq n next parts ⟨by omega, hs⟩ t m ht).step b s (fun o ho => Evt.succ ?_)
    simp only [spec_l01Src_l04Body.l2]
    exact Evt.pos hi0 (Evt.pos hiT (Evt.neg (by omega) ho))
  | succ d ih =>
    intro a parts t m ht a0 a1 hd hp hs
    by_cases g : a < ((rd_T57 T i).f3.size : Int)
    · have hw : wrap64 (a + 1) = a + 1 := w64 (by omega) (by omega)
      by_cases h63 : bt (rd_T57 T i).f3 a = 63
      · obtain ⟨r, t1, m1, e1, h1⟩ := draw_one_ev b hb t m s 2 ht (by decide)
        by_cases hr : r = true
        · refine (body_j7 b hb s T i hi0 hiT q hq n next parts ⟨by omega, hs⟩ t1 m1 h1).step b s (fun o ho => Evt.succ ?_)
          simp only [spec_l01Src_l04Body.l2, e1, Option.bind_some]
          exact Evt.pos hi0 (Evt.pos hiT (Evt.pos g (Evt.pos a0 (Evt.pos h63 (Evt.pos hr ho)))))
        · refine (ih (a + 1) parts t1 m1 h1 (by omega) (by omega) (by omega) (by omega) hs).step b s (fun o ho => Evt.succ ?_)
          simp only [spec_l01Src_l04Body.l2, e1, Option.bind_some, hw]
          exact Evt.pos hi0 (Evt.pos hiT (Evt.pos g (Evt.pos a0 (Evt.pos h63 (Evt.neg hr ho)))))
      · obtain ⟨v, t1, m1, e1, h1, hv⟩ := value_ev b hb t m s (bt (rd_T57 T i).f3 a) ht
        refine (ih (a + 1) (parts ++ [v]) t1 m1 h1 (by omega) (by omega) (by omega) (by simp; omega) (fun x hx => (List.mem_append.1 hx).elim (hs x) (fun e => by rw [List.mem_singleton.1 e]; exact hv))).step b s (fun o ho => Evt.succ ?_)
        simp only [spec_l01Src_l04Body.l2, hw]
        exact Evt.pos hi0 (Evt.pos hiT (Evt.pos g (Evt.pos a0 (Evt.neg h63 (Evt.bind e1 (Evt.pos (by omega) ho))))))
    · refine (body_j7 b hb s T i hi0 hiT q hq n next parts ⟨by omega, hs⟩ t m ht).step b s (fun o ho => Evt.succ ?_)
      simp only [spec_l01Src_l04Body.l2]
      exact Evt.pos hi0 (Evt.pos hiT (Evt.neg g ho))
end
theorem body_l1 (i : Int) (hi0 : 0 ≤ i) (hiT : i < (T.length : Int)) (hf : (rd_T57 T i).f3.size ≤ 100) (M : Nat) (hM : M ≤ 90) (next : ∀ (q : List GX) (t m : Int), Pl b t → sB M q → Good b s (fun k => spec_l01Src_l04Body.l0 k q T (wrap64 (i + 1)) b t m s)) (d : Nat) :
    ∀ (q : List GX) (n t m : Int), Pl b t → n ≤ d → n ≤ 100 → d ≤ M → sB (M - d) q → Good b s (fun k => spec_l01Src_l04Body.l1 k q T i n b t m s) := by
  induction d with
  | zero =>
    intro q n t m ht hn _ hd hq
    refine (next q t m ht ⟨by have := hq.1; omega, hq.2⟩).step b s (fun o ho => Evt.succ ?_)
    simp only [spec_l01Src_l04Body.l1]
    exact Evt.neg (by omega) ho
  | succ d ih =>
    intro q n t m ht hn hn100 hd hq
    by_cases g : n > 0
    · have hw : wrap64 (n - 1) = n - 1 := w64 (by omega) (by omega)
      refine (body_l2 b hb s T i hi0 hiT q ⟨by have := hq.1; omega, hq.2⟩ n (fun g t m ht hg => by
        rw [hw]
        have hk := sB_snoc hq hg
        exact ih (q ++ [g]) (n - 1) t m ht (by omega) (by omega) (by omega) ⟨by have := hk.1; omega, hk.2⟩) hf _ 0 [] t m ht (Int.le_refl _) (by omega) (Int.le_refl _) (by simp) (by simp)).step b s (fun o ho => Evt.succ ?_)
      simp only [spec_l01Src_l04Body.l1]
      exact Evt.pos g ho
    · refine (next q t m ht ⟨by have := hq.1; omega, hq.2⟩).step b s (fun o ho => Evt.succ ?_)
      simp only [spec_l01Src_l04Body.l1]
      exact Evt.neg g ho
include hT hrows
theorem body_l0 (d : Nat) : ∀ (i : Int) (q : List GX) (t m : Int), Pl b t → 0 ≤ i → i ≤ (T.length : Int) → (T.length : Int) - i = d → d ≤ 3 → sB (90 - 30 * d) q → Good b s (fun k => spec_l01Src_l04Body.l0 k q T i b t m s) := by
  induction d with
  | zero =>
    intro i q t m ht i0 i1 hd _ hq
    exact body_end b hb s T q ⟨by have := hq.1; omega, hq.2⟩ i (by omega) t m ht
  | succ d ih =>
    intro i q t m ht i0 i1 hd hd3 hq
    have hiT : i < (T.length : Int) := by omega
    have hr : okRow2 (rd_T57 T i) := by
      unfold rd_T57
      rw [getD_at T _ _ (by omega)]
      exact hrows _ (List.getElem_mem _)
    obtain ⟨r0, r1, r2, r3, r4⟩ := hr
    have hw : wrap64 (i + 1) = i + 1 := w64 (by omega) (by omega)
    have go : ∀ n t m, Pl b t → n ≤ 30 → Good b s (fun k => spec_l01Src_l04Body.j4 k q T i n b t m s) := fun n t m ht hn => by
      refine (body_l1 b hb s T i i0 hiT r4 (90 - 30 * d) (by omega) (fun q' t m ht hq' => by
        rw [hw]
        exact ih (i + 1) q' t m ht (by omega) (by omega) (by omega) (by omega) hq') 30 q n t m ht (by omega) (by omega) (by omega) ⟨by have := hq.1; omega, hq.2⟩).step b s (fun o ho => Evt.succ ?_)
      simp only [spec_l01Src_l04Body.j4]
      exact ho
    have go3 : ∀ n x t m, Pl b t → n ≤ 30 → Good b s (fun k => spec_l01Src_l04Body.j3 k q T i n x b t m s) := fun n x t m ht hn => by
      by_cases hx : x = true
      · refine (go (rd_T57 T i).f2 t m ht (by omega)).step b s (fun o ho => Evt.succ ?_)
        simp only [spec_l01Src_l04Body.j3]
        exact Evt.pos hx (Evt.pos i0 (Evt.pos hiT ho))
      · refine (go n t m ht hn).step b s (fun o ho => Evt.succ ?_)
        simp only [spec_l01Src_l04Body.j3]
        exact Evt.neg hx ho
    have go2 : ∀ n t m, Pl b t → n ≤ 30 → Good b s (fun k => spec_l01Src_l04Body.j2 k q T i n b t m s) := fun n t m ht hn => by
      by_cases hx : n > (rd_T57 T i).f2
      · obtain ⟨r, t1, m1, e1, h1⟩ := draw_one_ev b hb t m s 8 ht (by decide)
        refine (go3 n (!r) t1 m1 h1 hn).step b s (fun o ho => Evt.succ ?_)
        simp only [spec_l01Src_l04Body.j2, e1, Option.bind_some]
        exact Evt.pos i0 (Evt.pos hiT (Evt.pos hx ho))
      · refine (go3 n false t m ht hn).step b s (fun o ho => Evt.succ ?_)
        simp only [spec_l01Src_l04Body.j2]
        exact Evt.pos i0 (Evt.pos hiT (Evt.neg hx ho))
    have go1 : ∀ n x t m, Pl b t → n ≤ 30 → Good b s (fun k => spec_l01Src_l04Body.j1 k q T i n x b t m s) := fun n x t m ht hn => by
      by_cases hx : x = true
      · obtain ⟨r, t1, m1, e1, h1, z0, z1⟩ := n_ev b hb t m s 2 ht (by decide)
        have hw2 : wrap64 ((rd_T57 T i).f2 + r) = (rd_T57 T i).f2 + r := w64 (by omega) (by omega)
        refine (go2 ((rd_T57 T i).f2 + r) t1 m1 h1 (by omega)).step b s (fun o ho => Evt.succ ?_)
        simp only [spec_l01Src_l04Body.j1, e1, Option.bind_some, hw2]
        exact Evt.pos hx (Evt.pos i0 (Evt.pos hiT ho))
      · refine (go2 n t m ht hn).step b s (fun o ho => Evt.succ ?_)
        simp only [spec_l01Src_l04Body.j1]
        exact Evt.neg hx ho
    obtain ⟨r, t1, m1, e1, h1, z0, z1⟩ := n_ev b hb t m s 2 ht (by decide)
    have hw1 : wrap64 ((rd_T57 T i).f1 + r) = (rd_T57 T i).f1 + r := w64 (by omega) (by omega)
    by_cases hx : (rd_T57 T i).f2 > 1
    · obtain ⟨y, t2, m2, e2, h2⟩ := draw_one_ev b hb t1 m1 s 40 h1 (by decide)
      refine (go1 ((rd_T57 T i).f1 + r) y t2 m2 h2 (by omega)).step b s (fun o ho => Evt.succ ?_)
      simp only [spec_l01Src_l04Body.l0, e1, e2, Option.bind_some, hw1]
      exact Evt.pos hiT (Evt.pos i0 (Evt.pos hx ho))
    · refine (go1 ((rd_T57 T i).f1 + r) false t1 m1 h1 (by omega)).step b s (fun o ho => Evt.succ ?_)
      simp only [spec_l01Src_l04Body.l0, e1, Option.bind_some, hw1]
      exact Evt.pos hiT (Evt.pos i0 (Evt.neg hx ho))
end
theorem body_ev (b : List Int) (hb : (b.length : Int) ≤ 1048576) (s t m k : Int) (ht : Pl b t) : Good b s (fun n => spec_l01Src_l04Body.f n b t m s k) := by
  have h3 := (tab_rows k).2
  unfold spec_l01Src_l04Body.f
  refine (body_l0 b hb s (tab k) h3 (tab_rows2 k) (tab k).length 0 [] t m ht (Int.le_refl _) (by omega) (by omega) h3 ⟨by simp, by simp⟩).step b s (fun o ho => Evt.bind (specTab_ev k) ho)
theorem drawTab_ev (b : List Int) (hb : (b.length : Int) ≤ 1048576) : ∃ (k : Int) (q : List GX), Evt (fun n => spec_DrawTableCheck.f n b) (k, q) ∧ sB 200 q := by
  obtain ⟨m, s, e0, s0, s1⟩ := src_ev b hb
  obtain ⟨r, t1, m1, e1, h1, z0, z1⟩ := n_ev b hb 0 m s 7 ⟨Int.le_refl _, by omega⟩ (by decide)
  obtain ⟨q, t2, m2, e2, h2, hq⟩ := body_ev b hb s t1 m1 (wrap64 (1 + r)) h1
  obtain ⟨x, t3, m3, e3, h3⟩ := draw_one_ev b hb t2 m2 s 15 h2 (by decide)
  unfold spec_DrawTableCheck.f
  by_cases hx : x = true
  · obtain ⟨y, t4, m4, e4, h4, y0, y1⟩ := n_ev b hb t3 m3 s 10 h3 (by decide)
    refine ⟨wrap64 (y - 1), q, Evt.bind e0 ?_, hq⟩
    simp only [e1, Option.bind_some]
    refine Evt.bind e2 ?_
    simp only [e3, Option.bind_some]
    refine Evt.pos hx ?_
    simp only [e4, Option.bind_some]
    exact Evt.pure _
  · refine ⟨wrap64 (1 + r), q, Evt.bind e0 ?_, hq⟩
    simp only [e1, Option.bind_some]
    refine Evt.bind e2 ?_
    simp only [e3, Option.bind_some]
    exact Evt.neg hx (Evt.pure _)
end Go.Proofs.YtjbdljhjplidmaaDoor.QF
set_option linter.unusedVariables false
namespace Go.Proofs.YtjbdljhjplidmaaDoor.Pure
open Go.RowKit Go.Proofs.YtjbdljhjplidmaaDoor.QF Go.Proofs.YtjbdljhjplidmaaDoorW.PrintWords Go.Proofs.YtjbdljhjplidmaaDoor.Ev0
theorem fits_at (body : List GX) (T : List RX) : ∀ a : Int, Fits body T a → ∀ j : Int, a ≤ j → j < (body.length : Int) →
    ∃ r ∈ T, (rd_T36 body j).f0 = r.f0 ∧ Evt (fun k => impl_FormRight.f k r.f3 (rd_T36 body j).f0 (rd_T36 body j).f1) (-1) := by
  induction T with
  | nil =>
    intro a h j h0 h1
    have : a = (body.length : Int) := h
    omega
  | cons r T ih =>
    intro a h j h0 h1
    obtain ⟨e, _, _, _, _, h2, h3⟩ := h
    by_cases g : j < e
    · obtain ⟨g1, g2⟩ := h2 j h0 g
      exact ⟨r, List.mem_cons_self .., g1, g2⟩
    · obtain ⟨r', hr, g1⟩ := ih e h3 j (by omega) h1
      exact ⟨r', List.mem_cons_of_mem _ hr, g1⟩
theorem kind_name (k : Int) (h : tab k ≠ []) : ∃ s : ByteArray, impl_KindName.f k = some s ∧ s.toList ≠ ([] : List UInt8) := by
  have hk : 1 ≤ k ∧ k ≤ 7 := by
    rcases kinds k with h' | ⟨_, h0⟩
    · omega
    · exact absurd h0 h
  have hw : wrap64 (k - 1) = k - 1 := w64 (by omega) (by omega)
  unfold impl_KindName.f
  simp only [within_ev, Option.bind_some, hw]
  rw [if_pos (B_true hk), if_pos (by omega), if_pos (by simp; omega)]
  refine ⟨_, rfl, fun e => ?_⟩
  have hm := rdT_mem [(⟨#[79, 82, 68, 69, 82]⟩ : ByteArray), (⟨#[65, 78, 83, 87, 69, 82]⟩ : ByteArray), (⟨#[83, 69, 78, 84]⟩ : ByteArray), (⟨#[71, 79, 84]⟩ : ByteArray), (⟨#[83, 84, 79, 67, 75]⟩ : ByteArray), (⟨#[65, 68, 74, 85, 83, 84]⟩ : ByteArray), (⟨#[72, 69, 65, 82, 68]⟩ : ByteArray)] (k - 1) (by omega) (by simp; omega)
  have hz := bytes_nil.1 e
  have all : ∀ x ∈ [(⟨#[79, 82, 68, 69, 82]⟩ : ByteArray), (⟨#[65, 78, 83, 87, 69, 82]⟩ : ByteArray), (⟨#[83, 69, 78, 84]⟩ : ByteArray), (⟨#[71, 79, 84]⟩ : ByteArray), (⟨#[83, 84, 79, 67, 75]⟩ : ByteArray), (⟨#[65, 68, 74, 85, 83, 84]⟩ : ByteArray), (⟨#[72, 69, 65, 82, 68]⟩ : ByteArray)], x.size ≠ 0 := fun x hx => by
    simp only [List.mem_cons, List.not_mem_nil, or_false] at hx
    rcases hx with rfl | rfl | rfl | rfl | rfl | rfl | rfl <;> decide
  exact all _ hm hz
theorem tag_of (k : Int) (i : Int) (h0 : 0 ≤ i) (h1 : i < ((tab k).length : Int)) : Evt (fun n => impl_TagOf.f n k i) (rd_T57 (tab k) i).f0 := by
  have h3 := (tab_rows k).2
  unfold impl_TagOf.f
  refine Evt.bind (implTab_ev k) ?_
  have hw : wrap64 (((tab k).length : Int) - 1) = ((tab k).length : Int) - 1 := w64 (by omega) (by omega)
  simp only [within_ev, Option.bind_some, hw]
  exact Evt.pos (B_true (by omega)) (Evt.pos h0 (Evt.pos h1 (Evt.pure _)))
theorem tab_head (k : Int) (h : tab k ≠ []) : ∃ f rest, tab k = (⟨sDOC, 1, 1, f⟩ : RX) :: rest ∧ ∀ r ∈ rest, r.f0.toList ≠ sDOC.toList := by
  rcases kinds k with h | ⟨_, h0⟩
  · rcases h with rfl | rfl | rfl | rfl | rfl | rfl | rfl <;>
      exact ⟨_, _, rfl, fun r hr => (by simp at hr; rcases hr with rfl | rfl <;> (rw [Lib.toList_data, Lib.toList_data]; decide))⟩
  · exact absurd h0 h
theorem loop_one (k : Int) (body : List GX) (he : fewB body) (hl : body.length ≤ 400) (i : Int) (i0 : 0 ≤ i) (i1 : i < (body.length : Int)) (q : Int) (q0 : 0 ≤ q) (q1 : q < ((tab k).length : Int))
    (ht : (rd_T36 body i).f0 = (rd_T57 (tab k) q).f0) (hf : Evt (fun n => impl_FormRight.f n (rd_T57 (tab k) q).f3 (rd_T36 body i).f0 (rd_T36 body i).f1) (-1))
    (next : Evt (fun n => laws_FnTables.l0 n k body (tab k) (wrap64 (i + 1))) true) (d : Nat) : ∀ (b : Bool) (p : Int), 0 ≤ p → p ≤ ((tab k).length : Int) → ((tab k).length : Int) - p ≤ d → (b = true ∨ p ≤ q) → Evt (fun n => laws_FnTables.l1 n k body (tab k) i b p) true := by
  have h3 := (tab_rows k).2
  have fin : ∀ (b : Bool) (p : Int), ¬ p < ((tab k).length : Int) → b = true → Evt (fun n => laws_FnTables.l1 n k body (tab k) i b p) true := fun b p hp hb => by
    apply Evt.succ
    simp only [laws_FnTables.l1]
    exact Evt.neg hp (Evt.pos hb next)
  induction d with
  | zero =>
    intro b p p0 p1 hd hb
    exact fin b p (by omega) (hb.resolve_right (by omega))
  | succ d ih =>
    intro b p p0 p1 hd hb
    by_cases g : p < ((tab k).length : Int)
    · have hw : wrap64 (p + 1) = p + 1 := w64 (by omega) (by omega)
      by_cases b1 : b = true
      · apply Evt.succ
        simp only [laws_FnTables.l1, hw]
        exact Evt.pos g (Evt.pos b1 (ih true (p + 1) (by omega) (by omega) (by omega) (.inl rfl)))
      have hpq := hb.resolve_left b1
      have out : ∀ c : Bool, (p = q → c = true) → Evt (fun n => laws_FnTables.l1 n k body (tab k) i c (p + 1)) true := fun c hc => ih c (p + 1) (by omega) (by omega) (by omega) (by
        by_cases e : p = q
        · exact .inl (hc e)
        · exact .inr (by omega))
      apply Evt.succ
      simp only [laws_FnTables.l1, hw]
      refine Evt.pos g (Evt.neg b1 (Evt.pos p0 (Evt.pos i0 (Evt.pos i1 ?_))))
      by_cases htag : (rd_T57 (tab k) p).f0.toList = (rd_T36 body i).f0.toList
      · have hr : okRow2 (rd_T57 (tab k) p) := by
          unfold rd_T57
          rw [getD_at (tab k) _ _ (by omega)]
          exact tab_rows2 k _ (List.getElem_mem _)
        have hr4 := hr.2.2.2.2
        obtain ⟨f, _, _, f2⟩ := form_both (rd_T36 body i).f0 (rd_T36 body i).f1 (rd_T57 (tab k) p).f3 (by omega) (fewB_at he i i0 i1)
        refine Evt.pos htag (Evt.bind f2 ?_)
        have hfq : p = q → f = -1 := fun e => by
          subst e
          obtain ⟨K, hK⟩ := f2
          obtain ⟨L, hL⟩ := hf
          have h1 := hK (K + L) (by omega)
          have h2 := hL (K + L) (by omega)
          exact Option.some.inj (h1.symm.trans h2)
        by_cases hf1 : f = -1
        · refine Evt.pos hf1 (Evt.bind (tag_of k p p0 g) ?_)
          exact out _ (fun _ => by rw [htag]; simp)
        · exact Evt.neg hf1 (out _ (fun e => absurd (hfq e) hf1))
      · exact Evt.neg htag (out _ (fun e => absurd (by rw [e, ht]) htag))
    · exact fin b p g (hb.resolve_right (by omega))
theorem FnTables : laws_FnTables.Pure := by
  intro l wl
  apply Evt.ex
  unfold laws_FnTables.f
  refine Evt.ite (fun _ => Evt.pure true) (fun hl => ?_)
  obtain ⟨k, body, e1, hbd⟩ := drawTab_ev l (by omega)
  have hb0 := hbd.1
  have he : fewB body := ⟨by omega, hbd.2⟩
  refine Evt.bind e1 ?_
  obtain ⟨r, r1, r2, r3⟩ := table_both k body he
  refine Evt.bind r1 ?_
  simp only [Option.bind_some, List.nil_append, List.length_nil]
  refine Evt.pos (by omega) (Evt.bind r2 (Evt.neg (by simp) ?_))
  refine Evt.ite (fun hcode => ?_) (fun _ => Evt.pure true)
  obtain ⟨hne, h400, hfit⟩ := r3 hcode
  have h3 := (tab_rows k).2
  have hpos : 0 < (tab k).length := List.length_pos_iff.2 hne
  have himp : Evt (fun n => impl_TableOf.f n k) (tab k) := by
    unfold impl_TableOf.f
    exact Evt.bind (implTab_ev k) (Evt.pure _)
  refine Evt.bind himp (Evt.neg (by omega) ?_)
  obtain ⟨s, hs, hsn⟩ := kind_name k hne
  simp only [hs, Option.bind_some]
  rw [show (s.toList == ([] : List UInt8)) = false by simpa using hsn]
  apply Evt.succ
  simp only [laws_FnTables.j0]
  refine Evt.neg (by simp) ?_
  obtain ⟨f, rest, htab, hrest⟩ := tab_head k hne
  have hfit' := hfit
  rw [htab] at hfit'
  obtain ⟨e, e0, e2, e3, e4, hdoc, hfr⟩ := hfit'
  have he1 : e = 1 := by
    have g3 : (1 : Int) ≤ e - 0 := e3
    have g4 : e - 0 ≤ (1 : Int) := e4
    omega
  subst he1
  have key : ∀ (d : Nat) (i : Int), 0 ≤ i → i ≤ (body.length : Int) → (body.length : Int) - i ≤ d → Evt (fun n => laws_FnTables.l0 n k body (tab k) i) true := by
    have stop : Evt (fun n => laws_FnTables.l0 n k body (tab k) (body.length : Int)) true := by
      apply Evt.succ
      simp only [laws_FnTables.l0, Option.bind_some, List.nil_append, List.length_nil]
      refine Evt.neg (by omega) (Evt.pos (by omega) (Evt.pos (by rw [List.length_drop]; omega) ?_))
      have hne0 : ∀ h : 0 < (body.drop 1).length, (rd_T36 (body.drop 1) 0).f0.toList ≠ sDOC.toList := fun h => by
        rw [List.length_drop] at h
        obtain ⟨r', hr', g1, _⟩ := fits_at body rest 1 hfr 1 (Int.le_refl _) (by omega)
        have ee : rd_T36 (body.drop 1) 0 = rd_T36 body 1 := by
          unfold rd_T36
          simp [List.getD_eq_getElem?_getD]
        rw [ee, g1]
        exact hrest r' hr'
      have hcall : Evt (fun n => impl_TableCheck.f n k (body.drop 1)) (0, 0, 4) := by
        unfold impl_TableCheck.f impl_Segment.f
        simp only [Option.bind_some, within_ev]
        have hk : 1 ≤ k ∧ k ≤ 7 := by
          rcases kinds k with h | ⟨_, h0⟩
          · omega
          · exact absurd h0 hne
        refine Evt.neg (by simp only [List.length_drop, decide_eq_true_eq]; omega) (Evt.pos (B_true hk) (Evt.bind (implTab_ev k) ?_))
        have hrow : rd_T57 (tab k) 0 = (⟨sDOC, 1, 1, f⟩ : RX) := by
          rw [htab]
          rfl
        apply Evt.succ
        simp only [impl_TableCheck.l0, hrow]
        refine Evt.pos (by omega) (Evt.pos (Int.le_refl _) (Evt.pos (by omega) ?_))
        apply Evt.succ
        simp only [impl_TableCheck.l1]
        refine Evt.pos (by decide) ?_
        have fin : Evt (fun n => impl_TableCheck.j2 n (body.drop 1) 0 0 (tab k) ((tab k).length : Int) 0 false sDOC 1 1 f) (0, 0, 4) := by
          apply Evt.succ
          simp only [impl_TableCheck.j2]
          exact Evt.neg (by simp) (Evt.pos (by decide) (Evt.pure _))
        by_cases g : (0 : Int) < ((body.drop 1).length : Int)
        · refine Evt.pos g (Evt.pos (Int.le_refl _) ?_)
          rw [show ((rd_T36 (body.drop 1) 0).f0.toList == sDOC.toList) = false by simpa using hne0 (by omega)]
          exact fin
        · exact Evt.neg g fin
      exact Evt.bind hcall (Evt.pos rfl (Evt.pure true))
    intro d
    induction d with
    | zero =>
      intro i i0 i1 hd
      obtain rfl : i = (body.length : Int) := by omega
      exact stop
    | succ d ih =>
      intro i i0 i1 hd
      by_cases g : i < (body.length : Int)
      · have hw : wrap64 (i + 1) = i + 1 := w64 (by omega) (by omega)
        obtain ⟨r', hr', g1, g2⟩ := fits_at body (tab k) 0 hfit i i0 g
        obtain ⟨q, hq, rfl⟩ := List.mem_iff_getElem.1 hr'
        have hrq : rd_T57 (tab k) (q : Int) = (tab k)[q] := by
          unfold rd_T57
          rw [Int.toNat_natCast, getD_at (tab k) _ _ hq]
        rw [← hrq] at g1 g2
        apply Evt.succ
        simp only [laws_FnTables.l0]
        refine Evt.pos g (loop_one k body he h400 i i0 g (q : Int) (by omega) (by omega) g1 g2 ?_ (tab k).length false 0 (Int.le_refl _) (by omega) (by omega) (.inr (by omega)))
        rw [hw]
        exact ih (i + 1) (by omega) (by omega) (by omega)
      · obtain rfl : i = (body.length : Int) := by omega
        exact stop
  exact key body.length 0 (Int.le_refl _) (by omega) (by omega)
end Go.Proofs.YtjbdljhjplidmaaDoor.Pure
