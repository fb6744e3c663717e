-- Merged by a program of this session (wip/tool/pack.py) out of its own texts for this claim.
import Derived.WalkKit
import Derived.Laws.Strings
import Derived.Test.YtpfdfbomlffhcaaProg
import Derived.Below
import Derived.Deep.Draws
import Derived.Deep.AppendLies
import Derived.Maps.AppendAt
import Derived.OwnWalk
import Derived.Laws.BytesArg
import Derived.Laws.MakeOwn
import Derived.Laws.OwnMore
import Derived.Deep.OwnRows
import Derived.Tactics
import Derived.Lib.ConvBytes
import Derived.Laws.Slices
import Derived.KernelRfl
import Derived.RowKit3
import Derived.Deep.LoopGhost
import Derived.Deep.QuietTactic
import Derived.BigQuiet
import Derived.WideLaws
import Derived.Deep.DeepCutAuto
import Derived.Deep.CutBlock
import Derived.Deep.RegionHeld3
import Derived.Laws.Rows
import Derived.Lib.AppendStr
import Derived.ArgAppend
import Derived.Laws.IdiomCopy
import Derived.OrdersHeld
import Derived.Laws.BitsLemmas
import Derived.RowKit
import Derived.Test.YtpfdfbomlffhcaaKFnExactOutboxRun0
import Derived.Test.YtpfdfbomlffhcaaKFnExactOutboxRun1
import Derived.Test.YtpfdfbomlffhcaaKFnExactOutboxRun2
namespace Go.Proofs.Ytpfdfbomlffhcaa.Bs
open Go.Op
theorem less_irrefl : ∀ a : List UInt8, bytesLess a a = false
  | [] => rfl
  | x :: a => by simp [bytesLess, less_irrefl a]
theorem less_tri : ∀ a b : List UInt8, (!(bytesLess a b || a == b)) = bytesLess b a
  | [], [] => rfl
  | [], _ :: _ => rfl
  | _ :: _, [] => rfl
  | x :: a, y :: b => by
    have ih := less_tri a b
    by_cases h1 : x < y
    · have h2 : ¬ y < x := fun h => by have := UInt8.lt_iff_toNat_lt.1 h; have := UInt8.lt_iff_toNat_lt.1 h1; omega
      have h3 : ¬ x = y := fun h => by subst h; have := UInt8.lt_iff_toNat_lt.1 h1; omega
      have h4 : ¬ y = x := fun h => h3 h.symm
      simp [bytesLess, h1, h2, h4]
    · by_cases h2 : y < x
      · have h3 : ¬ x = y := fun h => by subst h; have := UInt8.lt_iff_toNat_lt.1 h2; omega
        simp [bytesLess, h1, h2, h3]
      · have h3 : x = y := UInt8.toNat_inj.1 (by
          have e1 := mt UInt8.lt_iff_toNat_lt.2 h1
          have e2 := mt UInt8.lt_iff_toNat_lt.2 h2
          omega)
        subst h3
        have e1 : bytesLess (x :: b) (x :: a) = bytesLess b a := by simp [bytesLess]
        have e2 : bytesLess (x :: a) (x :: b) = bytesLess a b := by simp [bytesLess]
        have e3 : (x :: a == x :: b) = (a == b) := by simp
        rw [e1, e2, e3]
        exact ih
@[go_sem] theorem binOp_gtr (t : TypeId) (a b : ByteArray) : binOp .gtr t (.string a) (.string b) = pure (.bool (bytesLess b.toList a.toList)) := by
  rw [← less_tri]
  simp [binOp, Op.stringOp]
@[go_sem] theorem binOp_leq (t : TypeId) (a b : ByteArray) : binOp .leq t (.string a) (.string b) = pure (.bool !(bytesLess b.toList a.toList)) := by
  rw [← less_tri]
  simp [binOp, Op.stringOp]
end Go.Proofs.Ytpfdfbomlffhcaa.Bs
namespace Go.Proofs.Ytpfdfbomlffhcaa.QA
open Go.RowKit Go.Proofs.YtpfdfbomlffhcaaW.PrintWords Go.Proofs.YtpfdfbomlffhcaaW.PrintLast Go.Proofs.YtpfdfbomlffhcaaW.PrintMore
attribute [local go_sem] max2_int min2_int max_two min_two max_three min_three max_four min_four   -- for this text's walks alone
set_option linter.unusedVariables false
set_option linter.unusedSimpArgs false
def errW : Option Int → Value
  | none => .nilIface
  | some c => .iface 0 (.int .i64 c)
theorem errW_none : errW none = .nilIface := rfl
theorem errW_some (c : Int) : errW (some c) = .iface 0 (.int .i64 c) := rfl
theorem info2 : (Try.prog.info? 2).map (fun i => (i.zero, i.size, i.bytes)) = some (some (.int .i64 0), 1, 8) := by kernel_rfl
theorem info68 : (Try.prog.info? 68).map (fun i => (i.zero, i.size, i.bytes)) = some (some (.agg #[(.string ⟨#[]⟩), (.int .i64 0), (.string ⟨#[]⟩), (.int .i64 0), (.int .i64 0)]), 5, 56) := by kernel_rfl
theorem info133 : (Try.prog.info? 133).map (fun i => (i.zero, i.size, i.bytes)) = some (some (.agg #[(.string ⟨#[]⟩), (.int .i64 0), (.string ⟨#[]⟩)]), 3, 40) := by kernel_rfl
structure S64 where
  f0 : ByteArray
  f1 : Int
  f2 : ByteArray
  f3 : Int
  f4 : Int
def k64 : Kd S64 := Kd.iso (Kd.pair Kd.string (Kd.pair (Kd.int .i64) (Kd.pair Kd.string (Kd.pair (Kd.int .i64) (Kd.int .i64))))) (fun x : S64 => (x.f0, x.f1, x.f2, x.f3, x.f4))
theorem k64_open {w : World} {x : S64} {cs : List Value} (h : k64.K w x cs) : cs = [.string x.f0, .int .i64 x.f1, .string x.f2, .int .i64 x.f3, .int .i64 x.f4] := by
  obtain ⟨_, _, rfl, rfl, ⟨_, _, rfl, rfl, ⟨_, _, rfl, rfl, ⟨_, _, rfl, rfl, rfl⟩⟩⟩⟩ := h
  exact rfl
structure S68 where
  f0 : ByteArray
  f1 : Int
  f2 : ByteArray
  f3 : Int
  f4 : Int
def z68 : S68 := ⟨(⟨#[]⟩ : ByteArray), (0 : Int), (⟨#[]⟩ : ByteArray), (0 : Int), (0 : Int)⟩
def k68 : Kd S68 := Kd.iso (Kd.pair Kd.string (Kd.pair (Kd.int .i64) (Kd.pair Kd.string (Kd.pair (Kd.int .i64) (Kd.int .i64))))) (fun x : S68 => (x.f0, x.f1, x.f2, x.f3, x.f4))
theorem k68_open {w : World} {x : S68} {cs : List Value} (h : k68.K w x cs) : cs = [.string x.f0, .int .i64 x.f1, .string x.f2, .int .i64 x.f3, .int .i64 x.f4] := by
  obtain ⟨_, _, rfl, rfl, ⟨_, _, rfl, rfl, ⟨_, _, rfl, rfl, ⟨_, _, rfl, rfl, rfl⟩⟩⟩⟩ := h
  exact rfl
theorem k68_mkM (w : World) (base : Nat) (ok : Nat → Prop) (x : S68)  : k68.M w base ok x [.string x.f0, .int .i64 x.f1, .string x.f2, .int .i64 x.f3, .int .i64 x.f4] := ⟨[.string x.f0], [.int .i64 x.f1, .string x.f2, .int .i64 x.f3, .int .i64 x.f4], rfl, rfl, ⟨[.int .i64 x.f1], [.string x.f2, .int .i64 x.f3, .int .i64 x.f4], rfl, rfl, ⟨[.string x.f2], [.int .i64 x.f3, .int .i64 x.f4], rfl, rfl, ⟨[.int .i64 x.f3], [.int .i64 x.f4], rfl, rfl, rfl⟩⟩⟩⟩
def rd_T68 (xs : List S68) (i : Int) : S68 := xs.getD i.toNat z68
theorem at_T68 {w : World} {A : Option Addr} {n : Nat} {xs : List S68} (h : Kd.C k68 w A n xs) (i : Int) (h0 : 0 ≤ i) (h1 : i < n) : ∃ ad , A = some ad ∧ w.cell? (ad.add (i.toNat * 5)) = some (.string (rd_T68 xs i).f0) ∧ w.cell? ⟨(ad.add (i.toNat * 5)).block, (ad.add (i.toNat * 5)).off + 1, none⟩ = some (.int .i64 (rd_T68 xs i).f1) ∧ w.cell? ⟨(ad.add (i.toNat * 5)).block, (ad.add (i.toNat * 5)).off + 2, none⟩ = some (.string (rd_T68 xs i).f2) ∧ w.cell? ⟨(ad.add (i.toNat * 5)).block, (ad.add (i.toNat * 5)).off + 3, none⟩ = some (.int .i64 (rd_T68 xs i).f3) ∧ w.cell? ⟨(ad.add (i.toNat * 5)).block, (ad.add (i.toNat * 5)).off + 4, none⟩ = some (.int .i64 (rd_T68 xs i).f4) := by
  obtain ⟨ad, c, e, _, hK, hc0⟩ := Kd.C_get h z68 i h0 h1
  have hc : ∀ j u, c[j]? = some u → w.cell? (ad.add (i.toNat * 5 + j)) = some u := hc0
  obtain rfl := k68_open hK
  exact ⟨ad, e, hc 0 _ rfl, by rw [← add_field _ _ 1 (by omega)]; exact hc 1 _ rfl, by rw [← add_field _ _ 2 (by omega)]; exact hc 2 _ rfl, by rw [← add_field _ _ 3 (by omega)]; exact hc 3 _ rfl, by rw [← add_field _ _ 4 (by omega)]; exact hc 4 _ rfl⟩
structure S133 where
  f0 : ByteArray
  f1 : Int
  f2 : ByteArray
def k133 : Kd S133 := Kd.iso (Kd.pair Kd.string (Kd.pair (Kd.int .i64) Kd.string)) (fun x : S133 => (x.f0, x.f1, x.f2))
theorem k133_mkM (w : World) (base : Nat) (ok : Nat → Prop) (x : S133)  : k133.M w base ok x [.string x.f0, .int .i64 x.f1, .string x.f2] := ⟨[.string x.f0], [.int .i64 x.f1, .string x.f2], rfl, rfl, ⟨[.int .i64 x.f1], [.string x.f2], rfl, rfl, rfl⟩⟩
end Go.Proofs.Ytpfdfbomlffhcaa.QA
namespace Go.Proofs.Ytpfdfbomlffhcaa.QA
open Go.RowKit Go.Proofs.YtpfdfbomlffhcaaW.PrintWords Go.Proofs.YtpfdfbomlffhcaaW.PrintLast Go.Proofs.YtpfdfbomlffhcaaW.PrintMore
attribute [local go_sem] max2_int min2_int max_two min_two max_three min_three max_four min_four   -- for this text's walks alone
set_option linter.unusedVariables false
set_option linter.unusedSimpArgs false
mutual
def spec_l01Name.j0 : Nat → ByteArray → Bool → Option (Bool)
  | 0, _, _ => none
  | k + 1, x0, x22 => if x22 = true then (some false) else (spec_l01Name.l0 k x0 0)
def spec_l01Name.l0 : Nat → ByteArray → Int → Option (Bool)
  | 0, _, _ => none
  | k + 1, x0, x3 => if x3 < (x0.size : Int) then (if 0 ≤ x3 then (if (bt x0 x3) ≥ 65 then (if (bt x0 x3) ≤ 90 then (spec_l01Name.l0 k x0 (wrap64 (x3 + 1))) else (if (bt x0 x3) ≥ 48 then (if (bt x0 x3) ≤ 57 then (spec_l01Name.l0 k x0 (wrap64 (x3 + 1))) else (if ((bt x0 x3) = 45) then (spec_l01Name.l0 k x0 (wrap64 (x3 + 1))) else (some false))) else (if ((bt x0 x3) = 45) then (spec_l01Name.l0 k x0 (wrap64 (x3 + 1))) else (some false)))) else (if (bt x0 x3) ≥ 48 then (if (bt x0 x3) ≤ 57 then (spec_l01Name.l0 k x0 (wrap64 (x3 + 1))) else (if ((bt x0 x3) = 45) then (spec_l01Name.l0 k x0 (wrap64 (x3 + 1))) else (some false))) else (if ((bt x0 x3) = 45) then (spec_l01Name.l0 k x0 (wrap64 (x3 + 1))) else (some false)))) else (none)) else (some true)
end
def spec_l01Name.f (k : Nat) (a0 : ByteArray) : Option (Bool) := if (a0.size : Int) < 1 then (spec_l01Name.j0 k a0 true) else (if (a0.size : Int) > 12 then (spec_l01Name.j0 k a0 true) else (if 0 < (a0.size : Int) then (if (bt a0 0) < 65 then (spec_l01Name.j0 k a0 true) else (spec_l01Name.j0 k a0 (decide ((bt a0 0) > 90)))) else (none)))
def impl_isGreat.f (a0 : Int) : Option (Bool) := if a0 ≥ 65 then (some (decide (a0 ≤ 90))) else (some false)
def impl_isDigit.f (a0 : Int) : Option (Bool) := if a0 ≥ 48 then (some (decide (a0 ≤ 57))) else (some false)
def impl_within.f (a0 : Int) (a1 : Int) (a2 : Int) : Option (Bool) := if a1 ≤ a0 then (some (decide (a0 ≤ a2))) else (some false)
def impl_isName.l0 : Nat → ByteArray → Int → Int → Option (Bool)
  | 0, _, _, _ => none
  | k + 1, x0, x5, x6 => if x6 < x5 then (if 0 ≤ x6 then (if x6 < (x0.size : Int) then ((impl_isGreat.f (bt x0 x6)).bind fun t113 => (if t113 = true then (impl_isName.l0 k x0 x5 (wrap64 (x6 + 1))) else (if x6 = 0 then (some false) else ((impl_isDigit.f (bt x0 x6)).bind fun t114 => (if t114 = true then (impl_isName.l0 k x0 x5 (wrap64 (x6 + 1))) else (if (bt x0 x6) = 45 then (impl_isName.l0 k x0 x5 (wrap64 (x6 + 1))) else (some false))))))) else (none)) else (none)) else ((impl_within.f (x0.size : Int) 1 12).bind fun t112 => (some t112))
def impl_isName.f (k : Nat) (a0 : ByteArray) : Option (Bool) := impl_isName.l0 k a0 (a0.size : Int) 0
def impl_longText_1.f (a0 : ByteArray) : Option (Bool) := some (decide ((a0.size : Int) > 20000))
def slices_IndexFunc_string_string_impl_longText_1.l0 : Nat → List ByteArray → Int → Int → Option (Int)
  | 0, _, _, _ => none
  | k + 1, x0, x7, x8 => if x8 < x7 then (if 0 ≤ x8 then (if x8 < (x0.length : Int) then ((impl_longText_1.f (rdOf ByteArray.empty x0 x8)).bind fun t177 => (if t177 = true then (some x8) else (slices_IndexFunc_string_string_impl_longText_1.l0 k x0 x7 (wrap64 (x8 + 1))))) else (none)) else (none)) else (some (-1))
def slices_IndexFunc_string_string_impl_longText_1.f (k : Nat) (l0 : List ByteArray)  : Option (Int) := slices_IndexFunc_string_string_impl_longText_1.l0 k l0 (l0.length : Int) 0
def slices_ContainsFunc_string_string_impl_longText_1.f (k : Nat) (l0 : List ByteArray)  : Option (Bool) := (slices_IndexFunc_string_string_impl_longText_1.f k l0).bind fun t178 => (some (decide (t178 ≥ 0)))
def impl_longText.f (k : Nat) (l0 : List ByteArray) : Option (Bool) := (slices_ContainsFunc_string_string_impl_longText_1.f k l0).bind fun t179 => (some t179)
def spec_l01Min.f (a0 : Int) (a1 : Int) : Option (Int) := if a0 < a1 then (some a0) else (some a1)
def laws_szOut.f (a0_0 : ByteArray) (a0_1 : Int) (a0_2 : ByteArray) (a0_3 : Int) (a0_4 : Int) (a1 : Int) : Option (Int) := if (wrap64 (a1 - (a0_0.size : Int))) < 0 then (some (-1)) else (if (wrap64 ((wrap64 (a1 - (a0_0.size : Int))) - (a0_2.size : Int))) < 0 then (some (-1)) else (some (wrap64 ((wrap64 (a1 - (a0_0.size : Int))) - (a0_2.size : Int)))))
def laws_toOut.f (a0_0 : ByteArray) (a0_1 : Int) (a0_2 : ByteArray) (a0_3 : Int) (a0_4 : Int) : Option (ByteArray × Int × ByteArray × Int × Int) := some (a0_0, a0_1, a0_2, a0_3, a0_4)
def spec_l01Control.f (a0 : Int) : Option (Bool) := if a0 ≥ 1 then (some (decide (a0 ≤ 999999))) else (some false)
def spec_l01Day.f (a0 : Int) : Option (Bool) := if a0 ≥ 0 then (some (decide (a0 ≤ 100000))) else (some false)
def spec_l12Out.f (k : Nat) (a0_0 : ByteArray) (a0_1 : Int) (a0_2 : ByteArray) (a0_3 : Int) (a0_4 : Int) : Option (Bool) := (spec_l01Name.f k a0_0).bind fun t331 => (if t331 = true then ((spec_l01Control.f a0_1).bind fun t332 => (if t332 = true then (if (a0_2.size : Int) ≥ 1 then (if (a0_2.size : Int) ≤ 20000 then (if a0_3 ≥ 0 then (if a0_3 ≤ 5 then ((spec_l01Day.f a0_4).bind fun t333 => (some t333)) else (some false)) else (some false)) else (some false)) else (some false)) else (some false))) else (some false))
def spec_l12Before.f (a0_0 : ByteArray) (a0_1 : Int) (a0_2 : ByteArray) (a0_3 : Int) (a0_4 : Int) (a1_0 : ByteArray) (a1_1 : Int) (a1_2 : ByteArray) (a1_3 : Int) (a1_4 : Int) : Option (Bool) := if (Op.bytesLess a0_0.toList a1_0.toList) = true then (some true) else (if a0_0.toList = a1_0.toList then (some (decide (a0_1 < a1_1))) else (some false))
def spec_OutboxRight.l0 : Nat → List (S68) → Int → Option (Bool)
  | 0, _, _ => none
  | k + 1, x0, x3 => if x3 < (x0.length : Int) then (if 0 ≤ x3 then ((spec_l12Out.f k ((rd_T68 x0 x3).f0) ((rd_T68 x0 x3).f1) ((rd_T68 x0 x3).f2) ((rd_T68 x0 x3).f3) ((rd_T68 x0 x3).f4)).bind fun t337 => (if t337 = true then (if x3 > 0 then (if 0 ≤ (wrap64 (x3 - 1)) then (if (wrap64 (x3 - 1)) < (x0.length : Int) then ((spec_l12Before.f ((rd_T68 x0 (wrap64 (x3 - 1))).f0) ((rd_T68 x0 (wrap64 (x3 - 1))).f1) ((rd_T68 x0 (wrap64 (x3 - 1))).f2) ((rd_T68 x0 (wrap64 (x3 - 1))).f3) ((rd_T68 x0 (wrap64 (x3 - 1))).f4) ((rd_T68 x0 x3).f0) ((rd_T68 x0 x3).f1) ((rd_T68 x0 x3).f2) ((rd_T68 x0 x3).f3) ((rd_T68 x0 x3).f4)).bind fun t340 => (if t340 = true then (spec_OutboxRight.l0 k x0 (wrap64 (x3 + 1))) else (some false))) else (none)) else (none)) else (spec_OutboxRight.l0 k x0 (wrap64 (x3 + 1)))) else (some false))) else (none)) else (some true)
def spec_OutboxRight.f (k : Nat) (l0 : List (S68)) : Option (Bool) := if (l0.length : Int) > 60 then (some false) else (spec_OutboxRight.l0 k l0 0)
def impl_isControl.f (a0 : Int) : Option (Bool) := (impl_within.f a0 1 999999).bind fun t341 => (some t341)
def impl_isDay.f (a0 : Int) : Option (Bool) := (impl_within.f a0 0 100000).bind fun t342 => (some t342)
def impl_isOut.f (k : Nat) (a0_0 : ByteArray) (a0_1 : Int) (a0_2 : ByteArray) (a0_3 : Int) (a0_4 : Int) : Option (Bool) := (impl_isName.f k a0_0).bind fun t344 => (if t344 = true then ((impl_isControl.f a0_1).bind fun t345 => (if t345 = true then (if a0_2.toList = ([] : List UInt8) then (some false) else ((impl_longText.f k (([a0_2] : List ByteArray))).bind fun t349 => (if t349 = true then (some false) else ((impl_within.f a0_3 0 5).bind fun t350 => (if t350 = true then ((impl_isDay.f a0_4).bind fun t351 => (some t351)) else (some false)))))) else (some false))) else (some false))
def cmp_isNaN_string.f (a0 : ByteArray) : Option (Bool) := some (a0.toList != a0.toList)
def cmp_Compare_string.f (a0 : ByteArray) (a1 : ByteArray) : Option (Int) := (cmp_isNaN_string.f a0).bind fun t352 => ((cmp_isNaN_string.f a1).bind fun t353 => (if t352 = true then (if t353 = true then (some 0) else (some (-1))) else (if t353 = true then (some 1) else (if (Op.bytesLess a0.toList a1.toList) = true then (some (-1)) else (if (Op.bytesLess a1.toList a0.toList) = true then (some 1) else (some 0))))))
def cmp_isNaN_int64.f (a0 : Int) : Option (Bool) := some (a0 != a0)
def cmp_Compare_int64.f (a0 : Int) (a1 : Int) : Option (Int) := (cmp_isNaN_int64.f a0).bind fun t354 => ((cmp_isNaN_int64.f a1).bind fun t355 => (if t354 = true then (if t355 = true then (some 0) else (some (-1))) else (if t355 = true then (some 1) else (if a0 < a1 then (some (-1)) else (if a0 > a1 then (some 1) else (some 0))))))
def cmp_Or_int.l0 : Nat → Int → List Int → Int → Int → Option (Int)
  | 0, _, _, _, _ => none
  | k + 1, x3, x6, x7, x8 => if x8 < x7 then (if 0 ≤ x8 then (if x8 < (x6.length : Int) then (if (rd x6 x8) = x3 then (cmp_Or_int.l0 k x3 x6 x7 (wrap64 (x8 + 1))) else (some (rd x6 x8))) else (none)) else (none)) else (some x3)
def cmp_Or_int.f (k : Nat) (l0 : List Int) : Option (Int) := cmp_Or_int.l0 k 0 l0 (l0.length : Int) 0
def impl_outOrder.f (k : Nat) (a0_0 : ByteArray) (a0_1 : Int) (a0_2 : ByteArray) (a0_3 : Int) (a0_4 : Int) (a1_0 : ByteArray) (a1_1 : Int) (a1_2 : ByteArray) (a1_3 : Int) (a1_4 : Int) : Option (Int) := (cmp_Compare_string.f a0_0 a1_0).bind fun t359 => ((cmp_Compare_int64.f a0_1 a1_1).bind fun t360 => ((cmp_Or_int.f k (([t359, t360] : List Int))).bind fun t364 => (some t364)))
def impl_OutboxRight.l0 : Nat → List (S68) → List (S68) → Int → Int → Option (Bool)
  | 0, _, _, _, _ => none
  | k + 1, x0, x8, x9, x10 => if x10 < x9 then (if 0 ≤ x10 then (if x10 < (x8.length : Int) then ((impl_isOut.f k ((rd_T68 x8 x10).f0) ((rd_T68 x8 x10).f1) ((rd_T68 x8 x10).f2) ((rd_T68 x8 x10).f3) ((rd_T68 x8 x10).f4)).bind fun t367 => (if t367 = true then (if x10 > 0 then (if 0 ≤ (wrap64 (x10 - 1)) then (if (wrap64 (x10 - 1)) < (x0.length : Int) then ((impl_outOrder.f k ((rd_T68 x0 (wrap64 (x10 - 1))).f0) ((rd_T68 x0 (wrap64 (x10 - 1))).f1) ((rd_T68 x0 (wrap64 (x10 - 1))).f2) ((rd_T68 x0 (wrap64 (x10 - 1))).f3) ((rd_T68 x0 (wrap64 (x10 - 1))).f4) ((rd_T68 x8 x10).f0) ((rd_T68 x8 x10).f1) ((rd_T68 x8 x10).f2) ((rd_T68 x8 x10).f3) ((rd_T68 x8 x10).f4)).bind fun t369 => (if t369 ≥ 0 then (some false) else (impl_OutboxRight.l0 k x0 x8 x9 (wrap64 (x10 + 1))))) else (none)) else (none)) else (impl_OutboxRight.l0 k x0 x8 x9 (wrap64 (x10 + 1)))) else (some false))) else (none)) else (none)) else (some true)
def impl_OutboxRight.f (k : Nat) (l0 : List (S68)) : Option (Bool) := if (l0.length : Int) > 60 then (some false) else (impl_OutboxRight.l0 k l0 l0 (l0.length : Int) 0)
def laws_toInt64S.l0 : Nat → List Int → List Int → Int → Option (List Int)
  | 0, _, _, _ => none
  | k + 1, x0, x3, x4 => if x4 < (x0.length : Int) then (if 0 ≤ x4 then (if x4 < (x3.length : Int) then (laws_toInt64S.l0 k x0 (x3.set (x4 : Int).toNat (rd x0 x4)) (wrap64 (x4 + 1))) else (none)) else (none)) else (some x3)
def laws_toInt64S.f (k : Nat) (l0 : List Int) : Option (List Int) := if 0 ≤ (l0.length : Int) then (if ((l0.length : Int) : Int).toNat ≤ 35184372088832 then (laws_toInt64S.l0 k l0 (List.replicate ((l0.length : Int) : Int).toNat 0) 0) else (none)) else (none)
def spec_l12Wrong.f (a0 : Int) : Option ((List (S68)) × (List (S133)) × (List (S68)) × Int) := some (([] : List (S68)), ([] : List (S133)), ([] : List (S68)), a0)
mutual
def spec_OutboxTick.j0 : Nat → List (S68) → Int → Bool → Option ((List (S68)) × (List (S133)) × (List (S68)) × Int)
  | 0, _, _, _ => none
  | k + 1, x0, x1, x19 => if x19 = true then ((spec_l12Wrong.f 1).bind fun bt477 => (some (bt477.1, bt477.2.1, bt477.2.2.1, bt477.2.2.2))) else (spec_OutboxTick.l0 k x0 x1 0 ([] : List (S68)) ([] : List (S133)) ([] : List (S68)) 0)
def spec_OutboxTick.l0 : Nat → List (S68) → Int → Int → List (S68) → List (S133) → List (S68) → Int → Option ((List (S68)) × (List (S133)) × (List (S68)) × Int)
  | 0, _, _, _, _, _, _, _ => none
  | k + 1, x0, x1, x6, x488000, x488001, x488002, x488003 => if x6 < (x0.length : Int) then (if 0 ≤ x6 then (if ((rd_T68 x0 x6).f4) > x1 then (if x488000.length < 2513169434916 then (spec_OutboxTick.l0 k x0 x1 (wrap64 (x6 + 1)) (x488000 ++ [(⟨(rd_T68 x0 x6).f0, (rd_T68 x0 x6).f1, (rd_T68 x0 x6).f2, (rd_T68 x0 x6).f3, (rd_T68 x0 x6).f4⟩ : S68)]) x488001 x488002 x488003) else (none)) else (if ((rd_T68 x0 x6).f3) = 5 then (if x488002.length < 2513169434916 then (spec_OutboxTick.l0 k x0 x1 (wrap64 (x6 + 1)) x488000 x488001 (x488002 ++ [(⟨(rd_T68 x0 x6).f0, (rd_T68 x0 x6).f1, (rd_T68 x0 x6).f2, (rd_T68 x0 x6).f3, (rd_T68 x0 x6).f4⟩ : S68)]) x488003) else (none)) else (if x488001.length < 3518437208883 then ((spec_l01Min.f 100000 (wrap64 (x1 + (wrap64 (3 * (wrap64 (((rd_T68 x0 x6).f3) + 1))))))).bind fun t499 => (if x488000.length < 2513169434916 then (spec_OutboxTick.l0 k x0 x1 (wrap64 (x6 + 1)) (x488000 ++ [(⟨(rd_T68 x0 x6).f0, (rd_T68 x0 x6).f1, (rd_T68 x0 x6).f2, wrap64 (((rd_T68 x0 x6).f3) + 1), t499⟩ : S68)]) (x488001 ++ [(⟨(rd_T68 x0 x6).f0, (rd_T68 x0 x6).f1, (rd_T68 x0 x6).f2⟩ : S133)]) x488002 x488003) else (none))) else (none)))) else (none)) else (some (x488000, x488001, x488002, x488003))
end
def spec_OutboxTick.f (k : Nat) (l0 : List (S68)) (a1 : Int) : Option ((List (S68)) × (List (S133)) × (List (S68)) × Int) := if (l0.length : Int) > 400 then ((spec_l12Wrong.f 2).bind fun bt465 => (some (bt465.1, bt465.2.1, bt465.2.2.1, bt465.2.2.2))) else ((spec_OutboxRight.f k l0).bind fun t475 => (if t475 = true then ((spec_l01Day.f a1).bind fun t476 => (spec_OutboxTick.j0 k l0 a1 (!t476))) else (spec_OutboxTick.j0 k l0 a1 true)))
mutual
def spec_OutboxRun.j0 : Nat → List Int → List Int → Bool → ByteArray → Int → ByteArray → Int → Int → Option (List Int)
  | 0, _, _, _, _, _, _, _, _ => none
  | k + 1, x1, x5, x18, x504000, x504001, x504002, x504003, x504004 => if x18 = true then (some x5) else (spec_OutboxRun.l0 k x1 x5 0 x504000 x504001 x504002 x504003 x504004)
def spec_OutboxRun.l0 : Nat → List Int → List Int → Int → ByteArray → Int → ByteArray → Int → Int → Option (List Int)
  | 0, _, _, _, _, _, _, _, _ => none
  | k + 1, x1, x5, x6, x504000, x504001, x504002, x504003, x504004 => if x6 < (x1.length : Int) then (if 0 ≤ x6 then ((spec_l01Day.f (rd x1 x6)).bind fun t509 => (if t509 = true then (if x6 > 0 then (if 0 ≤ (wrap64 (x6 - 1)) then (if (wrap64 (x6 - 1)) < (x1.length : Int) then (if (rd x1 x6) ≤ (rd x1 (wrap64 (x6 - 1))) then (some x5) else (spec_OutboxRun.l0 k x1 x5 (wrap64 (x6 + 1)) x504000 x504001 x504002 x504003 x504004)) else (none)) else (none)) else (spec_OutboxRun.l0 k x1 x5 (wrap64 (x6 + 1)) x504000 x504001 x504002 x504003 x504004)) else (some x5))) else (none)) else (spec_OutboxRun.l1 k x1 x5 (([(⟨x504000, x504001, x504002, x504003, x504004⟩ : S68)] : List (S68))) 0)
def spec_OutboxRun.l1 : Nat → List Int → List Int → List (S68) → Int → Option (List Int)
  | 0, _, _, _, _ => none
  | k + 1, x1, x5, x7, x8 => if x8 < (x1.length : Int) then (if 0 ≤ x8 then ((spec_OutboxTick.f k x7 (rd x1 x8)).bind fun bt516 => (if (bt516.2.1.length : Int) > 0 then (if x5.length < 17592186044416 then (spec_OutboxRun.l1 k x1 (x5 ++ [rd x1 x8]) bt516.1 (wrap64 (x8 + 1))) else (none)) else (spec_OutboxRun.l1 k x1 x5 bt516.1 (wrap64 (x8 + 1))))) else (none)) else (some x5)
end
def spec_OutboxRun.f (k : Nat) (a0_0 : ByteArray) (a0_1 : Int) (a0_2 : ByteArray) (a0_3 : Int) (a0_4 : Int) (l1 : List Int) : Option (List Int) := (some (([] : List Int) : List Int)).bind fun y504 => (if (l1.length : Int) > 400 then (spec_OutboxRun.j0 k l1 y504 true a0_0 a0_1 a0_2 a0_3 a0_4) else ((spec_l12Out.f k a0_0 a0_1 a0_2 a0_3 a0_4).bind fun t507 => (spec_OutboxRun.j0 k l1 y504 (!t507) a0_0 a0_1 a0_2 a0_3 a0_4)))
def impl_longList_int64.f (l0 : List Int) : Option (Bool) := some (decide ((l0.length : Int) > 400))
def impl_Out.f (l0 : List (S68)) : Option (Bool) := some (decide ((l0.length : Int) > 400))
def impl_outboxCode.f (k : Nat) (l0 : List (S68)) : Option (Int) := (impl_Out.f l0).bind fun t531 => (if t531 = true then (some 2) else ((impl_OutboxRight.f k l0).bind fun t532 => (if t532 = true then (some 0) else (some 1))))
mutual
def impl_OutboxTick.l0 : Nat → Int → List (S68) → Int → Int → List (S68) → List (S133) → List (S68) → Int → Option ((List (S68)) × (List (S133)) × (List (S68)) × Int)
  | 0, _, _, _, _, _, _, _, _ => none
  | k + 1, x1, x20, x21, x22, x537000, x537001, x537002, x537003 => if x22 < x21 then (if 0 ≤ x22 then (if x22 < (x20.length : Int) then (if ((rd_T68 x20 x22).f4) ≤ x1 then (impl_OutboxTick.j1 k x1 x20 x21 x22 (((rd_T68 x20 x22).f3) == 5) x537000 x537001 x537002 x537003 ((rd_T68 x20 x22).f0) ((rd_T68 x20 x22).f1) ((rd_T68 x20 x22).f2) ((rd_T68 x20 x22).f3) ((rd_T68 x20 x22).f4)) else (impl_OutboxTick.j1 k x1 x20 x21 x22 false x537000 x537001 x537002 x537003 ((rd_T68 x20 x22).f0) ((rd_T68 x20 x22).f1) ((rd_T68 x20 x22).f2) ((rd_T68 x20 x22).f3) ((rd_T68 x20 x22).f4))) else (none)) else (none)) else (some (x537000, x537001, x537002, x537003))
def impl_OutboxTick.j1 : Nat → Int → List (S68) → Int → Int → Bool → List (S68) → List (S133) → List (S68) → Int → ByteArray → Int → ByteArray → Int → Int → Option ((List (S68)) × (List (S133)) × (List (S68)) × Int)
  | 0, _, _, _, _, _, _, _, _, _, _, _, _, _, _ => none
  | k + 1, x1, x20, x21, x22, x34, x537000, x537001, x537002, x537003, x539000, x539001, x539002, x539003, x539004 => if x34 = true then (if x537002.length < 2513169434916 then (impl_OutboxTick.l0 k x1 x20 x21 (wrap64 (x22 + 1)) x537000 x537001 (x537002 ++ [(⟨x539000, x539001, x539002, x539003, x539004⟩ : S68)]) x537003) else (none)) else (if x539004 ≤ x1 then (if x537001.length < 3518437208883 then (if x537000.length < 2513169434916 then (impl_OutboxTick.l0 k x1 x20 x21 (wrap64 (x22 + 1)) (x537000 ++ [(⟨x539000, x539001, x539002, wrap64 (x539003 + 1), mn (wrap64 (x1 + (wrap64 (3 * (wrap64 (x539003 + 1)))))) 100000⟩ : S68)]) (x537001 ++ [(⟨x539000, x539001, x539002⟩ : S133)]) x537002 x537003) else (none)) else (none)) else (if x537000.length < 2513169434916 then (impl_OutboxTick.l0 k x1 x20 x21 (wrap64 (x22 + 1)) (x537000 ++ [(⟨x539000, x539001, x539002, x539003, x539004⟩ : S68)]) x537001 x537002 x537003) else (none)))
end
def impl_OutboxTick.f (k : Nat) (l0 : List (S68)) (a1 : Int) : Option ((List (S68)) × (List (S133)) × (List (S68)) × Int) := (impl_outboxCode.f k l0).bind fun t534 => (if t534 = 0 then ((impl_isDay.f a1).bind fun t535 => (if t535 = true then (impl_OutboxTick.l0 k a1 l0 (l0.length : Int) 0 ([] : List (S68)) ([] : List (S133)) ([] : List (S68)) 0) else (some (([] : List (S68)), ([] : List (S133)), ([] : List (S68)), 1)))) else (some (([] : List (S68)), ([] : List (S133)), ([] : List (S68)), t534)))
mutual
def impl_OutboxRun.j0 : Nat → List Int → Bool → ByteArray → Int → ByteArray → Int → Int → Option (List Int)
  | 0, _, _, _, _, _, _, _ => none
  | k + 1, x1, x18, x552000, x552001, x552002, x552003, x552004 => if x18 = true then (some ([] : List Int)) else (impl_OutboxRun.l0 k x1 x1 (x1.length : Int) 0 x552000 x552001 x552002 x552003 x552004)
def impl_OutboxRun.l0 : Nat → List Int → List Int → Int → Int → ByteArray → Int → ByteArray → Int → Int → Option (List Int)
  | 0, _, _, _, _, _, _, _, _, _ => none
  | k + 1, x1, x19, x20, x21, x552000, x552001, x552002, x552003, x552004 => if x21 < x20 then (if 0 ≤ x21 then (if x21 < (x19.length : Int) then ((impl_isDay.f (rd x19 x21)).bind fun t555 => (if t555 = true then (if x21 > 0 then (if 0 ≤ (wrap64 (x21 - 1)) then (if (wrap64 (x21 - 1)) < (x1.length : Int) then (if (rd x19 x21) ≤ (rd x1 (wrap64 (x21 - 1))) then (some ([] : List Int)) else (impl_OutboxRun.l0 k x1 x19 x20 (wrap64 (x21 + 1)) x552000 x552001 x552002 x552003 x552004)) else (none)) else (none)) else (impl_OutboxRun.l0 k x1 x19 x20 (wrap64 (x21 + 1)) x552000 x552001 x552002 x552003 x552004)) else (some ([] : List Int)))) else (none)) else (none)) else (impl_OutboxRun.l1 k (([] : List Int)) (([(⟨x552000, x552001, x552002, x552003, x552004⟩ : S68)] : List (S68))) x1 (x1.length : Int) 0)
def impl_OutboxRun.l1 : Nat → List Int → List (S68) → List Int → Int → Int → Option (List Int)
  | 0, _, _, _, _, _ => none
  | k + 1, x7, x8, x46, x47, x48 => if x48 < x47 then (if 0 ≤ x48 then (if x48 < (x46.length : Int) then ((impl_OutboxTick.f k x8 (rd x46 x48)).bind fun bt564 => (if (bt564.2.1.length : Int) > 0 then (if x7.length < 17592186044416 then (impl_OutboxRun.l1 k (x7 ++ [rd x46 x48]) bt564.1 x46 x47 (wrap64 (x48 + 1))) else (none)) else (impl_OutboxRun.l1 k x7 bt564.1 x46 x47 (wrap64 (x48 + 1))))) else (none)) else (none)) else (some x7)
end
def impl_OutboxRun.f (k : Nat) (a0_0 : ByteArray) (a0_1 : Int) (a0_2 : ByteArray) (a0_3 : Int) (a0_4 : Int) (l1 : List Int) : Option (List Int) := (impl_longList_int64.f l1).bind fun t552 => (if t552 = true then (impl_OutboxRun.j0 k l1 true a0_0 a0_1 a0_2 a0_3 a0_4) else ((impl_isOut.f k a0_0 a0_1 a0_2 a0_3 a0_4).bind fun t553 => (impl_OutboxRun.j0 k l1 (!t553) a0_0 a0_1 a0_2 a0_3 a0_4)))
def laws_eqInt64S.l0 : Nat → List Int → List Int → Int → Option (Bool)
  | 0, _, _, _ => none
  | k + 1, x0, x1, x5 => if x5 < (x0.length : Int) then (if 0 ≤ x5 then (if x5 < (x1.length : Int) then (if (rd x0 x5) = (rd x1 x5) then (laws_eqInt64S.l0 k x0 x1 (wrap64 (x5 + 1))) else (some false)) else (none)) else (none)) else (some true)
def laws_eqInt64S.f (k : Nat) (l0 : List Int) (l1 : List Int) : Option (Bool) := if (l0.length : Int) = (l1.length : Int) then (laws_eqInt64S.l0 k l0 l1 0) else (some false)
def laws_markInt64S.l0 : Nat → List Int → Int → Int → Option (Int × List Int)
  | 0, _, _, _ => none
  | k + 1, x0, x1, x5 => if x5 < (x0.length : Int) then (if 0 ≤ x5 then (laws_markInt64S.l0 k (x0.set (x5 : Int).toNat x1) (wrap64 (x1 + 1)) (wrap64 (x5 + 1))) else (none)) else (some (x1, x0))
def laws_markInt64S.f (k : Nat) (l0 : List Int) (a1 : Int) : Option (Int × List Int) := laws_markInt64S.l0 k l0 a1 0
def laws_heldInt64S.l0 : Nat → List Int → Int → Int → Option (Int)
  | 0, _, _, _ => none
  | k + 1, x0, x1, x5 => if x5 < (x0.length : Int) then (if 0 ≤ x5 then (if (rd x0 x5) = x1 then (laws_heldInt64S.l0 k x0 (wrap64 (x1 + 1)) (wrap64 (x5 + 1))) else (some (-1))) else (none)) else (some x1)
def laws_heldInt64S.f (k : Nat) (l0 : List Int) (a1 : Int) : Option (Int) := laws_heldInt64S.l0 k l0 a1 0
def laws_FnExactOutboxRun.j0 : Nat → List Int → List Int → List Int → Bool → ByteArray → Int → ByteArray → Int → Int → Option (Bool)
  | 0, _, _, _, _, _, _, _, _, _ => none
  | k + 1, x1, x6, x8, x51, x583000, x583001, x583002, x583003, x583004 => if x51 = true then (some false) else ((laws_markInt64S.f k x8 1).bind fun bt614 => ((laws_heldInt64S.f k bt614.2 1).bind fun t616 => (if t616 < 0 then (some false) else (if t616 = bt614.1 then ((laws_toOut.f x583000 x583001 x583002 x583003 x583004).bind fun bt617 => ((laws_toInt64S.f k x1).bind fun t622 => ((impl_OutboxRun.f k bt617.1 bt617.2.1 bt617.2.2.1 bt617.2.2.2.1 bt617.2.2.2.2 t622).bind fun t625 => ((laws_eqInt64S.f k t625 x6).bind fun t628 => (if t628 = true then ((laws_heldInt64S.f k bt614.2 1).bind fun t629 => (if t629 < 0 then (some false) else (if t629 = bt614.1 then (some true) else (some false)))) else (some false)))))) else (some false)))))
def laws_FnExactOutboxRun.f (k : Nat) (a0_0 : ByteArray) (a0_1 : Int) (a0_2 : ByteArray) (a0_3 : Int) (a0_4 : Int) (l1 : List Int) : Option (Bool) := if (l1.length : Int) > 1048576 then (some true) else ((laws_szOut.f a0_0 a0_1 a0_2 a0_3 a0_4 1048576).bind fun t583 => (if t583 < 0 then (some true) else ((laws_toOut.f a0_0 a0_1 a0_2 a0_3 a0_4).bind fun bt584 => ((laws_toInt64S.f k l1).bind fun t589 => ((spec_OutboxRun.f k bt584.1 bt584.2.1 bt584.2.2.1 bt584.2.2.2.1 bt584.2.2.2.2 t589).bind fun t592 => ((laws_toInt64S.f k l1).bind fun t595 => ((laws_toOut.f a0_0 a0_1 a0_2 a0_3 a0_4).bind fun bt598 => ((impl_OutboxRun.f k bt598.1 bt598.2.1 bt598.2.2.1 bt598.2.2.2.1 bt598.2.2.2.2 t595).bind fun t603 => ((laws_eqInt64S.f k t603 t592).bind fun t606 => (if t606 = true then ((laws_toInt64S.f k l1).bind fun t607 => ((laws_eqInt64S.f k t595 t607).bind fun t610 => (if t610 = true then ((laws_markInt64S.f k t595 1).bind fun bt611 => (if bt611.1 < 0 then (laws_FnExactOutboxRun.j0 k l1 t592 t603 true a0_0 a0_1 a0_2 a0_3 a0_4) else ((laws_eqInt64S.f k t603 t592).bind fun t613 => (laws_FnExactOutboxRun.j0 k l1 t592 t603 (!t613) a0_0 a0_1 a0_2 a0_3 a0_4)))) else (some false)))) else (some false)))))))))))
end Go.Proofs.Ytpfdfbomlffhcaa.QA
namespace Go.Proofs.Ytpfdfbomlffhcaa.QA
open Go.RowKit Go.Proofs.YtpfdfbomlffhcaaW.PrintWords Go.Proofs.YtpfdfbomlffhcaaW.PrintLast Go.Proofs.YtpfdfbomlffhcaaW.PrintMore
attribute [local go_sem] max2_int min2_int max_two min_two max_three min_three max_four min_four   -- for this text's walks alone
set_option linter.unusedVariables false
set_option linter.unusedSimpArgs false
set_option maxHeartbeats 8000000 in
set_option maxRecDepth 100000 in
theorem impl_isGreat.calls (a0 : Int) (r : Bool) (w : World) (h : impl_isGreat.f a0 = some r) :
    Calls Try.prog 94 #[.int .u8 a0] w fun e w' => e = .returned (.bool r) ∧ Drawn0 w w' := by
  have H : (if a0 ≥ 65 then (some (decide (a0 ≤ 90))) else (some false)) = some r := h
  clear h
  by_cases c2 : a0 ≥ 65
  · rw [if_pos c2] at H
    have c2b0 : decide (65 ≤ a0) = true := decide_eq_true c2
    clear c2
    obtain rfl := Option.some.inj H
    go_enter Try.func94, Try.ntmps94
    go_wp2
    go_ret
    exact ⟨by first | rfl | (simp; done) | (simp [*]; done), by repeat (first | exact Drawn0.refl _ | apply Drawn0.step)⟩
  · rw [if_neg c2] at H
    have c2b0 : decide (65 ≤ a0) = false := decide_eq_false c2
    clear c2
    obtain rfl := Option.some.inj H
    go_enter Try.func94, Try.ntmps94
    go_wp2
    go_ret
    exact ⟨by first | rfl | (simp; done) | (simp [*]; done), by repeat (first | exact Drawn0.refl _ | apply Drawn0.step)⟩
set_option maxHeartbeats 8000000 in
set_option maxRecDepth 100000 in
theorem impl_isDigit.calls (a0 : Int) (r : Bool) (w : World) (h : impl_isDigit.f a0 = some r) :
    Calls Try.prog 95 #[.int .u8 a0] w fun e w' => e = .returned (.bool r) ∧ Drawn0 w w' := by
  have H : (if a0 ≥ 48 then (some (decide (a0 ≤ 57))) else (some false)) = some r := h
  clear h
  by_cases c2 : a0 ≥ 48
  · rw [if_pos c2] at H
    have c2b0 : decide (48 ≤ a0) = true := decide_eq_true c2
    clear c2
    obtain rfl := Option.some.inj H
    go_enter Try.func95, Try.ntmps95
    go_wp2
    go_ret
    exact ⟨by first | rfl | (simp; done) | (simp [*]; done), by repeat (first | exact Drawn0.refl _ | apply Drawn0.step)⟩
  · rw [if_neg c2] at H
    have c2b0 : decide (48 ≤ a0) = false := decide_eq_false c2
    clear c2
    obtain rfl := Option.some.inj H
    go_enter Try.func95, Try.ntmps95
    go_wp2
    go_ret
    exact ⟨by first | rfl | (simp; done) | (simp [*]; done), by repeat (first | exact Drawn0.refl _ | apply Drawn0.step)⟩
set_option maxHeartbeats 8000000 in
set_option maxRecDepth 100000 in
theorem impl_within.calls (a0 : Int) (a1 : Int) (a2 : Int) (r : Bool) (w : World) (h : impl_within.f a0 a1 a2 = some r) :
    Calls Try.prog 63 #[.int .i64 a0, .int .i64 a1, .int .i64 a2] w fun e w' => e = .returned (.bool r) ∧ Drawn0 w w' := by
  have H : (if a1 ≤ a0 then (some (decide (a0 ≤ a2))) else (some false)) = some r := h
  clear h
  by_cases c4 : a1 ≤ a0
  · rw [if_pos c4] at H
    have c4b0 : decide (a1 ≤ a0) = true := decide_eq_true c4
    clear c4
    obtain rfl := Option.some.inj H
    go_enter Try.func63, Try.ntmps63
    go_wp2
    go_ret
    exact ⟨by first | rfl | (simp; done) | (simp [*]; done), by repeat (first | exact Drawn0.refl _ | apply Drawn0.step)⟩
  · rw [if_neg c4] at H
    have c4b0 : decide (a1 ≤ a0) = false := decide_eq_false c4
    clear c4
    obtain rfl := Option.some.inj H
    go_enter Try.func63, Try.ntmps63
    go_wp2
    go_ret
    exact ⟨by first | rfl | (simp; done) | (simp [*]; done), by repeat (first | exact Drawn0.refl _ | apply Drawn0.step)⟩
set_option maxHeartbeats 8000000 in
set_option maxRecDepth 100000 in
theorem impl_isName.calls (k : Nat) (a0 : ByteArray) (r : Bool) (w : World) (h : impl_isName.f k a0 = some r) :
    Calls Try.prog 72 #[.string a0] w fun e w' => e = .returned (.bool r) ∧ Drawn0 w w' := by
  have H : (impl_isName.l0 k a0 (a0.size : Int) 0) = some r := h
  clear h
  have H' := Aside0.mk H
  clear H
  go_enter Try.func72, Try.ntmps72
  go_wp2
  go_loopg [6] k (fun kq v6 w' => ∃ (x6_1 : Int), v6 = .int .i64 x6_1 ∧ Aside0 (impl_isName.l0 kq a0 (a0.size : Int) x6_1 = some r) ∧ Aside0 (kq ≤ k) ∧ Drawn0 w w')
  case atStart => exact ⟨(0), (by first | rfl | (simp; done) | (simp [*]; done)), H', ⟨Nat.le_refl _⟩, by repeat (first | exact Drawn0.refl _ | apply Drawn0.step)⟩
  case round =>
    clear H'
    obtain ⟨x6_1, rfl, HA, HK1, ⟨m1, rfl⟩⟩ := hrel
    cases gk with
    | zero => exact absurd HA.out (by simp [impl_isName.l0])
    | succ k1 =>
      have H := HA.out
      clear HA
      simp only [impl_isName.l0] at H
      by_cases c2 : x6_1 < (a0.size : Int)
      · rw [if_pos c2] at H
        have c2b0 : decide (x6_1 < (a0.size : Int)) = true := decide_eq_true c2
        clear c2
        by_cases c3 : 0 ≤ x6_1
        · rw [if_pos c3] at H
          have c3b0 : decide (0 ≤ x6_1) = true := decide_eq_true c3
          clear c3
          by_cases c4 : x6_1 < (a0.size : Int)
          · rw [if_pos c4] at H
            have c4b0 : decide (x6_1 < (a0.size : Int)) = true := decide_eq_true c4
            clear c4
            replace H := Option.bind_eq_some_iff.mp H
            obtain ⟨t113, A60, H⟩ := H
            replace H : (if t113 = true then (impl_isName.l0 k1 a0 (a0.size : Int) (wrap64 (x6_1 + 1))) else (if x6_1 = 0 then (some false) else ((impl_isDigit.f (bt a0 x6_1)).bind fun t114 => (if t114 = true then (impl_isName.l0 k1 a0 (a0.size : Int) (wrap64 (x6_1 + 1))) else (if (bt a0 x6_1) = 45 then (impl_isName.l0 k1 a0 (a0.size : Int) (wrap64 (x6_1 + 1))) else (some false)))))) = some r := H
            have A6 := Aside0.mk A60
            clear A60
            by_cases c7 : t113 = true
            · subst c7
              have H1 : (impl_isName.l0 k1 a0 (a0.size : Int) (wrap64 (x6_1 + 1))) = some r := by rw [if_pos rfl] at H; exact H
              clear H
              have H := H1
              clear H1
              have H' := Aside0.mk H
              clear H
              have p5 : 0 ≤ (x6_1 : Int) := of_decide_eq_true (by first | (with_reducible assumption) | assumption)
              have q5 : x6_1 < (a0.size : Int) := of_decide_eq_true (by first | (with_reducible assumption) | assumption)
              have hx5 := bt_at a0 x6_1
              replace p5 := eq_true p5
              replace q5 := eq_true q5
              go_wp2_with (first | ((first | ((with_reducible refine gate_callee (f := 94) rfl ?_); refine goesL_ (some 12) rfl rfl Try.func94 (by kernel_rfl) rfl #[.int .u8 (bt a0 x6_1)] rfl (by (try simp only [List.map_toArray, List.map_cons, List.map_nil]); first | done | rfl | (simp only [List.length_drop, List.length_take]; rfl)) ?_; (with_reducible refine (impl_isGreat.calls (bt a0 x6_1) true _ A6.out).mono ?_); rintro e w' ⟨rfl, ⟨nd, rfl⟩⟩; refine ⟨_, rfl, ?_⟩) | (go_at_call 94; (with_reducible refine (impl_isGreat.calls (bt a0 x6_1) true _ A6.out).mono ?_); rintro e w' ⟨rfl, ⟨nd, rfl⟩⟩))))
              go_roundg k1
              case measure => have := HK1.out; omega
              case rel => exact ⟨(wrap64 (x6_1 + 1)), (by first | rfl | (simp; done) | (simp [*]; done)), H', ⟨by have := HK1.out; omega⟩, by repeat (first | exact Drawn0.refl _ | apply Drawn0.step)⟩
            · replace c7 := Bool.eq_false_iff.mpr c7
              subst c7
              have H1 : (if x6_1 = 0 then (some false) else ((impl_isDigit.f (bt a0 x6_1)).bind fun t114 => (if t114 = true then (impl_isName.l0 k1 a0 (a0.size : Int) (wrap64 (x6_1 + 1))) else (if (bt a0 x6_1) = 45 then (impl_isName.l0 k1 a0 (a0.size : Int) (wrap64 (x6_1 + 1))) else (some false))))) = some r := by rw [if_neg (show ¬ (false = true) by decide)] at H; exact H
              clear H
              have H := H1
              clear H1
              by_cases c8 : x6_1 = 0
              · rw [if_pos c8] at H
                have c8b0 : (x6_1 == 0) = true := beq_iff_eq.mpr c8
                have c8b1 : (x6_1 != 0) = false := bne_eq_false_iff_eq.mpr c8
                clear c8
                obtain rfl := Option.some.inj H
                have p5 : 0 ≤ (x6_1 : Int) := of_decide_eq_true (by first | (with_reducible assumption) | assumption)
                have q5 : x6_1 < (a0.size : Int) := of_decide_eq_true (by first | (with_reducible assumption) | assumption)
                have hx5 := bt_at a0 x6_1
                replace p5 := eq_true p5
                replace q5 := eq_true q5
                go_wp2_with (first | ((first | ((with_reducible refine gate_callee (f := 94) rfl ?_); refine goesL_ (some 12) rfl rfl Try.func94 (by kernel_rfl) rfl #[.int .u8 (bt a0 x6_1)] rfl (by (try simp only [List.map_toArray, List.map_cons, List.map_nil]); first | done | rfl | (simp only [List.length_drop, List.length_take]; rfl)) ?_; (with_reducible refine (impl_isGreat.calls (bt a0 x6_1) false _ A6.out).mono ?_); rintro e w' ⟨rfl, ⟨nd, rfl⟩⟩; refine ⟨_, rfl, ?_⟩) | (go_at_call 94; (with_reducible refine (impl_isGreat.calls (bt a0 x6_1) false _ A6.out).mono ?_); rintro e w' ⟨rfl, ⟨nd, rfl⟩⟩))))
                go_ret
                exact ⟨by first | rfl | (simp; done) | (simp [*]; done), by repeat (first | exact Drawn0.refl _ | apply Drawn0.step)⟩
              · rw [if_neg c8] at H
                have c8b0 : (x6_1 == 0) = false := beq_eq_false_iff_ne.mpr c8
                have c8b1 : (x6_1 != 0) = true := bne_iff_ne.mpr c8
                replace H := Option.bind_eq_some_iff.mp H
                obtain ⟨t114, A100, H⟩ := H
                replace H : (if t114 = true then (impl_isName.l0 k1 a0 (a0.size : Int) (wrap64 (x6_1 + 1))) else (if (bt a0 x6_1) = 45 then (impl_isName.l0 k1 a0 (a0.size : Int) (wrap64 (x6_1 + 1))) else (some false))) = some r := H
                have A10 := Aside0.mk A100
                clear A100
                by_cases c11 : t114 = true
                · subst c11
                  have H1 : (impl_isName.l0 k1 a0 (a0.size : Int) (wrap64 (x6_1 + 1))) = some r := by rw [if_pos rfl] at H; exact H
                  clear H
                  have H := H1
                  clear H1
                  have H' := Aside0.mk H
                  clear H
                  have p5 : 0 ≤ (x6_1 : Int) := of_decide_eq_true (by first | (with_reducible assumption) | assumption)
                  have q5 : x6_1 < (a0.size : Int) := of_decide_eq_true (by first | (with_reducible assumption) | assumption)
                  have hx5 := bt_at a0 x6_1
                  replace p5 := eq_true p5
                  replace q5 := eq_true q5
                  go_wp2_with (first | ((first | ((with_reducible refine gate_callee (f := 94) rfl ?_); refine goesL_ (some 12) rfl rfl Try.func94 (by kernel_rfl) rfl #[.int .u8 (bt a0 x6_1)] rfl (by (try simp only [List.map_toArray, List.map_cons, List.map_nil]); first | done | rfl | (simp only [List.length_drop, List.length_take]; rfl)) ?_; (with_reducible refine (impl_isGreat.calls (bt a0 x6_1) false _ A6.out).mono ?_); rintro e w' ⟨rfl, ⟨nd, rfl⟩⟩; refine ⟨_, rfl, ?_⟩) | (go_at_call 94; (with_reducible refine (impl_isGreat.calls (bt a0 x6_1) false _ A6.out).mono ?_); rintro e w' ⟨rfl, ⟨nd, rfl⟩⟩)); have p9 : 0 ≤ (x6_1 : Int) := of_decide_eq_true (by first | (with_reducible assumption) | assumption); have q9 : x6_1 < (a0.size : Int) := of_decide_eq_true (by first | (with_reducible assumption) | assumption); have hx9 := bt_at a0 x6_1; replace p9 := eq_true p9; replace q9 := eq_true q9) | (go_at_call 95; (with_reducible refine (impl_isDigit.calls (bt a0 x6_1) true _ A10.out).mono ?_); rintro e w' ⟨rfl, ⟨nd, rfl⟩⟩))
                  go_roundg k1
                  case measure => have := HK1.out; omega
                  case rel => exact ⟨(wrap64 (x6_1 + 1)), (by first | rfl | (simp; done) | (simp [*]; done)), H', ⟨by have := HK1.out; omega⟩, by repeat (first | exact Drawn0.refl _ | apply Drawn0.step)⟩
                · replace c11 := Bool.eq_false_iff.mpr c11
                  subst c11
                  have H1 : (if (bt a0 x6_1) = 45 then (impl_isName.l0 k1 a0 (a0.size : Int) (wrap64 (x6_1 + 1))) else (some false)) = some r := by rw [if_neg (show ¬ (false = true) by decide)] at H; exact H
                  clear H
                  have H := H1
                  clear H1
                  by_cases c13 : (bt a0 x6_1) = 45
                  · rw [if_pos c13] at H
                    have c13b0 : ((bt a0 x6_1) == 45) = true := beq_iff_eq.mpr c13
                    have c13b1 : ((bt a0 x6_1) != 45) = false := bne_eq_false_iff_eq.mpr c13
                    clear c13
                    have H' := Aside0.mk H
                    clear H
                    have p5 : 0 ≤ (x6_1 : Int) := of_decide_eq_true (by first | (with_reducible assumption) | assumption)
                    have q5 : x6_1 < (a0.size : Int) := of_decide_eq_true (by first | (with_reducible assumption) | assumption)
                    have hx5 := bt_at a0 x6_1
                    replace p5 := eq_true p5
                    replace q5 := eq_true q5
                    go_wp2_with (first | ((first | ((with_reducible refine gate_callee (f := 94) rfl ?_); refine goesL_ (some 12) rfl rfl Try.func94 (by kernel_rfl) rfl #[.int .u8 (bt a0 x6_1)] rfl (by (try simp only [List.map_toArray, List.map_cons, List.map_nil]); first | done | rfl | (simp only [List.length_drop, List.length_take]; rfl)) ?_; (with_reducible refine (impl_isGreat.calls (bt a0 x6_1) false _ A6.out).mono ?_); rintro e w' ⟨rfl, ⟨nd, rfl⟩⟩; refine ⟨_, rfl, ?_⟩) | (go_at_call 94; (with_reducible refine (impl_isGreat.calls (bt a0 x6_1) false _ A6.out).mono ?_); rintro e w' ⟨rfl, ⟨nd, rfl⟩⟩)); have p9 : 0 ≤ (x6_1 : Int) := of_decide_eq_true (by first | (with_reducible assumption) | assumption); have q9 : x6_1 < (a0.size : Int) := of_decide_eq_true (by first | (with_reducible assumption) | assumption); have hx9 := bt_at a0 x6_1; replace p9 := eq_true p9; replace q9 := eq_true q9) | (go_at_call 95; (with_reducible refine (impl_isDigit.calls (bt a0 x6_1) false _ A10.out).mono ?_); rintro e w' ⟨rfl, ⟨nd, rfl⟩⟩; have p12 : 0 ≤ (x6_1 : Int) := of_decide_eq_true (by first | (with_reducible assumption) | assumption); have q12 : x6_1 < (a0.size : Int) := of_decide_eq_true (by first | (with_reducible assumption) | assumption); have hx12 := bt_at a0 x6_1; replace p12 := eq_true p12; replace q12 := eq_true q12))
                    go_roundg k1
                    case measure => have := HK1.out; omega
                    case rel => exact ⟨(wrap64 (x6_1 + 1)), (by first | rfl | (simp; done) | (simp [*]; done)), H', ⟨by have := HK1.out; omega⟩, by repeat (first | exact Drawn0.refl _ | apply Drawn0.step)⟩
                  · rw [if_neg c13] at H
                    have c13b0 : ((bt a0 x6_1) == 45) = false := beq_eq_false_iff_ne.mpr c13
                    have c13b1 : ((bt a0 x6_1) != 45) = true := bne_iff_ne.mpr c13
                    obtain rfl := Option.some.inj H
                    have p5 : 0 ≤ (x6_1 : Int) := of_decide_eq_true (by first | (with_reducible assumption) | assumption)
                    have q5 : x6_1 < (a0.size : Int) := of_decide_eq_true (by first | (with_reducible assumption) | assumption)
                    have hx5 := bt_at a0 x6_1
                    replace p5 := eq_true p5
                    replace q5 := eq_true q5
                    go_wp2_with (first | ((first | ((with_reducible refine gate_callee (f := 94) rfl ?_); refine goesL_ (some 12) rfl rfl Try.func94 (by kernel_rfl) rfl #[.int .u8 (bt a0 x6_1)] rfl (by (try simp only [List.map_toArray, List.map_cons, List.map_nil]); first | done | rfl | (simp only [List.length_drop, List.length_take]; rfl)) ?_; (with_reducible refine (impl_isGreat.calls (bt a0 x6_1) false _ A6.out).mono ?_); rintro e w' ⟨rfl, ⟨nd, rfl⟩⟩; refine ⟨_, rfl, ?_⟩) | (go_at_call 94; (with_reducible refine (impl_isGreat.calls (bt a0 x6_1) false _ A6.out).mono ?_); rintro e w' ⟨rfl, ⟨nd, rfl⟩⟩)); have p9 : 0 ≤ (x6_1 : Int) := of_decide_eq_true (by first | (with_reducible assumption) | assumption); have q9 : x6_1 < (a0.size : Int) := of_decide_eq_true (by first | (with_reducible assumption) | assumption); have hx9 := bt_at a0 x6_1; replace p9 := eq_true p9; replace q9 := eq_true q9) | (go_at_call 95; (with_reducible refine (impl_isDigit.calls (bt a0 x6_1) false _ A10.out).mono ?_); rintro e w' ⟨rfl, ⟨nd, rfl⟩⟩; have p12 : 0 ≤ (x6_1 : Int) := of_decide_eq_true (by first | (with_reducible assumption) | assumption); have q12 : x6_1 < (a0.size : Int) := of_decide_eq_true (by first | (with_reducible assumption) | assumption); have hx12 := bt_at a0 x6_1; replace p12 := eq_true p12; replace q12 := eq_true q12))
                    go_ret
                    exact ⟨by first | rfl | (simp; done) | (simp [*]; done), by repeat (first | exact Drawn0.refl _ | apply Drawn0.step)⟩
          · rw [if_neg c4] at H
            exact absurd H (by simp)
        · rw [if_neg c3] at H
          exact absurd H (by simp)
      · rw [if_neg c2] at H
        have c2b0 : decide (x6_1 < (a0.size : Int)) = false := decide_eq_false c2
        clear c2
        replace H := Option.bind_eq_some_iff.mp H
        obtain ⟨t112, A140, H⟩ := H
        replace H : (some t112) = some r := H
        have A14 := Aside0.mk A140
        clear A140
        obtain rfl := Option.some.inj H
        go_wp2_with (first | ((first | ((with_reducible refine gate_callee (f := 63) rfl ?_); refine goesL_ (some 34) rfl rfl Try.func63 (by kernel_rfl) rfl #[.int .i64 (a0.size : Int), .int .i64 1, .int .i64 12] rfl (by (try simp only [List.map_toArray, List.map_cons, List.map_nil]); first | done | rfl | (simp only [List.length_drop, List.length_take]; rfl)) ?_; (with_reducible refine (impl_within.calls (a0.size : Int) 1 12 t112 _ A14.out).mono ?_); rintro e w' ⟨rfl, ⟨nd, rfl⟩⟩; refine ⟨_, rfl, ?_⟩) | (go_at_call 63; (with_reducible refine (impl_within.calls (a0.size : Int) 1 12 t112 _ A14.out).mono ?_); rintro e w' ⟨rfl, ⟨nd, rfl⟩⟩))))
        go_ret
        exact ⟨by first | rfl | (simp; done) | (simp [*]; done), by repeat (first | exact Drawn0.refl _ | apply Drawn0.step)⟩
end Go.Proofs.Ytpfdfbomlffhcaa.QA
