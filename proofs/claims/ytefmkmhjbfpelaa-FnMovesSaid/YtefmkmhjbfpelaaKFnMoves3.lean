-- Merged by a program of this session (wip/tool/pack.py) out of its own texts for this claim.
import Derived.Test.YtefmkmhjbfpelaaKFnMoves0
import Derived.Test.YtefmkmhjbfpelaaKFnMoves1
import Derived.Test.YtefmkmhjbfpelaaKFnMoves2
namespace Go.Proofs.Ytefmkmhjbfpelaa.QM
open Go.RowKit Go.Proofs.YtefmkmhjbfpelaaW.PrintWords Go.Proofs.YtefmkmhjbfpelaaW.PrintLast Go.Proofs.YtefmkmhjbfpelaaW.PrintMore
attribute [local go_sem] max2_int min2_int max_two min_two max_three min_three max_four min_four   -- for this text's walks alone
set_option linter.unusedVariables false
set_option linter.unusedSimpArgs false
def spec_l10Copy.f (l0_0 : List (S117)) (l0_1 : List (S54)) : Option ((List (S117)) × (List (S54))) := (some (([] : List (S117)) : List (S117))).bind fun y147 => (if y147.length + l0_0.length < 5864062014805 then ((some (([] : List (S54)) : List (S54))).bind fun y153 => (if y153.length + l0_1.length < 1599289640401 then (some ((y147 ++ l0_0), (y153 ++ l0_1))) else (none))) else (none))
mutual
def spec_l01Name.j0 : Nat → ByteArray → Bool → Option (Bool)
  | 0, _, _ => none
  | k + 1, x0, x22 => if x22 = true then (some false) else (spec_l01Name.l0 k x0 0)
def spec_l01Name.l0 : Nat → ByteArray → Int → Option (Bool)
  | 0, _, _ => none
  | k + 1, x0, x3 => if x3 < (x0.size : Int) then (if 0 ≤ x3 then (if (bt x0 x3) ≥ 65 then (if (bt x0 x3) ≤ 90 then (spec_l01Name.l0 k x0 (wrap64 (x3 + 1))) else (if (bt x0 x3) ≥ 48 then (if (bt x0 x3) ≤ 57 then (spec_l01Name.l0 k x0 (wrap64 (x3 + 1))) else (if ((bt x0 x3) = 45) then (spec_l01Name.l0 k x0 (wrap64 (x3 + 1))) else (some false))) else (if ((bt x0 x3) = 45) then (spec_l01Name.l0 k x0 (wrap64 (x3 + 1))) else (some false)))) else (if (bt x0 x3) ≥ 48 then (if (bt x0 x3) ≤ 57 then (spec_l01Name.l0 k x0 (wrap64 (x3 + 1))) else (if ((bt x0 x3) = 45) then (spec_l01Name.l0 k x0 (wrap64 (x3 + 1))) else (some false))) else (if ((bt x0 x3) = 45) then (spec_l01Name.l0 k x0 (wrap64 (x3 + 1))) else (some false)))) else (none)) else (some true)
end
def spec_l01Name.f (k : Nat) (a0 : ByteArray) : Option (Bool) := if (a0.size : Int) < 1 then (spec_l01Name.j0 k a0 true) else (if (a0.size : Int) > 12 then (spec_l01Name.j0 k a0 true) else (if 0 < (a0.size : Int) then (if (bt a0 0) < 65 then (spec_l01Name.j0 k a0 true) else (spec_l01Name.j0 k a0 (decide ((bt a0 0) > 90)))) else (none)))
def spec_l01Qty.f (a0 : Int) : Option (Bool) := if a0 ≥ 1 then (some (decide (a0 ≤ 1000000))) else (some false)
def spec_LineRight.f (k : Nat) (a0_0 : ByteArray) (a0_1 : ByteArray) (a0_2 : Int) (a0_3 : ByteArray) (a0_4 : Int) (a0_5 : Int) (a0_6 : Int) (a0_7 : Int) : Option (Bool) := (spec_l01Name.f k a0_0).bind fun t160 => (if t160 = true then ((spec_l01Name.f k a0_1).bind fun t161 => (if t161 = true then ((spec_l01Name.f k a0_3).bind fun t162 => (if t162 = true then (if a0_2 ≥ 1 then (if a0_2 ≤ 999 then ((spec_l01Qty.f a0_4).bind fun t163 => (if t163 = true then (if a0_5 ≥ 0 then (if a0_6 ≥ 0 then (if a0_7 ≥ 0 then (if a0_6 ≤ a0_5 then (if a0_5 ≤ a0_4 then (some (decide (a0_7 ≤ (wrap64 (a0_4 - a0_5))))) else (some false)) else (some false)) else (some false)) else (some false)) else (some false)) else (some false))) else (some false)) else (some false)) else (some false))) else (some false))) else (some false))
def spec_l09Before.f (a0_0 : ByteArray) (a0_1 : ByteArray) (a0_2 : Int) (a0_3 : ByteArray) (a0_4 : Int) (a0_5 : Int) (a0_6 : Int) (a0_7 : Int) (a1_0 : ByteArray) (a1_1 : ByteArray) (a1_2 : Int) (a1_3 : ByteArray) (a1_4 : Int) (a1_5 : Int) (a1_6 : Int) (a1_7 : Int) : Option (Bool) := if a0_0.toList = a1_0.toList then (if a0_1.toList = a1_1.toList then (some (decide (a0_2 < a1_2))) else (some (Op.bytesLess a0_1.toList a1_1.toList))) else (some (Op.bytesLess a0_0.toList a1_0.toList))
def spec_LinesRight.l0 : Nat → List (S54) → Int → Option (Bool)
  | 0, _, _ => none
  | k + 1, x0, x3 => if x3 < (x0.length : Int) then (if 0 ≤ x3 then ((spec_LineRight.f k ((rd_T54 x0 x3).f0) ((rd_T54 x0 x3).f1) ((rd_T54 x0 x3).f2) ((rd_T54 x0 x3).f3) ((rd_T54 x0 x3).f4) ((rd_T54 x0 x3).f5) ((rd_T54 x0 x3).f6) ((rd_T54 x0 x3).f7)).bind fun t167 => (if t167 = true then (if x3 > 0 then (if 0 ≤ (wrap64 (x3 - 1)) then (if (wrap64 (x3 - 1)) < (x0.length : Int) then ((spec_l09Before.f ((rd_T54 x0 (wrap64 (x3 - 1))).f0) ((rd_T54 x0 (wrap64 (x3 - 1))).f1) ((rd_T54 x0 (wrap64 (x3 - 1))).f2) ((rd_T54 x0 (wrap64 (x3 - 1))).f3) ((rd_T54 x0 (wrap64 (x3 - 1))).f4) ((rd_T54 x0 (wrap64 (x3 - 1))).f5) ((rd_T54 x0 (wrap64 (x3 - 1))).f6) ((rd_T54 x0 (wrap64 (x3 - 1))).f7) ((rd_T54 x0 x3).f0) ((rd_T54 x0 x3).f1) ((rd_T54 x0 x3).f2) ((rd_T54 x0 x3).f3) ((rd_T54 x0 x3).f4) ((rd_T54 x0 x3).f5) ((rd_T54 x0 x3).f6) ((rd_T54 x0 x3).f7)).bind fun t170 => (if t170 = true then (spec_LinesRight.l0 k x0 (wrap64 (x3 + 1))) else (some false))) else (none)) else (none)) else (spec_LinesRight.l0 k x0 (wrap64 (x3 + 1)))) else (some false))) else (none)) else (some true)
def spec_LinesRight.f (k : Nat) (l0 : List (S54)) : Option (Bool) := if (l0.length : Int) > 200 then (some false) else (spec_LinesRight.l0 k l0 0)
mutual
def spec_BookRight.j0 : Nat → Bool → List (S117) → List (S54) → Option (Bool)
  | 0, _, _, _ => none
  | k + 1, x14, x172000, x172001 => if x14 = true then (some false) else (spec_BookRight.l0 k 0 x172000 x172001)
def spec_BookRight.l0 : Nat → Int → List (S117) → List (S54) → Option (Bool)
  | 0, _, _, _ => none
  | k + 1, x3, x172000, x172001 => if x3 < (x172000.length : Int) then (if 0 ≤ x3 then ((spec_l01Name.f k ((rd_T117 x172000 x3).f0)).bind fun t175 => (if t175 = true then (if ((rd_T117 x172000 x3).f1) < 0 then (some false) else (if ((rd_T117 x172000 x3).f1) > 1000000000 then (some false) else (if x3 > 0 then (if 0 ≤ (wrap64 (x3 - 1)) then (if (wrap64 (x3 - 1)) < (x172000.length : Int) then (if ((Op.bytesLess (((rd_T117 x172000 (wrap64 (x3 - 1))).f0).toList) (((rd_T117 x172000 x3).f0).toList)) = true) then (spec_BookRight.l0 k (wrap64 (x3 + 1)) x172000 x172001) else (some false)) else (none)) else (none)) else (spec_BookRight.l0 k (wrap64 (x3 + 1)) x172000 x172001)))) else (some false))) else (none)) else (some true)
end
def spec_BookRight.f (k : Nat) (l0_0 : List (S117)) (l0_1 : List (S54)) : Option (Bool) := if (l0_0.length : Int) > 100 then (spec_BookRight.j0 k true l0_0 l0_1) else ((spec_LinesRight.f k l0_1).bind fun t172 => (spec_BookRight.j0 k (!t172) l0_0 l0_1))
def spec_l10Stock.l0 : Nat → ByteArray → Int → List (S117) → List (S54) → Option (Int)
  | 0, _, _, _, _ => none
  | k + 1, x1, x5, x178000, x178001 => if x5 < (x178000.length : Int) then (if 0 ≤ x5 then (if ((rd_T117 x178000 x5).f0).toList = x1.toList then (some x5) else (spec_l10Stock.l0 k x1 (wrap64 (x5 + 1)) x178000 x178001)) else (none)) else (some (-1))
def spec_l10Stock.f (k : Nat) (l0_0 : List (S117)) (l0_1 : List (S54)) (a1 : ByteArray) : Option (Int) := spec_l10Stock.l0 k a1 0 l0_0 l0_1
def spec_BookHand.f (k : Nat) (l0_0 : List (S117)) (l0_1 : List (S54)) (a1 : ByteArray) : Option (Int) := if (a1.size : Int) > 20000 then (some 0) else ((spec_BookRight.f k l0_0 l0_1).bind fun t180 => (if t180 = true then ((spec_l10Stock.f k l0_0 l0_1 a1).bind fun t181 => (if t181 < 0 then (some 0) else ((spec_l10Stock.f k l0_0 l0_1 a1).bind fun t182 => (if 0 ≤ t182 then (if t182 < (l0_0.length : Int) then (some ((rd_T117 l0_0 t182).f1)) else (none)) else (none))))) else (some 0)))
mutual
def spec_l10Move.j0 : Nat → ByteArray → Int → Bool → List (S117) → List (S54) → List (S117) → List (S54) → Option ((List (S117)) × (List (S54)) × Bool)
  | 0, _, _, _, _, _, _, _ => none
  | k + 1, x1, x2, x30, x185000, x185001, x193000, x193001 => if x30 = true then (some (x193000, x193001, false)) else ((spec_BookHand.f k x185000 x185001 x1).bind fun t196 => (if (wrap64 (t196 + x2)) < 0 then (spec_l10Move.j1 k x1 (wrap64 (t196 + x2)) true x185000 x185001 x193000 x193001 x193001) else (if (wrap64 (t196 + x2)) > 1000000000 then (spec_l10Move.j1 k x1 (wrap64 (t196 + x2)) true x185000 x185001 x193000 x193001 x193001) else ((spec_l10Stock.f k x185000 x185001 x1).bind fun t197 => (if t197 < 0 then (spec_l10Move.j1 k x1 (wrap64 (t196 + x2)) (decide ((x185000.length : Int) ≥ 100)) x185000 x185001 x193000 x193001 x193001) else (spec_l10Move.j1 k x1 (wrap64 (t196 + x2)) false x185000 x185001 x193000 x193001 x193001))))))
def spec_l10Move.j1 : Nat → ByteArray → Int → Bool → List (S117) → List (S54) → List (S117) → List (S54) → List (S54) → Option ((List (S117)) × (List (S54)) × Bool)
  | 0, _, _, _, _, _, _, _, _ => none
  | k + 1, x1, x10, x57, x185000, x185001, x193000, x193001, x196001 => if x57 = true then (some (x193000, x193001, false)) else (spec_l10Move.l0 k x1 x10 false 0 x185000 x185001 ([] : List (S117)) x196001)
def spec_l10Move.l0 : Nat → ByteArray → Int → Bool → Int → List (S117) → List (S54) → List (S117) → List (S54) → Option ((List (S117)) × (List (S54)) × Bool)
  | 0, _, _, _, _, _, _, _, _ => none
  | k + 1, x1, x10, x11, x12, x185000, x185001, x196000, x196001 => if x12 < (x185000.length : Int) then (if x11 = true then (spec_l10Move.j3 k x1 x10 x11 x12 false x185000 x185001 x196000 x196001) else (if 0 ≤ x12 then (spec_l10Move.j3 k x1 x10 x11 x12 (!(Op.bytesLess (((rd_T117 x185000 x12).f0).toList) x1.toList)) x185000 x185001 x196000 x196001) else (none))) else (if x11 = true then (some (x196000, x196001, true)) else (if x196000.length < 5864062014805 then (some ((x196000 ++ [(⟨x1, x10⟩ : S117)]), x196001, true)) else (none)))
def spec_l10Move.j3 : Nat → ByteArray → Int → Bool → Int → Bool → List (S117) → List (S54) → List (S117) → List (S54) → Option ((List (S117)) × (List (S54)) × Bool)
  | 0, _, _, _, _, _, _, _, _, _ => none
  | k + 1, x1, x10, x11, x12, x77, x185000, x185001, x196000, x196001 => if x77 = true then (if x196000.length < 5864062014805 then ((some (x196000 ++ [(⟨x1, x10⟩ : S117)] : List (S117))).bind fun y202 => (if 0 ≤ x12 then (if x12 < (x185000.length : Int) then (if ((rd_T117 x185000 x12).f0).toList = x1.toList then (spec_l10Move.l0 k x1 x10 true (wrap64 (x12 + 1)) x185000 x185001 y202 x196001) else (if y202.length < 5864062014805 then (spec_l10Move.l0 k x1 x10 true (wrap64 (x12 + 1)) x185000 x185001 (y202 ++ [(⟨(rd_T117 x185000 x12).f0, (rd_T117 x185000 x12).f1⟩ : S117)]) x196001) else (none))) else (none)) else (none))) else (none)) else (if 0 ≤ x12 then (if x12 < (x185000.length : Int) then (if ((rd_T117 x185000 x12).f0).toList = x1.toList then (spec_l10Move.l0 k x1 x10 x11 (wrap64 (x12 + 1)) x185000 x185001 x196000 x196001) else (if x196000.length < 5864062014805 then (spec_l10Move.l0 k x1 x10 x11 (wrap64 (x12 + 1)) x185000 x185001 (x196000 ++ [(⟨(rd_T117 x185000 x12).f0, (rd_T117 x185000 x12).f1⟩ : S117)]) x196001) else (none))) else (none)) else (none))
end
def spec_l10Move.f (k : Nat) (l0_0 : List (S117)) (l0_1 : List (S54)) (a1 : ByteArray) (a2 : Int) : Option ((List (S117)) × (List (S54)) × Bool) := (spec_l10Copy.f l0_0 l0_1).bind fun bt186 => ((spec_BookRight.f k l0_0 l0_1).bind fun t193 => (if t193 = true then ((spec_l01Name.f k a1).bind fun t194 => (if t194 = true then (if a2 < (-1000000000) then (spec_l10Move.j0 k a1 a2 true l0_0 l0_1 bt186.1 bt186.2) else (spec_l10Move.j0 k a1 a2 (decide (a2 > 1000000000)) l0_0 l0_1 bt186.1 bt186.2)) else (spec_l10Move.j0 k a1 a2 true l0_0 l0_1 bt186.1 bt186.2))) else (spec_l10Move.j0 k a1 a2 true l0_0 l0_1 bt186.1 bt186.2)))
def spec_BookMove.f (k : Nat) (l0_0 : List (S117)) (l0_1 : List (S54)) (a1 : ByteArray) (a2 : Int) : Option ((List (S117)) × (List (S54))) := if (a1.size : Int) > 20000 then (some (([] : List (S117)), ([] : List (S54)))) else ((spec_l10Move.f k l0_0 l0_1 a1 a2).bind fun bt217 => (some (bt217.1, bt217.2.1)))
def impl_longText_1.f (a0 : ByteArray) : Option (Bool) := some (decide ((a0.size : Int) > 20000))
def slices_IndexFunc_string_string_impl_longText_1.l0 : Nat → List ByteArray → Int → Int → Option (Int)
  | 0, _, _, _ => none
  | k + 1, x0, x7, x8 => if x8 < x7 then (if 0 ≤ x8 then (if x8 < (x0.length : Int) then ((impl_longText_1.f (rdOf ByteArray.empty x0 x8)).bind fun t226 => (if t226 = true then (some x8) else (slices_IndexFunc_string_string_impl_longText_1.l0 k x0 x7 (wrap64 (x8 + 1))))) else (none)) else (none)) else (some (-1))
def slices_IndexFunc_string_string_impl_longText_1.f (k : Nat) (l0 : List ByteArray)  : Option (Int) := slices_IndexFunc_string_string_impl_longText_1.l0 k l0 (l0.length : Int) 0
def slices_ContainsFunc_string_string_impl_longText_1.f (k : Nat) (l0 : List ByteArray)  : Option (Bool) := (slices_IndexFunc_string_string_impl_longText_1.f k l0).bind fun t227 => (some (decide (t227 ≥ 0)))
def impl_longText.f (k : Nat) (l0 : List ByteArray) : Option (Bool) := (slices_ContainsFunc_string_string_impl_longText_1.f k l0).bind fun t228 => (some t228)
def slices_Clone_implStock.f (l0 : List S117) : Option (List S117) := if l0.length < 5864062014805 then some l0 else none
def slices_Clone_implOrderLine.f (l0 : List S54) : Option (List S54) := if l0.length < 1599289640401 then some l0 else none
def impl_ownBook.f (l0_0 : List (S117)) (l0_1 : List (S54)) : Option ((List (S117)) × (List (S54))) := (slices_Clone_implStock.f l0_0).bind fun t231 => ((slices_Clone_implOrderLine.f l0_1).bind fun t234 => (some (t231, t234)))
def impl_isGreat.f (a0 : Int) : Option (Bool) := if a0 ≥ 65 then (some (decide (a0 ≤ 90))) else (some false)
def impl_isDigit.f (a0 : Int) : Option (Bool) := if a0 ≥ 48 then (some (decide (a0 ≤ 57))) else (some false)
def impl_within.f (a0 : Int) (a1 : Int) (a2 : Int) : Option (Bool) := if a1 ≤ a0 then (some (decide (a0 ≤ a2))) else (some false)
def impl_isName.l0 : Nat → ByteArray → Int → Int → Option (Bool)
  | 0, _, _, _ => none
  | k + 1, x0, x5, x6 => if x6 < x5 then (if 0 ≤ x6 then (if x6 < (x0.size : Int) then ((impl_isGreat.f (bt x0 x6)).bind fun t238 => (if t238 = true then (impl_isName.l0 k x0 x5 (wrap64 (x6 + 1))) else (if x6 = 0 then (some false) else ((impl_isDigit.f (bt x0 x6)).bind fun t239 => (if t239 = true then (impl_isName.l0 k x0 x5 (wrap64 (x6 + 1))) else (if (bt x0 x6) = 45 then (impl_isName.l0 k x0 x5 (wrap64 (x6 + 1))) else (some false))))))) else (none)) else (none)) else ((impl_within.f (x0.size : Int) 1 12).bind fun t237 => (some t237))
def impl_isName.f (k : Nat) (a0 : ByteArray) : Option (Bool) := impl_isName.l0 k a0 (a0.size : Int) 0
def impl_isQty.f (a0 : Int) : Option (Bool) := (impl_within.f a0 1 1000000).bind fun t240 => (some t240)
def impl_LineRight.f (k : Nat) (a0_0 : ByteArray) (a0_1 : ByteArray) (a0_2 : Int) (a0_3 : ByteArray) (a0_4 : Int) (a0_5 : Int) (a0_6 : Int) (a0_7 : Int) : Option (Bool) := (impl_isName.f k a0_0).bind fun t242 => (if t242 = true then ((impl_isName.f k a0_1).bind fun t243 => (if t243 = true then ((impl_isName.f k a0_3).bind fun t244 => (if t244 = true then ((impl_within.f a0_2 1 999).bind fun t245 => (if t245 = true then ((impl_isQty.f a0_4).bind fun t246 => (if t246 = true then ((impl_within.f a0_5 0 a0_4).bind fun t247 => (if t247 = true then ((impl_within.f a0_6 0 a0_5).bind fun t248 => (if t248 = true then ((impl_within.f a0_7 0 (wrap64 (a0_4 - a0_5))).bind fun t249 => (some t249)) else (some false))) else (some false))) else (some false))) else (some false))) else (some false))) else (some false))) else (some false))
def cmp_isNaN_string.f (a0 : ByteArray) : Option (Bool) := some (a0.toList != a0.toList)
def cmp_Compare_string.f (a0 : ByteArray) (a1 : ByteArray) : Option (Int) := (cmp_isNaN_string.f a0).bind fun t250 => ((cmp_isNaN_string.f a1).bind fun t251 => (if t250 = true then (if t251 = true then (some 0) else (some (-1))) else (if t251 = true then (some 1) else (if (Op.bytesLess a0.toList a1.toList) = true then (some (-1)) else (if (Op.bytesLess a1.toList a0.toList) = true then (some 1) else (some 0))))))
def cmp_isNaN_int64.f (a0 : Int) : Option (Bool) := some (a0 != a0)
def cmp_Compare_int64.f (a0 : Int) (a1 : Int) : Option (Int) := (cmp_isNaN_int64.f a0).bind fun t252 => ((cmp_isNaN_int64.f a1).bind fun t253 => (if t252 = true then (if t253 = true then (some 0) else (some (-1))) else (if t253 = true then (some 1) else (if a0 < a1 then (some (-1)) else (if a0 > a1 then (some 1) else (some 0))))))
def cmp_Or_int.l0 : Nat → Int → List Int → Int → Int → Option (Int)
  | 0, _, _, _, _ => none
  | k + 1, x3, x6, x7, x8 => if x8 < x7 then (if 0 ≤ x8 then (if x8 < (x6.length : Int) then (if (rd x6 x8) = x3 then (cmp_Or_int.l0 k x3 x6 x7 (wrap64 (x8 + 1))) else (some (rd x6 x8))) else (none)) else (none)) else (some x3)
def cmp_Or_int.f (k : Nat) (l0 : List Int) : Option (Int) := cmp_Or_int.l0 k 0 l0 (l0.length : Int) 0
def impl_lineOrder.f (k : Nat) (a0_0 : ByteArray) (a0_1 : ByteArray) (a0_2 : Int) (a0_3 : ByteArray) (a0_4 : Int) (a0_5 : Int) (a0_6 : Int) (a0_7 : Int) (a1_0 : ByteArray) (a1_1 : ByteArray) (a1_2 : Int) (a1_3 : ByteArray) (a1_4 : Int) (a1_5 : Int) (a1_6 : Int) (a1_7 : Int) : Option (Int) := (cmp_Compare_string.f a0_0 a1_0).bind fun t257 => ((cmp_Compare_string.f a0_1 a1_1).bind fun t258 => ((cmp_Compare_int64.f a0_2 a1_2).bind fun t259 => ((cmp_Or_int.f k (([t257, t258, t259] : List Int))).bind fun t263 => (some t263))))
def impl_LinesRight.l0 : Nat → List (S54) → List (S54) → Int → Int → Option (Bool)
  | 0, _, _, _, _ => none
  | k + 1, x0, x8, x9, x10 => if x10 < x9 then (if 0 ≤ x10 then (if x10 < (x8.length : Int) then ((impl_LineRight.f k ((rd_T54 x8 x10).f0) ((rd_T54 x8 x10).f1) ((rd_T54 x8 x10).f2) ((rd_T54 x8 x10).f3) ((rd_T54 x8 x10).f4) ((rd_T54 x8 x10).f5) ((rd_T54 x8 x10).f6) ((rd_T54 x8 x10).f7)).bind fun t266 => (if t266 = true then (if x10 > 0 then (if 0 ≤ (wrap64 (x10 - 1)) then (if (wrap64 (x10 - 1)) < (x0.length : Int) then ((impl_lineOrder.f k ((rd_T54 x0 (wrap64 (x10 - 1))).f0) ((rd_T54 x0 (wrap64 (x10 - 1))).f1) ((rd_T54 x0 (wrap64 (x10 - 1))).f2) ((rd_T54 x0 (wrap64 (x10 - 1))).f3) ((rd_T54 x0 (wrap64 (x10 - 1))).f4) ((rd_T54 x0 (wrap64 (x10 - 1))).f5) ((rd_T54 x0 (wrap64 (x10 - 1))).f6) ((rd_T54 x0 (wrap64 (x10 - 1))).f7) ((rd_T54 x8 x10).f0) ((rd_T54 x8 x10).f1) ((rd_T54 x8 x10).f2) ((rd_T54 x8 x10).f3) ((rd_T54 x8 x10).f4) ((rd_T54 x8 x10).f5) ((rd_T54 x8 x10).f6) ((rd_T54 x8 x10).f7)).bind fun t268 => (if t268 ≥ 0 then (some false) else (impl_LinesRight.l0 k x0 x8 x9 (wrap64 (x10 + 1))))) else (none)) else (none)) else (impl_LinesRight.l0 k x0 x8 x9 (wrap64 (x10 + 1)))) else (some false))) else (none)) else (none)) else (some true)
def impl_LinesRight.f (k : Nat) (l0 : List (S54)) : Option (Bool) := if (l0.length : Int) > 200 then (some false) else (impl_LinesRight.l0 k l0 l0 (l0.length : Int) 0)
def impl_BookRight.l0 : Nat → List (S117) → Int → Int → List (S117) → List (S54) → Option (Bool)
  | 0, _, _, _, _, _ => none
  | k + 1, x10, x11, x12, x270000, x270001 => if x12 < x11 then (if 0 ≤ x12 then (if x12 < (x10.length : Int) then ((impl_isName.f k ((rd_T117 x10 x12).f0)).bind fun t273 => (if t273 = true then ((impl_within.f ((rd_T117 x10 x12).f1) 0 1000000000).bind fun t274 => (if t274 = true then (if x12 > 0 then (if 0 ≤ (wrap64 (x12 - 1)) then (if (wrap64 (x12 - 1)) < (x270000.length : Int) then (if ((Op.bytesLess (((rd_T117 x270000 (wrap64 (x12 - 1))).f0).toList) (((rd_T117 x10 x12).f0).toList)) = true) then (impl_BookRight.l0 k x10 x11 (wrap64 (x12 + 1)) x270000 x270001) else (some false)) else (none)) else (none)) else (impl_BookRight.l0 k x10 x11 (wrap64 (x12 + 1)) x270000 x270001)) else (some false))) else (some false))) else (none)) else (none)) else ((impl_LinesRight.f k x270001).bind fun t270 => (some t270))
def impl_BookRight.f (k : Nat) (l0_0 : List (S117)) (l0_1 : List (S54)) : Option (Bool) := if (l0_0.length : Int) > 100 then (some false) else (impl_BookRight.l0 k l0_0 (l0_0.length : Int) 0 l0_0 l0_1)
def bytealg_CompareString.f (a0 a1 : ByteArray) : Option Int := some (Lib.compareBytes a0.data.toList a1.data.toList)
def strings_Compare.f (a0 : ByteArray) (a1 : ByteArray) : Option (Int) := (bytealg_CompareString.f a0 a1).bind fun t276 => (some t276)
def impl_stockOrder.f (a0_0 : ByteArray) (a0_1 : Int) (a1 : ByteArray) : Option (Int) := (strings_Compare.f a0_0 a1).bind fun t278 => (some t278)
def impl_Stock_string_impl_stockOrder.l0 : Nat → List (S117) → ByteArray → Int → Int → Int → Option (Int × Bool)
  | 0, _, _, _, _, _ => none
  | k + 1, x0, x1, x8, x9, x10 => if x9 < x10 then (if 0 ≤ (wrap64 ((IntKind.u64.wrap (wrap64 (x9 + x10))) / 2)) then (if (wrap64 ((IntKind.u64.wrap (wrap64 (x9 + x10))) / 2)) < (x0.length : Int) then ((impl_stockOrder.f ((rd_T117 x0 (wrap64 ((IntKind.u64.wrap (wrap64 (x9 + x10))) / 2))).f0) ((rd_T117 x0 (wrap64 ((IntKind.u64.wrap (wrap64 (x9 + x10))) / 2))).f1) x1).bind fun t280 => (if t280 < 0 then (impl_Stock_string_impl_stockOrder.l0 k x0 x1 x8 (wrap64 ((wrap64 ((IntKind.u64.wrap (wrap64 (x9 + x10))) / 2)) + 1)) x10) else (impl_Stock_string_impl_stockOrder.l0 k x0 x1 x8 x9 (wrap64 ((IntKind.u64.wrap (wrap64 (x9 + x10))) / 2))))) else (none)) else (none)) else (if x9 < x8 then (if 0 ≤ x9 then (if x9 < (x0.length : Int) then ((impl_stockOrder.f ((rd_T117 x0 x9).f0) ((rd_T117 x0 x9).f1) x1).bind fun t282 => (some (x9, (t282 == 0)))) else (none)) else (none)) else (some (x9, false)))
def impl_Stock_string_impl_stockOrder.f (k : Nat) (l0 : List (S117)) (a1 : ByteArray)  : Option (Int × Bool) := impl_Stock_string_impl_stockOrder.l0 k l0 a1 (l0.length : Int) 0 (l0.length : Int)
def impl_Book_hand.f (k : Nat) (s0_0 : List (S117)) (s0_1 : List (S54)) (a1 : ByteArray) : Option (Int) := (impl_Stock_string_impl_stockOrder.f k s0_0 a1).bind fun bt283 => (if bt283.2 = true then (if 0 ≤ bt283.1 then (if bt283.1 < (s0_0.length : Int) then (some ((rd_T117 s0_0 bt283.1).f1)) else (none)) else (none)) else (some 0))
def slices_Insert_implStock.f (l0 : List S117) (a1 : Int) (l2 : List S117) : Option (List S117) := if 0 ≤ a1 then (if a1 ≤ (l0.length : Int) then (if l2.length = 1 then (if l0.length + 1 < 5864062014805 then some (l0.take a1.toNat ++ l2 ++ l0.drop a1.toNat) else none) else none) else none) else none
def impl_Book_move_put.f (l : List S117) (i by_ : Int) : List S117 := l.set i.toNat ⟨(rd_T117 l i).f0, wrap64 ((rd_T117 l i).f1 + by_)⟩
def impl_Book_move.f (k : Nat) (l0 : List S117) (l1 : List S54) (a1 : ByteArray) (a2 : Int) : Option (Bool × List S117) := (impl_Stock_string_impl_stockOrder.f k l0 a1).bind fun bt => (impl_Book_hand.f k l0 l1 a1).bind fun old => (if a2 < wrap64 (-old) then some (false, l0) else (if a2 > wrap64 (1000000000 - old) then some (false, l0) else (if bt.2 = true then (if 0 ≤ bt.1 then (if bt.1 < (l0.length : Int) then some (true, impl_Book_move_put.f l0 bt.1 a2) else none) else none) else (if (l0.length : Int) = 100 then some (false, l0) else ((slices_Insert_implStock.f l0 bt.1 [⟨a1, 0⟩]).bind fun l2 => (if 0 ≤ bt.1 then (if bt.1 < (l2.length : Int) then some (true, impl_Book_move_put.f l2 bt.1 a2) else none) else none))))))
def impl_BookMove.f (k : Nat) (l0 : List S117) (l1 : List S54) (a1 : ByteArray) (a2 : Int) : Option (List S117 × List S54) := (impl_longText.f k ([a1] : List ByteArray)).bind fun t => (if t = true then some (([] : List S117), ([] : List S54)) else (impl_ownBook.f l0 l1).bind fun o => (impl_BookRight.f k l0 l1).bind fun b => (if b = true then (impl_isName.f k a1).bind fun n => (if n = true then (impl_Book_move.f k o.1 o.2 a1 a2).bind fun m => some (m.2, o.2) else some (o.1, o.2)) else some (o.1, o.2)))
def spec_l01Source.l0 : Nat → List Int → Int → List Int → Int → Int → Int → Option (List Int × Int × Int × Int)
  | 0, _, _, _, _, _, _ => none
  | k + 1, x0, x4, x400000, x400001, x400002, x400003 => if x4 < (x0.length : Int) then (if x4 < 64 then (if 0 ≤ x4 then (spec_l01Source.l0 k x0 (wrap64 (x4 + 1)) x400000 x400001 (IntKind.u64.wrap ((Go.bits .xor .u64 x400002 (IntKind.u64.wrap (rd x0 x4))) * 1099511628211)) x400003) else (none)) else (if (wrap64 ((x0.length : Int) / 20)) > 12 then (some (x400000, x400001, x400002, 12)) else (some (x400000, x400001, x400002, wrap64 ((x0.length : Int) / 20))))) else (if (wrap64 ((x0.length : Int) / 20)) > 12 then (some (x400000, x400001, x400002, 12)) else (some (x400000, x400001, x400002, wrap64 ((x0.length : Int) / 20))))
def spec_l01Source.f (k : Nat) (l0 : List Int) : Option (List Int × Int × Int × Int) := spec_l01Source.l0 k l0 0 l0 0 88172645463325252 0
def spec_l01Src_n_mA.f (x : Int) : Int := Go.bits BinOp.xor IntKind.u64 x (IntKind.u64.wrap (x * 8192))
def spec_l01Src_n_mB.f (x : Int) : Int := Go.bits BinOp.xor IntKind.u64 x (x / 128)
def spec_l01Src_n_mC.f (x : Int) : Int := Go.bits BinOp.xor IntKind.u64 x (IntKind.u64.wrap (x * 131072))
def spec_l01Src_n_mix.f (x : Int) : Int := spec_l01Src_n_mC.f (spec_l01Src_n_mB.f (spec_l01Src_n_mA.f x))
def spec_l01Src_n_res.f (v m a : Int) : Int := wrap64 (Int.tmod (IntKind.u64.wrap (v + m / 1048576)) (IntKind.u64.wrap a))
def spec_l01Src_n_resZ.f (m a : Int) : Int := wrap64 (Int.tmod (IntKind.u64.wrap (m / 1048576)) (IntKind.u64.wrap a))
def spec_l01Src_n.f (s0_0 : List Int) (s0_1 s0_2 s0_3 a1 : Int) : Option (Int × Int × Int × Int) :=
  if a1 ≤ 1 then some (0, s0_1, s0_2, s0_3) else if IntKind.u64.wrap a1 = 0 then none else if s0_1 < (s0_0.length : Int) then (if 0 ≤ s0_1 then some (spec_l01Src_n_res.f (IntKind.u64.wrap (rd s0_0 s0_1)) (spec_l01Src_n_mix.f s0_2) a1, wrap64 (s0_1 + 1), spec_l01Src_n_mix.f s0_2, s0_3) else none)
  else some (spec_l01Src_n_resZ.f (spec_l01Src_n_mix.f s0_2) a1, s0_1, spec_l01Src_n_mix.f s0_2, s0_3)
def spec_l01Src_pick.f (s0_0 : List Int) (s0_1 : Int) (s0_2 : Int) (s0_3 : Int) (l1 : List ByteArray) : Option (ByteArray × Int × Int × Int) := (spec_l01Src_n.f s0_0 s0_1 s0_2 s0_3 (l1.length : Int)).bind fun bt401 => (if 0 ≤ bt401.1 then (if bt401.1 < (l1.length : Int) then (some (rdOf ByteArray.empty l1 bt401.1, bt401.2.1, bt401.2.2.1, bt401.2.2.2)) else (none)) else (none))
def spec_l01Src_one.f (s0_0 : List Int) (s0_1 : Int) (s0_2 : Int) (s0_3 : Int) (a1 : Int) : Option (Bool × Int × Int × Int) := (spec_l01Src_n.f s0_0 s0_1 s0_2 s0_3 a1).bind fun bt406 => (some ((bt406.1 == 0), bt406.2.1, bt406.2.2.1, bt406.2.2.2))
def spec_l01Src_l09Line.j0 : Nat → List Int → Int → Int → Int → ByteArray → ByteArray → Int → ByteArray → Int → Int → Int → Int → Option (ByteArray × ByteArray × Int × ByteArray × Int × Int × Int × Int × Int × Int × Int)
  | 0, _, _, _, _, _, _, _, _, _, _, _, _ => none
  | k + 1, x1000, x1001, x1002, x1003, x441000, x441001, x441002, x441003, x441004, x441005, x441006, x441007 => (spec_l01Src_one.f x1000 x1001 x1002 x1003 25).bind fun bt457 => (if bt457.1 = true then ((spec_l01Src_n.f x1000 bt457.2.1 bt457.2.2.1 bt457.2.2.2 5).bind fun bt461 => (if bt461.1 = 0 then (some (x441000, x441001, x441002, x441003, x441004, x441005, x441006, wrap64 (x441007 + x441004), bt461.2.1, bt461.2.2.1, bt461.2.2.2)) else (if bt461.1 = 1 then (some (x441000, x441001, x441002, x441003, x441004, x441005, wrap64 (x441005 + 1), x441007, bt461.2.1, bt461.2.2.1, bt461.2.2.2)) else (if bt461.1 = 2 then ((spec_l01Src_n.f x1000 bt461.2.1 bt461.2.2.1 bt461.2.2.2 2).bind fun bt465 => (some (x441000, x441001, wrap64 (1000 * bt465.1), x441003, x441004, x441005, x441006, x441007, bt465.2.1, bt465.2.2.1, bt465.2.2.2))) else (if bt461.1 = 3 then ((some (([0, 1000000, 1000001] : List Int) : List Int)).bind fun y469 => ((spec_l01Src_n.f x1000 bt461.2.1 bt461.2.2.1 bt461.2.2.2 3).bind fun bt472 => (if 0 ≤ bt472.1 then (if bt472.1 < (y469.length : Int) then (some (x441000, x441001, x441002, x441003, rd y469 bt472.1, x441005, x441006, x441007, bt472.2.1, bt472.2.2.1, bt472.2.2.2)) else (none)) else (none)))) else ((spec_l01Src_pick.f x1000 bt461.2.1 bt461.2.2.1 bt461.2.2.2 (([(⟨#[]⟩ : ByteArray), (⟨#[97]⟩ : ByteArray)] : List ByteArray))).bind fun bt480 => (some (x441000, x441001, x441002, bt480.1, x441004, x441005, x441006, x441007, bt480.2.1, bt480.2.2.1, bt480.2.2.2)))))))) else (some (x441000, x441001, x441002, x441003, x441004, x441005, x441006, x441007, bt457.2.1, bt457.2.2.1, bt457.2.2.2)))
def spec_l01Src_l09Line.f (k : Nat) (s0_0 : List Int) (s0_1 : Int) (s0_2 : Int) (s0_3 : Int) : Option (ByteArray × ByteArray × Int × ByteArray × Int × Int × Int × Int × Int × Int × Int) := (spec_l01Src_pick.f s0_0 s0_1 s0_2 s0_3 (([(⟨#[65, 67, 77, 69]⟩ : ByteArray), (⟨#[66, 79, 76, 84]⟩ : ByteArray), (⟨#[67, 45, 49]⟩ : ByteArray)] : List ByteArray))).bind fun bt414 => ((spec_l01Src_pick.f s0_0 bt414.2.1 bt414.2.2.1 bt414.2.2.2 (([(⟨#[80, 79, 45, 49]⟩ : ByteArray), (⟨#[80, 79, 45, 50]⟩ : ByteArray), (⟨#[80, 79, 45, 51]⟩ : ByteArray)] : List ByteArray))).bind fun bt421 => ((spec_l01Src_n.f s0_0 bt421.2.1 bt421.2.2.1 bt421.2.2.2 4).bind fun bt425 => ((spec_l01Src_pick.f s0_0 bt425.2.1 bt425.2.2.1 bt425.2.2.2 (([(⟨#[66, 79, 76, 84]⟩ : ByteArray), (⟨#[78, 85, 84]⟩ : ByteArray), (⟨#[71, 69, 65, 82]⟩ : ByteArray), (⟨#[67, 65, 77]⟩ : ByteArray)] : List ByteArray))).bind fun bt432 => ((spec_l01Src_n.f s0_0 bt432.2.1 bt432.2.2.1 bt432.2.2.2 40).bind fun bt436 => ((spec_l01Src_n.f s0_0 bt436.2.1 bt436.2.2.1 bt436.2.2.2 (wrap64 ((wrap64 (1 + bt436.1)) + 1))).bind fun bt441 => ((spec_l01Src_n.f s0_0 bt441.2.1 bt441.2.2.1 bt441.2.2.2 (wrap64 (bt441.1 + 1))).bind fun bt445 => ((spec_l01Src_n.f s0_0 bt445.2.1 bt445.2.2.1 bt445.2.2.2 (wrap64 ((wrap64 ((wrap64 (1 + bt436.1)) - bt441.1)) + 1))).bind fun bt449 => ((spec_l01Src_one.f s0_0 bt449.2.1 bt449.2.2.1 bt449.2.2.2 3).bind fun bt453 => (if bt453.1 = true then (spec_l01Src_l09Line.j0 k s0_0 bt453.2.1 bt453.2.2.1 bt453.2.2.2 bt414.1 bt421.1 (wrap64 (1 + bt425.1)) bt432.1 (wrap64 (1 + bt436.1)) 0 0 bt449.1) else (spec_l01Src_l09Line.j0 k s0_0 bt453.2.1 bt453.2.2.1 bt453.2.2.2 bt414.1 bt421.1 (wrap64 (1 + bt425.1)) bt432.1 (wrap64 (1 + bt436.1)) bt441.1 bt445.1 bt449.1))))))))))
def spec_LinesAdd.l0 : Nat → List (S54) → List (S54) → List (S54) → Bool → Int → ByteArray → ByteArray → Int → ByteArray → Int → Int → Int → Int → Option ((List (S54)))
  | 0, _, _, _, _, _, _, _, _, _, _, _, _, _ => none
  | k + 1, x0, x5, x6, x7, x8, x485000, x485001, x485002, x485003, x485004, x485005, x485006, x485007 => if x8 < (x0.length : Int) then (if x7 = true then (if 0 ≤ x8 then (if x6.length < 1599289640401 then (spec_LinesAdd.l0 k x0 x5 (x6 ++ [(⟨(rd_T54 x0 x8).f0, (rd_T54 x0 x8).f1, (rd_T54 x0 x8).f2, (rd_T54 x0 x8).f3, (rd_T54 x0 x8).f4, (rd_T54 x0 x8).f5, (rd_T54 x0 x8).f6, (rd_T54 x0 x8).f7⟩ : S54)]) x7 (wrap64 (x8 + 1)) x485000 x485001 x485002 x485003 x485004 x485005 x485006 x485007) else (none)) else (none)) else (if 0 ≤ x8 then ((spec_l09Before.f x485000 x485001 x485002 x485003 x485004 x485005 x485006 x485007 ((rd_T54 x0 x8).f0) ((rd_T54 x0 x8).f1) ((rd_T54 x0 x8).f2) ((rd_T54 x0 x8).f3) ((rd_T54 x0 x8).f4) ((rd_T54 x0 x8).f5) ((rd_T54 x0 x8).f6) ((rd_T54 x0 x8).f7)).bind fun t503 => (if t503 = true then (if x6.length < 1599289640401 then ((some (x6 ++ [(⟨x485000, x485001, x485002, x485003, x485004, x485005, x485006, x485007⟩ : S54)] : List (S54))).bind fun y504 => (if y504.length < 1599289640401 then (spec_LinesAdd.l0 k x0 x5 (y504 ++ [(⟨(rd_T54 x0 x8).f0, (rd_T54 x0 x8).f1, (rd_T54 x0 x8).f2, (rd_T54 x0 x8).f3, (rd_T54 x0 x8).f4, (rd_T54 x0 x8).f5, (rd_T54 x0 x8).f6, (rd_T54 x0 x8).f7⟩ : S54)]) true (wrap64 (x8 + 1)) x485000 x485001 x485002 x485003 x485004 x485005 x485006 x485007) else (none))) else (none)) else (if x6.length < 1599289640401 then (spec_LinesAdd.l0 k x0 x5 (x6 ++ [(⟨(rd_T54 x0 x8).f0, (rd_T54 x0 x8).f1, (rd_T54 x0 x8).f2, (rd_T54 x0 x8).f3, (rd_T54 x0 x8).f4, (rd_T54 x0 x8).f5, (rd_T54 x0 x8).f6, (rd_T54 x0 x8).f7⟩ : S54)]) x7 (wrap64 (x8 + 1)) x485000 x485001 x485002 x485003 x485004 x485005 x485006 x485007) else (none)))) else (none))) else (if x7 = true then ((spec_LinesRight.f k x6).bind fun t515 => (if t515 = true then (some x6) else (some x5))) else (if x6.length < 1599289640401 then ((some (x6 ++ [(⟨x485000, x485001, x485002, x485003, x485004, x485005, x485006, x485007⟩ : S54)] : List (S54))).bind fun y516 => ((spec_LinesRight.f k y516).bind fun t519 => (if t519 = true then (some y516) else (some x5)))) else (none)))
def spec_LinesAdd.f (k : Nat) (l0 : List (S54)) (a1_0 : ByteArray) (a1_1 : ByteArray) (a1_2 : Int) (a1_3 : ByteArray) (a1_4 : Int) (a1_5 : Int) (a1_6 : Int) (a1_7 : Int) : Option ((List (S54))) := if (l0.length : Int) > 400 then (some (([] : List (S54)))) else ((some (([] : List (S54)) : List (S54))).bind fun y488 => (if y488.length + l0.length < 1599289640401 then ((some (y488 ++ l0 : List (S54))).bind fun y491 => ((spec_LinesRight.f k l0).bind fun t494 => (if t494 = true then (spec_LinesAdd.l0 k l0 y491 (([] : List (S54))) false 0 a1_0 a1_1 a1_2 a1_3 a1_4 a1_5 a1_6 a1_7) else (some y491)))) else (none)))
mutual
def spec_l01Src_l09Lines.l0 : Nat → List (S54) → Int → List Int → Int → Int → Int → Option ((List (S54)) × Int × Int × Int)
  | 0, _, _, _, _, _, _ => none
  | k + 1, x3, x4, x1000, x1001, x1002, x1003 => if x4 > 0 then ((spec_l01Src_l09Line.f k x1000 x1001 x1002 x1003).bind fun bt527 => ((spec_LinesAdd.f k x3 bt527.1 bt527.2.1 bt527.2.2.1 bt527.2.2.2.1 bt527.2.2.2.2.1 bt527.2.2.2.2.2.1 bt527.2.2.2.2.2.2.1 bt527.2.2.2.2.2.2.2.1).bind fun t538 => (spec_l01Src_l09Lines.l0 k t538 (wrap64 (x4 - 1)) x1000 bt527.2.2.2.2.2.2.2.2.1 bt527.2.2.2.2.2.2.2.2.2.1 bt527.2.2.2.2.2.2.2.2.2.2))) else ((spec_l01Src_one.f x1000 x1001 x1002 x1003 50).bind fun bt541 => (if bt541.1 = true then (spec_l01Src_l09Lines.l1 k (([] : List (S54))) 0 x1000 bt541.2.1 bt541.2.2.1 bt541.2.2.2) else (spec_l01Src_l09Lines.j2 k x3 x1000 bt541.2.1 bt541.2.2.1 bt541.2.2.2)))
def spec_l01Src_l09Lines.j2 : Nat → List (S54) → List Int → Int → Int → Int → Option ((List (S54)) × Int × Int × Int)
  | 0, _, _, _, _, _ => none
  | k + 1, x3, x1000, x1001, x1002, x1003 => (spec_l01Src_one.f x1000 x1001 x1002 x1003 15).bind fun bt555 => (if bt555.1 = true then ((some (([] : List (S54)) : List (S54))).bind fun y559 => (if y559.length + x3.length < 1599289640401 then ((some (y559 ++ x3 : List (S54))).bind fun y562 => ((spec_l01Src_l09Line.f k x1000 bt555.2.1 bt555.2.2.1 bt555.2.2.2).bind fun bt565 => (if y562.length < 1599289640401 then (some ((y562 ++ [(⟨bt565.1, bt565.2.1, bt565.2.2.1, bt565.2.2.2.1, bt565.2.2.2.2.1, bt565.2.2.2.2.2.1, bt565.2.2.2.2.2.2.1, bt565.2.2.2.2.2.2.2.1⟩ : S54)]), bt565.2.2.2.2.2.2.2.2.1, bt565.2.2.2.2.2.2.2.2.2.1, bt565.2.2.2.2.2.2.2.2.2.2)) else (none)))) else (none))) else (some (x3, bt555.2.1, bt555.2.2.1, bt555.2.2.2)))
def spec_l01Src_l09Lines.l1 : Nat → List (S54) → Int → List Int → Int → Int → Int → Option ((List (S54)) × Int × Int × Int)
  | 0, _, _, _, _, _, _ => none
  | k + 1, x3, x5, x1000, x1001, x1002, x1003 => (spec_l01Src_n.f x1000 x1001 x1002 x1003 3).bind fun bt548 => (if (x3.length : Int) < (wrap64 (199 + bt548.1)) then (if x3.length < 1599289640401 then (spec_l01Src_l09Lines.l1 k (x3 ++ [(⟨(⟨#[65, 67, 77, 69]⟩ : ByteArray), (⟨#[80, 79, 45, 49]⟩ : ByteArray), wrap64 (x5 + 1), (⟨#[78, 85, 84]⟩ : ByteArray), 5, 0, 0, 0⟩ : S54)]) (wrap64 (x5 + 1)) x1000 bt548.2.1 bt548.2.2.1 bt548.2.2.2) else (none)) else (spec_l01Src_l09Lines.j2 k x3 x1000 bt548.2.1 bt548.2.2.1 bt548.2.2.2))
end
def spec_l01Src_l09Lines.f (k : Nat) (s0_0 : List Int) (s0_1 : Int) (s0_2 : Int) (s0_3 : Int) : Option ((List (S54)) × Int × Int × Int) := (spec_l01Src_n.f s0_0 s0_1 s0_2 s0_3 (wrap64 (4 + s0_3))).bind fun bt523 => (spec_l01Src_l09Lines.l0 k (([] : List (S54))) bt523.1 s0_0 bt523.2.1 bt523.2.2.1 bt523.2.2.2)
def spec_l01Src_l10Item.f (s0_0 : List Int) (s0_1 : Int) (s0_2 : Int) (s0_3 : Int) : Option (ByteArray × Int × Int × Int) := (spec_l01Src_pick.f s0_0 s0_1 s0_2 s0_3 (([(⟨#[66, 79, 76, 84]⟩ : ByteArray), (⟨#[78, 85, 84]⟩ : ByteArray), (⟨#[71, 69, 65, 82]⟩ : ByteArray), (⟨#[67, 65, 77]⟩ : ByteArray), (⟨#[66, 45, 49, 48]⟩ : ByteArray), (⟨#[90, 57]⟩ : ByteArray)] : List ByteArray))).bind fun bt582 => (some (bt582.1, bt582.2.1, bt582.2.2.1, bt582.2.2.2))
def spec_l01Dec.l0 : Nat → Int → Bool → ByteArray → Option (ByteArray)
  | 0, _, _, _ => none
  | k + 1, x0, x3, x4 => if x0 = 0 then (if x3 = true then (if 1 + x4.size ≤ 9223372036854775807 then (some ((⟨#[45]⟩ : ByteArray) ++ x4)) else (none)) else (some x4)) else (if (Int.tmod x0 10) < 0 then ((some (([(wrap64 (48 + (wrap64 (-(Int.tmod x0 10))))) % 256] : List Int) : List Int)).bind fun y586 => (if (strOfNums y586).size + x4.size ≤ 9223372036854775807 then (spec_l01Dec.l0 k (wrap64 (Int.tdiv x0 10)) x3 ((strOfNums y586) ++ x4)) else (none))) else ((some (([(wrap64 (48 + (Int.tmod x0 10))) % 256] : List Int) : List Int)).bind fun y589 => (if (strOfNums y589).size + x4.size ≤ 9223372036854775807 then (spec_l01Dec.l0 k (wrap64 (Int.tdiv x0 10)) x3 ((strOfNums y589) ++ x4)) else (none))))
def spec_l01Dec.f (k : Nat) (a0 : Int) : Option (ByteArray) := if a0 = 0 then (some (⟨#[48]⟩ : ByteArray)) else (spec_l01Dec.l0 k a0 (decide (a0 < 0)) (⟨#[]⟩ : ByteArray))
mutual
def spec_l01Src_l10Book.l0 : Nat → Int → List Int → Int → Int → Int → List (S117) → List (S54) → Option ((List (S117)) × (List (S54)) × Int × Int × Int)
  | 0, _, _, _, _, _, _, _ => none
  | k + 1, x4, x1000, x1001, x1002, x1003, x600000, x600001 => if x4 > 0 then ((spec_l01Src_l10Item.f x1000 x1001 x1002 x1003).bind fun bt604 => ((spec_l01Src_n.f x1000 bt604.2.1 bt604.2.2.1 bt604.2.2.2 60).bind fun bt608 => ((spec_l10Move.f k x600000 x600001 bt604.1 bt608.1).bind fun bt612 => (spec_l01Src_l10Book.l0 k (wrap64 (x4 - 1)) x1000 bt608.2.1 bt608.2.2.1 bt608.2.2.2 bt612.1 bt612.2.1)))) else ((spec_l01Src_one.f x1000 x1001 x1002 x1003 15).bind fun bt619 => (if bt619.1 = true then ((spec_l01Src_n.f x1000 bt619.2.1 bt619.2.2.1 bt619.2.2.2 4).bind fun bt623 => (if bt623.1 = 0 then ((spec_l01Src_l10Item.f x1000 bt623.2.1 bt623.2.2.1 bt623.2.2.2).bind fun bt627 => (if x600000.length < 5864062014805 then (some ((x600000 ++ [(⟨bt627.1, 0⟩ : S117)]), x600001, bt627.2.1, bt627.2.2.1, bt627.2.2.2)) else (none))) else (if bt623.1 = 1 then ((spec_l01Src_n.f x1000 bt623.2.1 bt623.2.2.1 bt623.2.2.2 2).bind fun bt634 => (if x600000.length < 5864062014805 then (some ((x600000 ++ [(⟨(⟨#[90, 90, 90]⟩ : ByteArray), wrap64 (1000000000 + bt634.1)⟩ : S117)]), x600001, bt634.2.1, bt634.2.2.1, bt634.2.2.2)) else (none))) else (if bt623.1 = 2 then (if x600000.length < 5864062014805 then (some ((x600000 ++ [(⟨(⟨#[122, 122]⟩ : ByteArray), 0⟩ : S117)]), x600001, bt623.2.1, bt623.2.2.1, bt623.2.2.2)) else (none)) else (spec_l01Src_l10Book.l1 k 0 x1000 bt623.2.1 bt623.2.2.1 bt623.2.2.2 (([] : List (S117))) x600001))))) else (some (x600000, x600001, bt619.2.1, bt619.2.2.1, bt619.2.2.2))))
def spec_l01Src_l10Book.l1 : Nat → Int → List Int → Int → Int → Int → List (S117) → List (S54) → Option ((List (S117)) × (List (S54)) × Int × Int × Int)
  | 0, _, _, _, _, _, _, _ => none
  | k + 1, x5, x1000, x1001, x1002, x1003, x600000, x600001 => (spec_l01Src_n.f x1000 x1001 x1002 x1003 3).bind fun bt647 => (if (x600000.length : Int) < (wrap64 (99 + bt647.1)) then ((spec_l01Dec.f k (wrap64 (1000 + x5))).bind fun t651 => (if 1 + t651.size ≤ 9223372036854775807 then (if x600000.length < 5864062014805 then (spec_l01Src_l10Book.l1 k (wrap64 (x5 + 1)) x1000 bt647.2.1 bt647.2.2.1 bt647.2.2.2 (x600000 ++ [(⟨(⟨#[73]⟩ : ByteArray) ++ t651, x5⟩ : S117)]) x600001) else (none)) else (none))) else (some (x600000, x600001, bt647.2.1, bt647.2.2.1, bt647.2.2.2)))
end
def spec_l01Src_l10Book.f (k : Nat) (s0_0 : List Int) (s0_1 : Int) (s0_2 : Int) (s0_3 : Int) : Option ((List (S117)) × (List (S54)) × Int × Int × Int) := (spec_l01Src_l09Lines.f k s0_0 s0_1 s0_2 s0_3).bind fun bt593 => ((spec_l01Src_n.f s0_0 bt593.2.1 bt593.2.2.1 bt593.2.2.2 5).bind fun bt600 => (spec_l01Src_l10Book.l0 k bt600.1 s0_0 bt600.2.1 bt600.2.2.1 bt600.2.2.2 ([] : List (S117)) bt593.1))
def spec_l01Src_edge.f (s0_0 : List Int) (s0_1 : Int) (s0_2 : Int) (s0_3 : Int) : Option (Int × Int × Int × Int) := (some (([0, 1, (-1), 2, 1000, 1001, 2147483648, 2147483647, (-2147483648), 4611686018427387904, 9223372036854775807, (-9223372036854775808), 1000000, 1000001] : List Int) : List Int)).bind fun y655 => ((spec_l01Src_n.f s0_0 s0_1 s0_2 s0_3 14).bind fun bt658 => (if 0 ≤ bt658.1 then (if bt658.1 < (y655.length : Int) then (some (rd y655 bt658.1, bt658.2.1, bt658.2.2.1, bt658.2.2.2)) else (none)) else (none)))
def spec_DrawBookMove.f (k : Nat) (l0 : List Int) : Option ((List (S117)) × (List (S54)) × ByteArray × Int) := (spec_l01Source.f k l0).bind fun bt664 => ((spec_l01Src_l10Book.f k bt664.1 bt664.2.1 bt664.2.2.1 bt664.2.2.2).bind fun bt669 => ((spec_l01Src_n.f bt664.1 bt669.2.2.1 bt669.2.2.2.1 bt669.2.2.2.2 80).bind fun bt679 => ((spec_l01Src_one.f bt664.1 bt679.2.1 bt679.2.2.1 bt679.2.2.2 10).bind fun bt683 => (if bt683.1 = true then ((spec_l01Src_edge.f bt664.1 bt683.2.1 bt683.2.2.1 bt683.2.2.2).bind fun bt687 => ((some (([1000000000, (-1000000000), 1000000001, 0, bt687.1] : List Int) : List Int)).bind fun y691 => ((spec_l01Src_n.f bt664.1 bt687.2.1 bt687.2.2.1 bt687.2.2.2 5).bind fun bt694 => (if 0 ≤ bt694.1 then (if bt694.1 < (y691.length : Int) then ((spec_l01Src_l10Item.f bt664.1 bt694.2.1 bt694.2.2.1 bt694.2.2.2).bind fun bt699 => (some (bt669.1, bt669.2.1, bt699.1, rd y691 bt694.1))) else (none)) else (none))))) else ((spec_l01Src_l10Item.f bt664.1 bt683.2.1 bt683.2.2.1 bt683.2.2.2).bind fun bt703 => (some (bt669.1, bt669.2.1, bt703.1, wrap64 (bt679.1 - 40))))))))
mutual
def laws_lwBook.j0 : Nat → Bool → List (S117) → List (S54) → List (S117) → List (S54) → Option (Bool)
  | 0, _, _, _, _, _ => none
  | k + 1, x22, x708000, x708001, x709000, x709001 => if x22 = true then (some false) else (laws_lwBook.l0 k 0 x708000 x708001 x709000 x709001)
def laws_lwBook.l0 : Nat → Int → List (S117) → List (S54) → List (S117) → List (S54) → Option (Bool)
  | 0, _, _, _, _, _ => none
  | k + 1, x5, x708000, x708001, x709000, x709001 => if x5 < (x708000.length : Int) then (if 0 ≤ x5 then (if x5 < (x709000.length : Int) then (if (!((((rd_T117 x708000 x5).f0).toList) == (((rd_T117 x709000 x5).f0).toList)) || (!(((rd_T117 x708000 x5).f1) == ((rd_T117 x709000 x5).f1)))) = true then (some false) else (laws_lwBook.l0 k (wrap64 (x5 + 1)) x708000 x708001 x709000 x709001)) else (none)) else (none)) else (laws_lwBook.l1 k 0 x708000 x708001 x709000 x709001)
def laws_lwBook.l1 : Nat → Int → List (S117) → List (S54) → List (S117) → List (S54) → Option (Bool)
  | 0, _, _, _, _, _ => none
  | k + 1, x6, x708000, x708001, x709000, x709001 => if x6 < (x708001.length : Int) then (if 0 ≤ x6 then (if x6 < (x709001.length : Int) then (if (!((((rd_T54 x708001 x6).f0).toList) == (((rd_T54 x709001 x6).f0).toList)) || (!((((rd_T54 x708001 x6).f1).toList) == (((rd_T54 x709001 x6).f1).toList)) || (!(((rd_T54 x708001 x6).f2) == ((rd_T54 x709001 x6).f2)) || (!((((rd_T54 x708001 x6).f3).toList) == (((rd_T54 x709001 x6).f3).toList)) || (!(((rd_T54 x708001 x6).f4) == ((rd_T54 x709001 x6).f4)) || (!(((rd_T54 x708001 x6).f5) == ((rd_T54 x709001 x6).f5)) || (!(((rd_T54 x708001 x6).f6) == ((rd_T54 x709001 x6).f6)) || (!(((rd_T54 x708001 x6).f7) == ((rd_T54 x709001 x6).f7)))))))))) = true then (some false) else (laws_lwBook.l1 k (wrap64 (x6 + 1)) x708000 x708001 x709000 x709001)) else (none)) else (none)) else (some true)
end
def laws_lwBook.f (k : Nat) (l0_0 : List (S117)) (l0_1 : List (S54)) (l1_0 : List (S117)) (l1_1 : List (S54)) : Option (Bool) := if (l0_0.length : Int) = (l1_0.length : Int) then (laws_lwBook.j0 k ((l0_1.length : Int) != (l1_1.length : Int)) l0_0 l0_1 l1_0 l1_1) else (laws_lwBook.j0 k true l0_0 l0_1 l1_0 l1_1)
def impl_BookHand.f (k : Nat) (l0_0 : List (S117)) (l0_1 : List (S54)) (a1 : ByteArray) : Option (Int) := (impl_longText.f k (([a1] : List ByteArray))).bind fun t717 => (if t717 = true then (some 0) else ((impl_BookRight.f k l0_0 l0_1).bind fun t718 => (if t718 = true then ((impl_Book_hand.f k l0_0 l0_1 a1).bind fun t719 => (some t719)) else (some 0))))
mutual
def laws_FnMoves.j0 : Nat → ByteArray → Int → Bool → List (S117) → List (S54) → Option (Bool)
  | 0, _, _, _, _, _ => none
  | k + 1, x4, x5, x29, x729000, x729001 => if x29 = true then (some true) else ((impl_BookMove.f k x729000 x729001 x4 x5).bind fun bt730 => ((spec_BookMove.f k x729000 x729001 x4 x5).bind fun bt737 => ((laws_lwBook.f k bt730.1 bt730.2 bt737.1 bt737.2).bind fun t744 => (if t744 = true then ((impl_BookRight.f k bt730.1 bt730.2).bind fun t745 => (laws_FnMoves.j1 k x4 x5 (!t745) x729000 x729001 bt730.1 bt730.2 bt737.1 bt737.2)) else (laws_FnMoves.j1 k x4 x5 true x729000 x729001 bt730.1 bt730.2 bt737.1 bt737.2)))))
def laws_FnMoves.j1 : Nat → ByteArray → Int → Bool → List (S117) → List (S54) → List (S117) → List (S54) → List (S117) → List (S54) → Option (Bool)
  | 0, _, _, _, _, _, _, _, _, _ => none
  | k + 1, x4, x5, x46, x729000, x729001, x737000, x737001, x744000, x744001 => if x46 = true then (some false) else ((impl_BookHand.f k x729000 x729001 x4).bind fun t746 => ((laws_lwBook.f k x744000 x744001 x729000 x729001).bind fun t747 => (if t747 = true then ((impl_BookHand.f k x737000 x737001 x4).bind fun t748 => (some (t748 == t746))) else ((impl_BookMove.f k x737000 x737001 x4 (wrap64 (-x5))).bind fun bt749 => ((impl_BookHand.f k x737000 x737001 x4).bind fun t756 => (if t756 = (wrap64 (t746 + x5)) then ((impl_BookHand.f k bt749.1 bt749.2 x4).bind fun t757 => (some (t757 == t746))) else (some false)))))))
end
def laws_FnMoves.f (k : Nat) (l0 : List Int) : Option (Bool) := if (l0.length : Int) > 1048576 then (some true) else ((spec_DrawBookMove.f k l0).bind fun bt720 => ((spec_BookRight.f k bt720.1 bt720.2.1).bind fun t729 => (if t729 = true then (if bt720.2.2.2 < 1 then (laws_FnMoves.j0 k bt720.2.2.1 bt720.2.2.2 true bt720.1 bt720.2.1) else (laws_FnMoves.j0 k bt720.2.2.1 bt720.2.2.2 (decide (bt720.2.2.2 > 1000000000)) bt720.1 bt720.2.1)) else (laws_FnMoves.j0 k bt720.2.2.1 bt720.2.2.2 true bt720.1 bt720.2.1))))
end Go.Proofs.Ytefmkmhjbfpelaa.QM
namespace Go.Proofs.Ytefmkmhjbfpelaa.QM
open Go.RowKit Go.Proofs.YtefmkmhjbfpelaaW.PrintWords Go.Proofs.YtefmkmhjbfpelaaW.PrintLast Go.Proofs.YtefmkmhjbfpelaaW.PrintMore
attribute [local go_sem] max2_int min2_int max_two min_two max_three min_three max_four min_four   -- for this text's walks alone
set_option linter.unusedVariables false
set_option linter.unusedSimpArgs false
set_option maxHeartbeats 8000000 in
set_option maxRecDepth 100000 in
theorem spec_l01Name.calls (k : Nat) (a0 : ByteArray) (r : Bool) (w : World) (h : spec_l01Name.f k a0 = some r) :
    Calls Try.prog 118 #[.string a0] w fun e w' => e = .returned (.bool r) ∧ Drawn0 w w' := by
  have H : (if (a0.size : Int) < 1 then (spec_l01Name.j0 k a0 true) else (if (a0.size : Int) > 12 then (spec_l01Name.j0 k a0 true) else (if 0 < (a0.size : Int) then (if (bt a0 0) < 65 then (spec_l01Name.j0 k a0 true) else (spec_l01Name.j0 k a0 (decide ((bt a0 0) > 90)))) else (none)))) = some r := h; clear h; have HC2 := Aside0.mk H; clear H
  go_enter Try.func118, Try.ntmps118
  go_upto_region 1 with (fail)
  go_cut [22] (fun v22 wc => ∃ (kq : Nat) (x22_1 : Bool), v22 = .bool x22_1 ∧ Aside0 (spec_l01Name.j0 kq a0 x22_1 = some r) ∧ Aside0 (kq ≤ k) ∧ Drawn0 w wc)
  case first =>
    have H := HC2.out; clear HC2
    by_cases c3 : (a0.size : Int) < 1
    · rw [if_pos c3] at H; have c3b0 : decide ((a0.size : Int) < 1) = true := decide_eq_true c3; have c3b1 : decide (a0.size < 1) = true := decide_eq_true (by omega); clear c3
      (first | rw [c3b0] | (simp only [i64_w, i32_w]; rw [c3b0]) | skip)
      have H' := Aside0.mk H; clear H
      go_wp2
      go_meet
      case rel => exact ⟨_, (true), fg, H', ⟨fl⟩, by repeat (first | exact Drawn0.refl _ | apply Drawn0.step)⟩
    · rw [if_neg c3] at H; have c3b0 : decide ((a0.size : Int) < 1) = false := decide_eq_false c3; have c3b1 : decide (a0.size < 1) = false := decide_eq_false (by omega); clear c3
      (first | rw [c3b0] | (simp only [i64_w, i32_w]; rw [c3b0]) | skip)
      by_cases c4 : (a0.size : Int) > 12
      · rw [if_pos c4] at H; have c4b0 : decide (12 < (a0.size : Int)) = true := decide_eq_true c4; have c4b1 : decide (12 < a0.size) = true := decide_eq_true (by omega); clear c4; have H' := Aside0.mk H; clear H
        go_wp2
        go_meet
        case rel => exact ⟨_, (true), fg, H', ⟨fl⟩, by repeat (first | exact Drawn0.refl _ | apply Drawn0.step)⟩
      · rw [if_neg c4] at H; have c4b0 : decide (12 < (a0.size : Int)) = false := decide_eq_false c4; have c4b1 : decide (12 < a0.size) = false := decide_eq_false (by omega); clear c4
        by_cases c5 : 0 < (a0.size : Int)
        · rw [if_pos c5] at H; have c5b0 : decide (0 < (a0.size : Int)) = true := decide_eq_true c5; have c5b1 : decide (0 < a0.size) = true := decide_eq_true (by omega); clear c5
          by_cases c7 : (bt a0 0) < 65
          · rw [if_pos c7] at H; have c7b0 : decide ((bt a0 0) < 65) = true := decide_eq_true c7; clear c7; have H' := Aside0.mk H; clear H; have p6 : 0 ≤ (0 : Int) := (by omega); have q6 : 0 < a0.size := (by have : (0 : Int) < (a0.size : Int) := oa; omega); have hx6 : ∀ h : 0 < a0.size, ((a0[0]'h).toNat : Int) = bt a0 0 := bt_at a0 0; clear p6; have qi6 : (0 < (a0.size : Int)) = True := eq_true (oa); replace q6 := eq_true q6
            go_wp2
            go_meet
            case rel => exact ⟨_, (true), fg, H', ⟨fl⟩, by repeat (first | exact Drawn0.refl _ | apply Drawn0.step)⟩
          · rw [if_neg c7] at H; have c7b0 : decide ((bt a0 0) < 65) = false := decide_eq_false c7; clear c7; have H' := Aside0.mk H; clear H; have p6 : 0 ≤ (0 : Int) := (by omega); have q6 : 0 < a0.size := (by have : (0 : Int) < (a0.size : Int) := oa; omega); have hx6 : ∀ h : 0 < a0.size, ((a0[0]'h).toNat : Int) = bt a0 0 := bt_at a0 0; clear p6; have qi6 : (0 < (a0.size : Int)) = True := eq_true (oa); replace q6 := eq_true q6; have p8 : 0 ≤ (0 : Int) := (by omega); have q8 : 0 < a0.size := (by have : (0 : Int) < (a0.size : Int) := oa; omega); have hx8 : ∀ h : 0 < a0.size, ((a0[0]'h).toNat : Int) = bt a0 0 := bt_at a0 0; clear p8; have qi8 : (0 < (a0.size : Int)) = True := eq_true (oa); replace q8 := eq_true q8
            go_wp2
            go_meet
            case rel => exact ⟨_, (decide ((bt a0 0) > 90)), fg, H', ⟨fl⟩, by repeat (first | exact Drawn0.refl _ | apply Drawn0.step)⟩
        · rw [if_neg c5] at H
          exact absurd H (by simp)
  case rest =>
    clear HC2
    try clear c1
    try clear p2
    try clear c3
    try clear c3b0
    try clear c3b1
    try clear c4
    try clear c4b0
    try clear c4b1
    try clear c5
    try clear c5b0
    try clear c5b1
    try clear p6
    try clear q6
    try clear hx6
    try clear qi6
    try clear c7
    try clear c7b0
    try clear p8
    try clear q8
    try clear hx8
    try clear qi8
    try clear p6
    try clear p8
    try clear q6
    try clear q8
    obtain ⟨kq, x22_1, rfl, HA, HJ1, ⟨mc1, rfl⟩⟩ := hcut
    cases kq with
    | zero => exact absurd HA.out (by simp [spec_l01Name.j0])
    | succ kj1 =>
      have H := HA.out; clear HA; simp only [spec_l01Name.j0] at H
      by_cases c9 : x22_1 = true
      · subst c9
        have H1 : (some false) = some r := by rw [if_pos rfl] at H; exact H
        clear H; have H := H1; clear H1; obtain rfl := Option.some.inj H
        go_wp2
        go_ret
        exact ⟨fg, by repeat (first | exact Drawn0.refl _ | apply Drawn0.step)⟩
      · replace c9 := Bool.eq_false_iff.mpr c9; subst c9
        have H1 : (spec_l01Name.l0 kj1 a0 0) = some r := by rw [if_neg (show ¬ (false = true) by decide)] at H; exact H
        clear H; have H := H1; clear H1; have H' := Aside0.mk H; clear H
        go_wp2
        go_loopg [3] kj1 (fun kq v3 w' => ∃ (x3_2 : Int), v3 = .int .i64 x3_2 ∧ Aside0 (spec_l01Name.l0 kq a0 x3_2 = some r) ∧ Aside0 (kq ≤ kj1) ∧ Drawn0 w w')
        case atStart => exact ⟨(0), fg, H', ⟨Nat.le_refl _⟩, by repeat (first | exact Drawn0.refl _ | apply Drawn0.step)⟩
        case round =>
          clear H'
          try clear c1
          try clear p2
          try clear c3
          try clear c3b0
          try clear c3b1
          try clear c4
          try clear c4b0
          try clear c4b1
          try clear c5
          try clear c5b0
          try clear c5b1
          try clear p6
          try clear q6
          try clear hx6
          try clear qi6
          try clear c7
          try clear c7b0
          try clear p8
          try clear q8
          try clear hx8
          try clear qi8
          try clear c9
          try clear p2
          try clear p6
          try clear p8
          try clear q6
          try clear q8
          obtain ⟨x3_2, rfl, HA, HK2, ⟨m2, rfl⟩⟩ := hrel
          cases gk with
          | zero => exact absurd HA.out (by simp [spec_l01Name.l0])
          | succ k2 =>
            have H := HA.out; clear HA; simp only [spec_l01Name.l0] at H
            by_cases c10 : x3_2 < (a0.size : Int)
            · rw [if_pos c10] at H; have c10b0 : decide (x3_2 < (a0.size : Int)) = true := decide_eq_true c10; clear c10
              by_cases c11 : 0 ≤ x3_2
              · rw [if_pos c11] at H; have c11b0 : decide (0 ≤ x3_2) = true := decide_eq_true c11; clear c11
                by_cases c13 : (bt a0 x3_2) ≥ 65
                · rw [if_pos c13] at H; have c13b0 : decide (65 ≤ (bt a0 x3_2)) = true := decide_eq_true c13; clear c13
                  by_cases c14 : (bt a0 x3_2) ≤ 90
                  · rw [if_pos c14] at H; have c14b0 : decide ((bt a0 x3_2) ≤ 90) = true := decide_eq_true c14; clear c14; have H' := Aside0.mk H; clear H; have p12 : 0 ≤ (x3_2 : Int) := oa; have q12 : x3_2 < (a0.size : Int) := oa; have hx12 := bt_at a0 x3_2; replace p12 := eq_true p12; replace q12 := eq_true q12
                    go_wp2
                    go_roundg k2
                    case measure => have := HJ1.out; have := HK2.out; omega
                    case rel => exact ⟨(wrap64 (x3_2 + 1)), fg, H', ⟨by have := HJ1.out; have := HK2.out; omega⟩, by repeat (first | exact Drawn0.refl _ | apply Drawn0.step)⟩
                  · rw [if_neg c14] at H; have c14b0 : decide ((bt a0 x3_2) ≤ 90) = false := decide_eq_false c14; clear c14
                    by_cases c15 : (bt a0 x3_2) ≥ 48
                    · rw [if_pos c15] at H; have c15b0 : decide (48 ≤ (bt a0 x3_2)) = true := decide_eq_true c15; clear c15
                      by_cases c16 : (bt a0 x3_2) ≤ 57
                      · rw [if_pos c16] at H; have c16b0 : decide ((bt a0 x3_2) ≤ 57) = true := decide_eq_true c16; clear c16; have H' := Aside0.mk H; clear H; have p12 : 0 ≤ (x3_2 : Int) := oa; have q12 : x3_2 < (a0.size : Int) := oa; have hx12 := bt_at a0 x3_2; replace p12 := eq_true p12; replace q12 := eq_true q12
                        go_wp2
                        go_roundg k2
                        case measure => have := HJ1.out; have := HK2.out; omega
                        case rel => exact ⟨(wrap64 (x3_2 + 1)), fg, H', ⟨by have := HJ1.out; have := HK2.out; omega⟩, by repeat (first | exact Drawn0.refl _ | apply Drawn0.step)⟩
                      · rw [if_neg c16] at H; have c16b0 : decide ((bt a0 x3_2) ≤ 57) = false := decide_eq_false c16; clear c16
                        by_cases c17 : ((bt a0 x3_2) = 45)
                        · rw [if_pos c17] at H; have c17b0 : ((bt a0 x3_2) == 45) = true := beq_iff_eq.mpr c17; have c17b1 : ((bt a0 x3_2) != 45) = false := bne_eq_false_iff_eq.mpr c17; clear c17; have H' := Aside0.mk H; clear H; have p12 : 0 ≤ (x3_2 : Int) := oa; have q12 : x3_2 < (a0.size : Int) := oa; have hx12 := bt_at a0 x3_2; replace p12 := eq_true p12; replace q12 := eq_true q12
                          go_wp2
                          go_roundg k2
                          case measure => have := HJ1.out; have := HK2.out; omega
                          case rel => exact ⟨(wrap64 (x3_2 + 1)), fg, H', ⟨by have := HJ1.out; have := HK2.out; omega⟩, by repeat (first | exact Drawn0.refl _ | apply Drawn0.step)⟩
                        · rw [if_neg c17] at H; have c17b0 : ((bt a0 x3_2) == 45) = false := beq_eq_false_iff_ne.mpr c17; have c17b1 : ((bt a0 x3_2) != 45) = true := bne_iff_ne.mpr c17; obtain rfl := Option.some.inj H; have p12 : 0 ≤ (x3_2 : Int) := oa; have q12 : x3_2 < (a0.size : Int) := oa; have hx12 := bt_at a0 x3_2; replace p12 := eq_true p12; replace q12 := eq_true q12
                          go_wp2
                          go_ret
                          exact ⟨fg, by repeat (first | exact Drawn0.refl _ | apply Drawn0.step)⟩
                    · rw [if_neg c15] at H; have c15b0 : decide (48 ≤ (bt a0 x3_2)) = false := decide_eq_false c15; clear c15
                      by_cases c18 : ((bt a0 x3_2) = 45)
                      · rw [if_pos c18] at H; have c18b0 : ((bt a0 x3_2) == 45) = true := beq_iff_eq.mpr c18; have c18b1 : ((bt a0 x3_2) != 45) = false := bne_eq_false_iff_eq.mpr c18; clear c18; have H' := Aside0.mk H; clear H; have p12 : 0 ≤ (x3_2 : Int) := oa; have q12 : x3_2 < (a0.size : Int) := oa; have hx12 := bt_at a0 x3_2; replace p12 := eq_true p12; replace q12 := eq_true q12
                        go_wp2
                        go_roundg k2
                        case measure => have := HJ1.out; have := HK2.out; omega
                        case rel => exact ⟨(wrap64 (x3_2 + 1)), fg, H', ⟨by have := HJ1.out; have := HK2.out; omega⟩, by repeat (first | exact Drawn0.refl _ | apply Drawn0.step)⟩
                      · rw [if_neg c18] at H; have c18b0 : ((bt a0 x3_2) == 45) = false := beq_eq_false_iff_ne.mpr c18; have c18b1 : ((bt a0 x3_2) != 45) = true := bne_iff_ne.mpr c18; obtain rfl := Option.some.inj H; have p12 : 0 ≤ (x3_2 : Int) := oa; have q12 : x3_2 < (a0.size : Int) := oa; have hx12 := bt_at a0 x3_2; replace p12 := eq_true p12; replace q12 := eq_true q12
                        go_wp2
                        go_ret
                        exact ⟨fg, by repeat (first | exact Drawn0.refl _ | apply Drawn0.step)⟩
                · rw [if_neg c13] at H; have c13b0 : decide (65 ≤ (bt a0 x3_2)) = false := decide_eq_false c13; clear c13
                  by_cases c19 : (bt a0 x3_2) ≥ 48
                  · rw [if_pos c19] at H; have c19b0 : decide (48 ≤ (bt a0 x3_2)) = true := decide_eq_true c19; clear c19
                    by_cases c20 : (bt a0 x3_2) ≤ 57
                    · rw [if_pos c20] at H; have c20b0 : decide ((bt a0 x3_2) ≤ 57) = true := decide_eq_true c20; clear c20; have H' := Aside0.mk H; clear H; have p12 : 0 ≤ (x3_2 : Int) := oa; have q12 : x3_2 < (a0.size : Int) := oa; have hx12 := bt_at a0 x3_2; replace p12 := eq_true p12; replace q12 := eq_true q12
                      go_wp2
                      go_roundg k2
                      case measure => have := HJ1.out; have := HK2.out; omega
                      case rel => exact ⟨(wrap64 (x3_2 + 1)), fg, H', ⟨by have := HJ1.out; have := HK2.out; omega⟩, by repeat (first | exact Drawn0.refl _ | apply Drawn0.step)⟩
                    · rw [if_neg c20] at H; have c20b0 : decide ((bt a0 x3_2) ≤ 57) = false := decide_eq_false c20; clear c20
                      by_cases c21 : ((bt a0 x3_2) = 45)
                      · rw [if_pos c21] at H; have c21b0 : ((bt a0 x3_2) == 45) = true := beq_iff_eq.mpr c21; have c21b1 : ((bt a0 x3_2) != 45) = false := bne_eq_false_iff_eq.mpr c21; clear c21; have H' := Aside0.mk H; clear H; have p12 : 0 ≤ (x3_2 : Int) := oa; have q12 : x3_2 < (a0.size : Int) := oa; have hx12 := bt_at a0 x3_2; replace p12 := eq_true p12; replace q12 := eq_true q12
                        go_wp2
                        go_roundg k2
                        case measure => have := HJ1.out; have := HK2.out; omega
                        case rel => exact ⟨(wrap64 (x3_2 + 1)), fg, H', ⟨by have := HJ1.out; have := HK2.out; omega⟩, by repeat (first | exact Drawn0.refl _ | apply Drawn0.step)⟩
                      · rw [if_neg c21] at H; have c21b0 : ((bt a0 x3_2) == 45) = false := beq_eq_false_iff_ne.mpr c21; have c21b1 : ((bt a0 x3_2) != 45) = true := bne_iff_ne.mpr c21; obtain rfl := Option.some.inj H; have p12 : 0 ≤ (x3_2 : Int) := oa; have q12 : x3_2 < (a0.size : Int) := oa; have hx12 := bt_at a0 x3_2; replace p12 := eq_true p12; replace q12 := eq_true q12
                        go_wp2
                        go_ret
                        exact ⟨fg, by repeat (first | exact Drawn0.refl _ | apply Drawn0.step)⟩
                  · rw [if_neg c19] at H; have c19b0 : decide (48 ≤ (bt a0 x3_2)) = false := decide_eq_false c19; clear c19
                    by_cases c22 : ((bt a0 x3_2) = 45)
                    · rw [if_pos c22] at H; have c22b0 : ((bt a0 x3_2) == 45) = true := beq_iff_eq.mpr c22; have c22b1 : ((bt a0 x3_2) != 45) = false := bne_eq_false_iff_eq.mpr c22; clear c22; have H' := Aside0.mk H; clear H; have p12 : 0 ≤ (x3_2 : Int) := oa; have q12 : x3_2 < (a0.size : Int) := oa; have hx12 := bt_at a0 x3_2; replace p12 := eq_true p12; replace q12 := eq_true q12
                      go_wp2
                      go_roundg k2
                      case measure => have := HJ1.out; have := HK2.out; omega
                      case rel => exact ⟨(wrap64 (x3_2 + 1)), fg, H', ⟨by have := HJ1.out; have := HK2.out; omega⟩, by repeat (first | exact Drawn0.refl _ | apply Drawn0.step)⟩
                    · rw [if_neg c22] at H; have c22b0 : ((bt a0 x3_2) == 45) = false := beq_eq_false_iff_ne.mpr c22; have c22b1 : ((bt a0 x3_2) != 45) = true := bne_iff_ne.mpr c22; obtain rfl := Option.some.inj H; have p12 : 0 ≤ (x3_2 : Int) := oa; have q12 : x3_2 < (a0.size : Int) := oa; have hx12 := bt_at a0 x3_2; replace p12 := eq_true p12; replace q12 := eq_true q12
                      go_wp2
                      go_ret
                      exact ⟨fg, by repeat (first | exact Drawn0.refl _ | apply Drawn0.step)⟩
              · rw [if_neg c11] at H
                exact absurd H (by simp)
            · rw [if_neg c10] at H; have c10b0 : decide (x3_2 < (a0.size : Int)) = false := decide_eq_false c10; clear c10; obtain rfl := Option.some.inj H
              go_wp2
              go_ret
              exact ⟨fg, by repeat (first | exact Drawn0.refl _ | apply Drawn0.step)⟩
end Go.Proofs.Ytefmkmhjbfpelaa.QM
namespace Go.Proofs.Ytefmkmhjbfpelaa.QM
open Go.RowKit Go.Proofs.YtefmkmhjbfpelaaW.PrintWords Go.Proofs.YtefmkmhjbfpelaaW.PrintLast Go.Proofs.YtefmkmhjbfpelaaW.PrintMore
attribute [local go_sem] max2_int min2_int max_two min_two max_three min_three max_four min_four   -- for this text's walks alone
set_option linter.unusedVariables false
set_option linter.unusedSimpArgs false
set_option maxHeartbeats 8000000 in
set_option maxRecDepth 100000 in
theorem spec_l01Qty.calls (a0 : Int) (r : Bool) (w : World) (h : spec_l01Qty.f a0 = some r) :
    Calls Try.prog 146 #[.int .i64 a0] w fun e w' => e = .returned (.bool r) ∧ Drawn0 w w' := by
  have H : (if a0 ≥ 1 then (some (decide (a0 ≤ 1000000))) else (some false)) = some r := h; clear h
  by_cases c2 : a0 ≥ 1
  · rw [if_pos c2] at H; have c2b0 : decide (1 ≤ a0) = true := decide_eq_true c2; clear c2; obtain rfl := Option.some.inj H
    go_enter Try.func146, Try.ntmps146
    go_wp2
    go_ret
    exact ⟨fg, by repeat (first | exact Drawn0.refl _ | apply Drawn0.step)⟩
  · rw [if_neg c2] at H; have c2b0 : decide (1 ≤ a0) = false := decide_eq_false c2; clear c2; obtain rfl := Option.some.inj H
    go_enter Try.func146, Try.ntmps146
    go_wp2
    go_ret
    exact ⟨fg, by repeat (first | exact Drawn0.refl _ | apply Drawn0.step)⟩
end Go.Proofs.Ytefmkmhjbfpelaa.QM
