-- Merged by a program of this session (wip/tool/pack.py) out of its own texts for this claim.
import Derived.Test.YtefmkmhjbfpelaaKFnExactBookMove0
import Derived.Test.YtefmkmhjbfpelaaKFnExactBookMove1
import Derived.Test.YtefmkmhjbfpelaaKFnExactBookMove2
namespace Go.Proofs.Ytefmkmhjbfpelaa.QM
open Go.RowKit Go.Proofs.YtefmkmhjbfpelaaW.PrintWords Go.Proofs.YtefmkmhjbfpelaaW.PrintLast Go.Proofs.YtefmkmhjbfpelaaW.PrintMore
attribute [local go_sem] max2_int min2_int max_two min_two max_three min_three max_four min_four   -- for this text's walks alone
set_option linter.unusedVariables false
set_option linter.unusedSimpArgs false
def laws_szStock.f (a0_0 : ByteArray) (a0_1 : Int) (a1 : Int) : Option (Int) := if (wrap64 (a1 - (a0_0.size : Int))) < 0 then (some (-1)) else (some (wrap64 (a1 - (a0_0.size : Int))))
def laws_szStockS.l0 : Nat → List (S154) → Int → Int → Option (Int)
  | 0, _, _, _ => none
  | k + 1, x0, x1, x5 => if x5 < (x0.length : Int) then (if 0 ≤ x5 then ((laws_szStock.f ((rd_T154 x0 x5).f0) ((rd_T154 x0 x5).f1) x1).bind fun t103 => (if t103 < 0 then (some (-1)) else (laws_szStockS.l0 k x0 t103 (wrap64 (x5 + 1))))) else (none)) else (some x1)
def laws_szStockS.f (k : Nat) (l0 : List (S154)) (a1 : Int) : Option (Int) := if (wrap64 (a1 - (l0.length : Int))) < 0 then (some (-1)) else (laws_szStockS.l0 k l0 (wrap64 (a1 - (l0.length : Int))) 0)
def laws_szOrderLine.f (a0_0 : ByteArray) (a0_1 : ByteArray) (a0_2 : Int) (a0_3 : ByteArray) (a0_4 : Int) (a0_5 : Int) (a0_6 : Int) (a0_7 : Int) (a1 : Int) : Option (Int) := if (wrap64 (a1 - (a0_0.size : Int))) < 0 then (some (-1)) else (if (wrap64 ((wrap64 (a1 - (a0_0.size : Int))) - (a0_1.size : Int))) < 0 then (some (-1)) else (if (wrap64 ((wrap64 ((wrap64 (a1 - (a0_0.size : Int))) - (a0_1.size : Int))) - (a0_3.size : Int))) < 0 then (some (-1)) else (some (wrap64 ((wrap64 ((wrap64 (a1 - (a0_0.size : Int))) - (a0_1.size : Int))) - (a0_3.size : Int))))))
def laws_szOrderLineS.l0 : Nat → List (S74) → Int → Int → Option (Int)
  | 0, _, _, _ => none
  | k + 1, x0, x1, x5 => if x5 < (x0.length : Int) then (if 0 ≤ x5 then ((laws_szOrderLine.f ((rd_T74 x0 x5).f0) ((rd_T74 x0 x5).f1) ((rd_T74 x0 x5).f2) ((rd_T74 x0 x5).f3) ((rd_T74 x0 x5).f4) ((rd_T74 x0 x5).f5) ((rd_T74 x0 x5).f6) ((rd_T74 x0 x5).f7) x1).bind fun t106 => (if t106 < 0 then (some (-1)) else (laws_szOrderLineS.l0 k x0 t106 (wrap64 (x5 + 1))))) else (none)) else (some x1)
def laws_szOrderLineS.f (k : Nat) (l0 : List (S74)) (a1 : Int) : Option (Int) := if (wrap64 (a1 - (l0.length : Int))) < 0 then (some (-1)) else (laws_szOrderLineS.l0 k l0 (wrap64 (a1 - (l0.length : Int))) 0)
def laws_szBook.f (k : Nat) (l0_0 : List (S154)) (l0_1 : List (S74)) (a1 : Int) : Option (Int) := (laws_szStockS.f k l0_0 a1).bind fun t108 => (if t108 < 0 then (some (-1)) else ((laws_szOrderLineS.f k l0_1 t108).bind fun t109 => (if t109 < 0 then (some (-1)) else (some t109))))
def laws_toStock.f (a0_0 : ByteArray) (a0_1 : Int) : Option (ByteArray × Int) := some (a0_0, a0_1)
def laws_toStockS.l0 : Nat → List (S154) → List (S117) → Int → Option ((List (S117)))
  | 0, _, _, _ => none
  | k + 1, x0, x3, x4 => if x4 < (x0.length : Int) then (if 0 ≤ x4 then ((laws_toStock.f ((rd_T154 x0 x4).f0) ((rd_T154 x0 x4).f1)).bind fun bt117 => (if x4 < (x3.length : Int) then (laws_toStockS.l0 k x0 (x3.set (x4 : Int).toNat (⟨bt117.1, bt117.2⟩ : S117)) (wrap64 (x4 + 1))) else (none))) else (none)) else (some x3)
def laws_toStockS.f (k : Nat) (l0 : List (S154)) : Option ((List (S117))) := if 0 ≤ (l0.length : Int) then (if ((l0.length : Int) : Int).toNat ≤ 11728124029610 then (laws_toStockS.l0 k l0 (List.replicate ((l0.length : Int) : Int).toNat z117) 0) else (none)) else (none)
def laws_toOrderLine.f (a0_0 : ByteArray) (a0_1 : ByteArray) (a0_2 : Int) (a0_3 : ByteArray) (a0_4 : Int) (a0_5 : Int) (a0_6 : Int) (a0_7 : Int) : Option (ByteArray × ByteArray × Int × ByteArray × Int × Int × Int × Int) := some (a0_0, a0_1, a0_2, a0_3, a0_4, a0_5, a0_6, a0_7)
def laws_toOrderLineS.l0 : Nat → List (S74) → List (S54) → Int → Option ((List (S54)))
  | 0, _, _, _ => none
  | k + 1, x0, x3, x4 => if x4 < (x0.length : Int) then (if 0 ≤ x4 then ((laws_toOrderLine.f ((rd_T74 x0 x4).f0) ((rd_T74 x0 x4).f1) ((rd_T74 x0 x4).f2) ((rd_T74 x0 x4).f3) ((rd_T74 x0 x4).f4) ((rd_T74 x0 x4).f5) ((rd_T74 x0 x4).f6) ((rd_T74 x0 x4).f7)).bind fun bt127 => (if x4 < (x3.length : Int) then (laws_toOrderLineS.l0 k x0 (x3.set (x4 : Int).toNat (⟨bt127.1, bt127.2.1, bt127.2.2.1, bt127.2.2.2.1, bt127.2.2.2.2.1, bt127.2.2.2.2.2.1, bt127.2.2.2.2.2.2.1, bt127.2.2.2.2.2.2.2⟩ : S54)) (wrap64 (x4 + 1))) else (none))) else (none)) else (some x3)
def laws_toOrderLineS.f (k : Nat) (l0 : List (S74)) : Option ((List (S54))) := if 0 ≤ (l0.length : Int) then (if ((l0.length : Int) : Int).toNat ≤ 3198579280802 then (laws_toOrderLineS.l0 k l0 (List.replicate ((l0.length : Int) : Int).toNat z54) 0) else (none)) else (none)
def laws_toBook.f (k : Nat) (l0_0 : List (S154)) (l0_1 : List (S74)) : Option ((List (S117)) × (List (S54))) := (laws_toStockS.f k l0_0).bind fun t139 => ((laws_toOrderLineS.f k l0_1).bind fun t142 => (some (t139, t142)))
def spec_l10Copy.f (l0_0 : List (S117)) (l0_1 : List (S54)) : Option ((List (S117)) × (List (S54))) := (some (([] : List (S117)) : List (S117))).bind fun y147 => (if y147.length + l0_0.length < 5864062014805 then ((some (([] : List (S54)) : List (S54))).bind fun y153 => (if y153.length + l0_1.length < 1599289640401 then (some ((y147 ++ l0_0), (y153 ++ l0_1))) else (none))) else (none))
mutual
def spec_l01Name.j0 : Nat → ByteArray → Bool → Option (Bool)
  | 0, _, _ => none
  | k + 1, x0, x22 => if x22 = true then (some false) else (spec_l01Name.l0 k x0 0)
def spec_l01Name.l0 : Nat → ByteArray → Int → Option (Bool)
  | 0, _, _ => none
  | k + 1, x0, x3 => if x3 < (x0.size : Int) then (if 0 ≤ x3 then (if (bt x0 x3) ≥ 65 then (if (bt x0 x3) ≤ 90 then (spec_l01Name.l0 k x0 (wrap64 (x3 + 1))) else (if (bt x0 x3) ≥ 48 then (if (bt x0 x3) ≤ 57 then (spec_l01Name.l0 k x0 (wrap64 (x3 + 1))) else (if ((bt x0 x3) = 45) then (spec_l01Name.l0 k x0 (wrap64 (x3 + 1))) else (some false))) else (if ((bt x0 x3) = 45) then (spec_l01Name.l0 k x0 (wrap64 (x3 + 1))) else (some false)))) else (if (bt x0 x3) ≥ 48 then (if (bt x0 x3) ≤ 57 then (spec_l01Name.l0 k x0 (wrap64 (x3 + 1))) else (if ((bt x0 x3) = 45) then (spec_l01Name.l0 k x0 (wrap64 (x3 + 1))) else (some false))) else (if ((bt x0 x3) = 45) then (spec_l01Name.l0 k x0 (wrap64 (x3 + 1))) else (some false)))) else (none)) else (some true)
end
def spec_l01Name.f (k : Nat) (a0 : ByteArray) : Option (Bool) := if (a0.size : Int) < 1 then (spec_l01Name.j0 k a0 true) else (if (a0.size : Int) > 12 then (spec_l01Name.j0 k a0 true) else (if 0 < (a0.size : Int) then (if (bt a0 0) < 65 then (spec_l01Name.j0 k a0 true) else (spec_l01Name.j0 k a0 (decide ((bt a0 0) > 90)))) else (none)))
def spec_l01Qty.f (a0 : Int) : Option (Bool) := if a0 ≥ 1 then (some (decide (a0 ≤ 1000000))) else (some false)
def spec_LineRight.f (k : Nat) (a0_0 : ByteArray) (a0_1 : ByteArray) (a0_2 : Int) (a0_3 : ByteArray) (a0_4 : Int) (a0_5 : Int) (a0_6 : Int) (a0_7 : Int) : Option (Bool) := (spec_l01Name.f k a0_0).bind fun t160 => (if t160 = true then ((spec_l01Name.f k a0_1).bind fun t161 => (if t161 = true then ((spec_l01Name.f k a0_3).bind fun t162 => (if t162 = true then (if a0_2 ≥ 1 then (if a0_2 ≤ 999 then ((spec_l01Qty.f a0_4).bind fun t163 => (if t163 = true then (if a0_5 ≥ 0 then (if a0_6 ≥ 0 then (if a0_7 ≥ 0 then (if a0_6 ≤ a0_5 then (if a0_5 ≤ a0_4 then (some (decide (a0_7 ≤ (wrap64 (a0_4 - a0_5))))) else (some false)) else (some false)) else (some false)) else (some false)) else (some false)) else (some false))) else (some false)) else (some false)) else (some false))) else (some false))) else (some false))
def spec_l09Before.f (a0_0 : ByteArray) (a0_1 : ByteArray) (a0_2 : Int) (a0_3 : ByteArray) (a0_4 : Int) (a0_5 : Int) (a0_6 : Int) (a0_7 : Int) (a1_0 : ByteArray) (a1_1 : ByteArray) (a1_2 : Int) (a1_3 : ByteArray) (a1_4 : Int) (a1_5 : Int) (a1_6 : Int) (a1_7 : Int) : Option (Bool) := if a0_0.toList = a1_0.toList then (if a0_1.toList = a1_1.toList then (some (decide (a0_2 < a1_2))) else (some (Op.bytesLess a0_1.toList a1_1.toList))) else (some (Op.bytesLess a0_0.toList a1_0.toList))
def spec_LinesRight.l0 : Nat → List (S54) → Int → Option (Bool)
  | 0, _, _ => none
  | k + 1, x0, x3 => if x3 < (x0.length : Int) then (if 0 ≤ x3 then ((spec_LineRight.f k ((rd_T54 x0 x3).f0) ((rd_T54 x0 x3).f1) ((rd_T54 x0 x3).f2) ((rd_T54 x0 x3).f3) ((rd_T54 x0 x3).f4) ((rd_T54 x0 x3).f5) ((rd_T54 x0 x3).f6) ((rd_T54 x0 x3).f7)).bind fun t167 => (if t167 = true then (if x3 > 0 then (if 0 ≤ (wrap64 (x3 - 1)) then (if (wrap64 (x3 - 1)) < (x0.length : Int) then ((spec_l09Before.f ((rd_T54 x0 (wrap64 (x3 - 1))).f0) ((rd_T54 x0 (wrap64 (x3 - 1))).f1) ((rd_T54 x0 (wrap64 (x3 - 1))).f2) ((rd_T54 x0 (wrap64 (x3 - 1))).f3) ((rd_T54 x0 (wrap64 (x3 - 1))).f4) ((rd_T54 x0 (wrap64 (x3 - 1))).f5) ((rd_T54 x0 (wrap64 (x3 - 1))).f6) ((rd_T54 x0 (wrap64 (x3 - 1))).f7) ((rd_T54 x0 x3).f0) ((rd_T54 x0 x3).f1) ((rd_T54 x0 x3).f2) ((rd_T54 x0 x3).f3) ((rd_T54 x0 x3).f4) ((rd_T54 x0 x3).f5) ((rd_T54 x0 x3).f6) ((rd_T54 x0 x3).f7)).bind fun t170 => (if t170 = true then (spec_LinesRight.l0 k x0 (wrap64 (x3 + 1))) else (some false))) else (none)) else (none)) else (spec_LinesRight.l0 k x0 (wrap64 (x3 + 1)))) else (some false))) else (none)) else (some true)
def spec_LinesRight.f (k : Nat) (l0 : List (S54)) : Option (Bool) := if (l0.length : Int) > 200 then (some false) else (spec_LinesRight.l0 k l0 0)
mutual
def spec_BookRight.j0 : Nat → Bool → List (S117) → List (S54) → Option (Bool)
  | 0, _, _, _ => none
  | k + 1, x14, x172000, x172001 => if x14 = true then (some false) else (spec_BookRight.l0 k 0 x172000 x172001)
def spec_BookRight.l0 : Nat → Int → List (S117) → List (S54) → Option (Bool)
  | 0, _, _, _ => none
  | k + 1, x3, x172000, x172001 => if x3 < (x172000.length : Int) then (if 0 ≤ x3 then ((spec_l01Name.f k ((rd_T117 x172000 x3).f0)).bind fun t175 => (if t175 = true then (if ((rd_T117 x172000 x3).f1) < 0 then (some false) else (if ((rd_T117 x172000 x3).f1) > 1000000000 then (some false) else (if x3 > 0 then (if 0 ≤ (wrap64 (x3 - 1)) then (if (wrap64 (x3 - 1)) < (x172000.length : Int) then (if ((Op.bytesLess (((rd_T117 x172000 (wrap64 (x3 - 1))).f0).toList) (((rd_T117 x172000 x3).f0).toList)) = true) then (spec_BookRight.l0 k (wrap64 (x3 + 1)) x172000 x172001) else (some false)) else (none)) else (none)) else (spec_BookRight.l0 k (wrap64 (x3 + 1)) x172000 x172001)))) else (some false))) else (none)) else (some true)
end
def spec_BookRight.f (k : Nat) (l0_0 : List (S117)) (l0_1 : List (S54)) : Option (Bool) := if (l0_0.length : Int) > 100 then (spec_BookRight.j0 k true l0_0 l0_1) else ((spec_LinesRight.f k l0_1).bind fun t172 => (spec_BookRight.j0 k (!t172) l0_0 l0_1))
def spec_l10Stock.l0 : Nat → ByteArray → Int → List (S117) → List (S54) → Option (Int)
  | 0, _, _, _, _ => none
  | k + 1, x1, x5, x178000, x178001 => if x5 < (x178000.length : Int) then (if 0 ≤ x5 then (if ((rd_T117 x178000 x5).f0).toList = x1.toList then (some x5) else (spec_l10Stock.l0 k x1 (wrap64 (x5 + 1)) x178000 x178001)) else (none)) else (some (-1))
def spec_l10Stock.f (k : Nat) (l0_0 : List (S117)) (l0_1 : List (S54)) (a1 : ByteArray) : Option (Int) := spec_l10Stock.l0 k a1 0 l0_0 l0_1
def spec_BookHand.f (k : Nat) (l0_0 : List (S117)) (l0_1 : List (S54)) (a1 : ByteArray) : Option (Int) := if (a1.size : Int) > 20000 then (some 0) else ((spec_BookRight.f k l0_0 l0_1).bind fun t180 => (if t180 = true then ((spec_l10Stock.f k l0_0 l0_1 a1).bind fun t181 => (if t181 < 0 then (some 0) else ((spec_l10Stock.f k l0_0 l0_1 a1).bind fun t182 => (if 0 ≤ t182 then (if t182 < (l0_0.length : Int) then (some ((rd_T117 l0_0 t182).f1)) else (none)) else (none))))) else (some 0)))
mutual
def spec_l10Move.j0 : Nat → ByteArray → Int → Bool → List (S117) → List (S54) → List (S117) → List (S54) → Option ((List (S117)) × (List (S54)) × Bool)
  | 0, _, _, _, _, _, _, _ => none
  | k + 1, x1, x2, x30, x185000, x185001, x193000, x193001 => if x30 = true then (some (x193000, x193001, false)) else ((spec_BookHand.f k x185000 x185001 x1).bind fun t196 => (if (wrap64 (t196 + x2)) < 0 then (spec_l10Move.j1 k x1 (wrap64 (t196 + x2)) true x185000 x185001 x193000 x193001 x193001) else (if (wrap64 (t196 + x2)) > 1000000000 then (spec_l10Move.j1 k x1 (wrap64 (t196 + x2)) true x185000 x185001 x193000 x193001 x193001) else ((spec_l10Stock.f k x185000 x185001 x1).bind fun t197 => (if t197 < 0 then (spec_l10Move.j1 k x1 (wrap64 (t196 + x2)) (decide ((x185000.length : Int) ≥ 100)) x185000 x185001 x193000 x193001 x193001) else (spec_l10Move.j1 k x1 (wrap64 (t196 + x2)) false x185000 x185001 x193000 x193001 x193001))))))
def spec_l10Move.j1 : Nat → ByteArray → Int → Bool → List (S117) → List (S54) → List (S117) → List (S54) → List (S54) → Option ((List (S117)) × (List (S54)) × Bool)
  | 0, _, _, _, _, _, _, _, _ => none
  | k + 1, x1, x10, x57, x185000, x185001, x193000, x193001, x196001 => if x57 = true then (some (x193000, x193001, false)) else (spec_l10Move.l0 k x1 x10 false 0 x185000 x185001 ([] : List (S117)) x196001)
def spec_l10Move.l0 : Nat → ByteArray → Int → Bool → Int → List (S117) → List (S54) → List (S117) → List (S54) → Option ((List (S117)) × (List (S54)) × Bool)
  | 0, _, _, _, _, _, _, _, _ => none
  | k + 1, x1, x10, x11, x12, x185000, x185001, x196000, x196001 => if x12 < (x185000.length : Int) then (if x11 = true then (spec_l10Move.j3 k x1 x10 x11 x12 false x185000 x185001 x196000 x196001) else (if 0 ≤ x12 then (spec_l10Move.j3 k x1 x10 x11 x12 (!(Op.bytesLess (((rd_T117 x185000 x12).f0).toList) x1.toList)) x185000 x185001 x196000 x196001) else (none))) else (if x11 = true then (some (x196000, x196001, true)) else (if x196000.length < 5864062014805 then (some ((x196000 ++ [(⟨x1, x10⟩ : S117)]), x196001, true)) else (none)))
def spec_l10Move.j3 : Nat → ByteArray → Int → Bool → Int → Bool → List (S117) → List (S54) → List (S117) → List (S54) → Option ((List (S117)) × (List (S54)) × Bool)
  | 0, _, _, _, _, _, _, _, _, _ => none
  | k + 1, x1, x10, x11, x12, x77, x185000, x185001, x196000, x196001 => if x77 = true then (if x196000.length < 5864062014805 then ((some (x196000 ++ [(⟨x1, x10⟩ : S117)] : List (S117))).bind fun y202 => (if 0 ≤ x12 then (if x12 < (x185000.length : Int) then (if ((rd_T117 x185000 x12).f0).toList = x1.toList then (spec_l10Move.l0 k x1 x10 true (wrap64 (x12 + 1)) x185000 x185001 y202 x196001) else (if y202.length < 5864062014805 then (spec_l10Move.l0 k x1 x10 true (wrap64 (x12 + 1)) x185000 x185001 (y202 ++ [(⟨(rd_T117 x185000 x12).f0, (rd_T117 x185000 x12).f1⟩ : S117)]) x196001) else (none))) else (none)) else (none))) else (none)) else (if 0 ≤ x12 then (if x12 < (x185000.length : Int) then (if ((rd_T117 x185000 x12).f0).toList = x1.toList then (spec_l10Move.l0 k x1 x10 x11 (wrap64 (x12 + 1)) x185000 x185001 x196000 x196001) else (if x196000.length < 5864062014805 then (spec_l10Move.l0 k x1 x10 x11 (wrap64 (x12 + 1)) x185000 x185001 (x196000 ++ [(⟨(rd_T117 x185000 x12).f0, (rd_T117 x185000 x12).f1⟩ : S117)]) x196001) else (none))) else (none)) else (none))
end
def spec_l10Move.f (k : Nat) (l0_0 : List (S117)) (l0_1 : List (S54)) (a1 : ByteArray) (a2 : Int) : Option ((List (S117)) × (List (S54)) × Bool) := (spec_l10Copy.f l0_0 l0_1).bind fun bt186 => ((spec_BookRight.f k l0_0 l0_1).bind fun t193 => (if t193 = true then ((spec_l01Name.f k a1).bind fun t194 => (if t194 = true then (if a2 < (-1000000000) then (spec_l10Move.j0 k a1 a2 true l0_0 l0_1 bt186.1 bt186.2) else (spec_l10Move.j0 k a1 a2 (decide (a2 > 1000000000)) l0_0 l0_1 bt186.1 bt186.2)) else (spec_l10Move.j0 k a1 a2 true l0_0 l0_1 bt186.1 bt186.2))) else (spec_l10Move.j0 k a1 a2 true l0_0 l0_1 bt186.1 bt186.2)))
def spec_BookMove.f (k : Nat) (l0_0 : List (S117)) (l0_1 : List (S54)) (a1 : ByteArray) (a2 : Int) : Option ((List (S117)) × (List (S54))) := if (a1.size : Int) > 20000 then (some (([] : List (S117)), ([] : List (S54)))) else ((spec_l10Move.f k l0_0 l0_1 a1 a2).bind fun bt217 => (some (bt217.1, bt217.2.1)))
def impl_longText_1.f (a0 : ByteArray) : Option (Bool) := some (decide ((a0.size : Int) > 20000))
def slices_IndexFunc_string_string_impl_longText_1.l0 : Nat → List ByteArray → Int → Int → Option (Int)
  | 0, _, _, _ => none
  | k + 1, x0, x7, x8 => if x8 < x7 then (if 0 ≤ x8 then (if x8 < (x0.length : Int) then ((impl_longText_1.f (rdOf ByteArray.empty x0 x8)).bind fun t226 => (if t226 = true then (some x8) else (slices_IndexFunc_string_string_impl_longText_1.l0 k x0 x7 (wrap64 (x8 + 1))))) else (none)) else (none)) else (some (-1))
def slices_IndexFunc_string_string_impl_longText_1.f (k : Nat) (l0 : List ByteArray)  : Option (Int) := slices_IndexFunc_string_string_impl_longText_1.l0 k l0 (l0.length : Int) 0
def slices_ContainsFunc_string_string_impl_longText_1.f (k : Nat) (l0 : List ByteArray)  : Option (Bool) := (slices_IndexFunc_string_string_impl_longText_1.f k l0).bind fun t227 => (some (decide (t227 ≥ 0)))
def impl_longText.f (k : Nat) (l0 : List ByteArray) : Option (Bool) := (slices_ContainsFunc_string_string_impl_longText_1.f k l0).bind fun t228 => (some t228)
def slices_Clone_implStock.f (l0 : List S117) : Option (List S117) := if l0.length < 5864062014805 then some l0 else none
def slices_Clone_implOrderLine.f (l0 : List S54) : Option (List S54) := if l0.length < 1599289640401 then some l0 else none
def impl_ownBook.f (l0_0 : List (S117)) (l0_1 : List (S54)) : Option ((List (S117)) × (List (S54))) := (slices_Clone_implStock.f l0_0).bind fun t231 => ((slices_Clone_implOrderLine.f l0_1).bind fun t234 => (some (t231, t234)))
def impl_isGreat.f (a0 : Int) : Option (Bool) := if a0 ≥ 65 then (some (decide (a0 ≤ 90))) else (some false)
def impl_isDigit.f (a0 : Int) : Option (Bool) := if a0 ≥ 48 then (some (decide (a0 ≤ 57))) else (some false)
def impl_within.f (a0 : Int) (a1 : Int) (a2 : Int) : Option (Bool) := if a1 ≤ a0 then (some (decide (a0 ≤ a2))) else (some false)
def impl_isName.l0 : Nat → ByteArray → Int → Int → Option (Bool)
  | 0, _, _, _ => none
  | k + 1, x0, x5, x6 => if x6 < x5 then (if 0 ≤ x6 then (if x6 < (x0.size : Int) then ((impl_isGreat.f (bt x0 x6)).bind fun t238 => (if t238 = true then (impl_isName.l0 k x0 x5 (wrap64 (x6 + 1))) else (if x6 = 0 then (some false) else ((impl_isDigit.f (bt x0 x6)).bind fun t239 => (if t239 = true then (impl_isName.l0 k x0 x5 (wrap64 (x6 + 1))) else (if (bt x0 x6) = 45 then (impl_isName.l0 k x0 x5 (wrap64 (x6 + 1))) else (some false))))))) else (none)) else (none)) else ((impl_within.f (x0.size : Int) 1 12).bind fun t237 => (some t237))
def impl_isName.f (k : Nat) (a0 : ByteArray) : Option (Bool) := impl_isName.l0 k a0 (a0.size : Int) 0
def impl_isQty.f (a0 : Int) : Option (Bool) := (impl_within.f a0 1 1000000).bind fun t240 => (some t240)
def impl_LineRight.f (k : Nat) (a0_0 : ByteArray) (a0_1 : ByteArray) (a0_2 : Int) (a0_3 : ByteArray) (a0_4 : Int) (a0_5 : Int) (a0_6 : Int) (a0_7 : Int) : Option (Bool) := (impl_isName.f k a0_0).bind fun t242 => (if t242 = true then ((impl_isName.f k a0_1).bind fun t243 => (if t243 = true then ((impl_isName.f k a0_3).bind fun t244 => (if t244 = true then ((impl_within.f a0_2 1 999).bind fun t245 => (if t245 = true then ((impl_isQty.f a0_4).bind fun t246 => (if t246 = true then ((impl_within.f a0_5 0 a0_4).bind fun t247 => (if t247 = true then ((impl_within.f a0_6 0 a0_5).bind fun t248 => (if t248 = true then ((impl_within.f a0_7 0 (wrap64 (a0_4 - a0_5))).bind fun t249 => (some t249)) else (some false))) else (some false))) else (some false))) else (some false))) else (some false))) else (some false))) else (some false))
def cmp_isNaN_string.f (a0 : ByteArray) : Option (Bool) := some (a0.toList != a0.toList)
def cmp_Compare_string.f (a0 : ByteArray) (a1 : ByteArray) : Option (Int) := (cmp_isNaN_string.f a0).bind fun t250 => ((cmp_isNaN_string.f a1).bind fun t251 => (if t250 = true then (if t251 = true then (some 0) else (some (-1))) else (if t251 = true then (some 1) else (if (Op.bytesLess a0.toList a1.toList) = true then (some (-1)) else (if (Op.bytesLess a1.toList a0.toList) = true then (some 1) else (some 0))))))
def cmp_isNaN_int64.f (a0 : Int) : Option (Bool) := some (a0 != a0)
def cmp_Compare_int64.f (a0 : Int) (a1 : Int) : Option (Int) := (cmp_isNaN_int64.f a0).bind fun t252 => ((cmp_isNaN_int64.f a1).bind fun t253 => (if t252 = true then (if t253 = true then (some 0) else (some (-1))) else (if t253 = true then (some 1) else (if a0 < a1 then (some (-1)) else (if a0 > a1 then (some 1) else (some 0))))))
def cmp_Or_int.l0 : Nat → Int → List Int → Int → Int → Option (Int)
  | 0, _, _, _, _ => none
  | k + 1, x3, x6, x7, x8 => if x8 < x7 then (if 0 ≤ x8 then (if x8 < (x6.length : Int) then (if (rd x6 x8) = x3 then (cmp_Or_int.l0 k x3 x6 x7 (wrap64 (x8 + 1))) else (some (rd x6 x8))) else (none)) else (none)) else (some x3)
def cmp_Or_int.f (k : Nat) (l0 : List Int) : Option (Int) := cmp_Or_int.l0 k 0 l0 (l0.length : Int) 0
def impl_lineOrder.f (k : Nat) (a0_0 : ByteArray) (a0_1 : ByteArray) (a0_2 : Int) (a0_3 : ByteArray) (a0_4 : Int) (a0_5 : Int) (a0_6 : Int) (a0_7 : Int) (a1_0 : ByteArray) (a1_1 : ByteArray) (a1_2 : Int) (a1_3 : ByteArray) (a1_4 : Int) (a1_5 : Int) (a1_6 : Int) (a1_7 : Int) : Option (Int) := (cmp_Compare_string.f a0_0 a1_0).bind fun t257 => ((cmp_Compare_string.f a0_1 a1_1).bind fun t258 => ((cmp_Compare_int64.f a0_2 a1_2).bind fun t259 => ((cmp_Or_int.f k (([t257, t258, t259] : List Int))).bind fun t263 => (some t263))))
def impl_LinesRight.l0 : Nat → List (S54) → List (S54) → Int → Int → Option (Bool)
  | 0, _, _, _, _ => none
  | k + 1, x0, x8, x9, x10 => if x10 < x9 then (if 0 ≤ x10 then (if x10 < (x8.length : Int) then ((impl_LineRight.f k ((rd_T54 x8 x10).f0) ((rd_T54 x8 x10).f1) ((rd_T54 x8 x10).f2) ((rd_T54 x8 x10).f3) ((rd_T54 x8 x10).f4) ((rd_T54 x8 x10).f5) ((rd_T54 x8 x10).f6) ((rd_T54 x8 x10).f7)).bind fun t266 => (if t266 = true then (if x10 > 0 then (if 0 ≤ (wrap64 (x10 - 1)) then (if (wrap64 (x10 - 1)) < (x0.length : Int) then ((impl_lineOrder.f k ((rd_T54 x0 (wrap64 (x10 - 1))).f0) ((rd_T54 x0 (wrap64 (x10 - 1))).f1) ((rd_T54 x0 (wrap64 (x10 - 1))).f2) ((rd_T54 x0 (wrap64 (x10 - 1))).f3) ((rd_T54 x0 (wrap64 (x10 - 1))).f4) ((rd_T54 x0 (wrap64 (x10 - 1))).f5) ((rd_T54 x0 (wrap64 (x10 - 1))).f6) ((rd_T54 x0 (wrap64 (x10 - 1))).f7) ((rd_T54 x8 x10).f0) ((rd_T54 x8 x10).f1) ((rd_T54 x8 x10).f2) ((rd_T54 x8 x10).f3) ((rd_T54 x8 x10).f4) ((rd_T54 x8 x10).f5) ((rd_T54 x8 x10).f6) ((rd_T54 x8 x10).f7)).bind fun t268 => (if t268 ≥ 0 then (some false) else (impl_LinesRight.l0 k x0 x8 x9 (wrap64 (x10 + 1))))) else (none)) else (none)) else (impl_LinesRight.l0 k x0 x8 x9 (wrap64 (x10 + 1)))) else (some false))) else (none)) else (none)) else (some true)
def impl_LinesRight.f (k : Nat) (l0 : List (S54)) : Option (Bool) := if (l0.length : Int) > 200 then (some false) else (impl_LinesRight.l0 k l0 l0 (l0.length : Int) 0)
def impl_BookRight.l0 : Nat → List (S117) → Int → Int → List (S117) → List (S54) → Option (Bool)
  | 0, _, _, _, _, _ => none
  | k + 1, x10, x11, x12, x270000, x270001 => if x12 < x11 then (if 0 ≤ x12 then (if x12 < (x10.length : Int) then ((impl_isName.f k ((rd_T117 x10 x12).f0)).bind fun t273 => (if t273 = true then ((impl_within.f ((rd_T117 x10 x12).f1) 0 1000000000).bind fun t274 => (if t274 = true then (if x12 > 0 then (if 0 ≤ (wrap64 (x12 - 1)) then (if (wrap64 (x12 - 1)) < (x270000.length : Int) then (if ((Op.bytesLess (((rd_T117 x270000 (wrap64 (x12 - 1))).f0).toList) (((rd_T117 x10 x12).f0).toList)) = true) then (impl_BookRight.l0 k x10 x11 (wrap64 (x12 + 1)) x270000 x270001) else (some false)) else (none)) else (none)) else (impl_BookRight.l0 k x10 x11 (wrap64 (x12 + 1)) x270000 x270001)) else (some false))) else (some false))) else (none)) else (none)) else ((impl_LinesRight.f k x270001).bind fun t270 => (some t270))
def impl_BookRight.f (k : Nat) (l0_0 : List (S117)) (l0_1 : List (S54)) : Option (Bool) := if (l0_0.length : Int) > 100 then (some false) else (impl_BookRight.l0 k l0_0 (l0_0.length : Int) 0 l0_0 l0_1)
def bytealg_CompareString.f (a0 a1 : ByteArray) : Option Int := some (Lib.compareBytes a0.data.toList a1.data.toList)
def strings_Compare.f (a0 : ByteArray) (a1 : ByteArray) : Option (Int) := (bytealg_CompareString.f a0 a1).bind fun t276 => (some t276)
def impl_stockOrder.f (a0_0 : ByteArray) (a0_1 : Int) (a1 : ByteArray) : Option (Int) := (strings_Compare.f a0_0 a1).bind fun t278 => (some t278)
def impl_Stock_string_impl_stockOrder.l0 : Nat → List (S117) → ByteArray → Int → Int → Int → Option (Int × Bool)
  | 0, _, _, _, _, _ => none
  | k + 1, x0, x1, x8, x9, x10 => if x9 < x10 then (if 0 ≤ (wrap64 ((IntKind.u64.wrap (wrap64 (x9 + x10))) / 2)) then (if (wrap64 ((IntKind.u64.wrap (wrap64 (x9 + x10))) / 2)) < (x0.length : Int) then ((impl_stockOrder.f ((rd_T117 x0 (wrap64 ((IntKind.u64.wrap (wrap64 (x9 + x10))) / 2))).f0) ((rd_T117 x0 (wrap64 ((IntKind.u64.wrap (wrap64 (x9 + x10))) / 2))).f1) x1).bind fun t280 => (if t280 < 0 then (impl_Stock_string_impl_stockOrder.l0 k x0 x1 x8 (wrap64 ((wrap64 ((IntKind.u64.wrap (wrap64 (x9 + x10))) / 2)) + 1)) x10) else (impl_Stock_string_impl_stockOrder.l0 k x0 x1 x8 x9 (wrap64 ((IntKind.u64.wrap (wrap64 (x9 + x10))) / 2))))) else (none)) else (none)) else (if x9 < x8 then (if 0 ≤ x9 then (if x9 < (x0.length : Int) then ((impl_stockOrder.f ((rd_T117 x0 x9).f0) ((rd_T117 x0 x9).f1) x1).bind fun t282 => (some (x9, (t282 == 0)))) else (none)) else (none)) else (some (x9, false)))
def impl_Stock_string_impl_stockOrder.f (k : Nat) (l0 : List (S117)) (a1 : ByteArray)  : Option (Int × Bool) := impl_Stock_string_impl_stockOrder.l0 k l0 a1 (l0.length : Int) 0 (l0.length : Int)
def impl_Book_hand.f (k : Nat) (s0_0 : List (S117)) (s0_1 : List (S54)) (a1 : ByteArray) : Option (Int) := (impl_Stock_string_impl_stockOrder.f k s0_0 a1).bind fun bt283 => (if bt283.2 = true then (if 0 ≤ bt283.1 then (if bt283.1 < (s0_0.length : Int) then (some ((rd_T117 s0_0 bt283.1).f1)) else (none)) else (none)) else (some 0))
def slices_Insert_implStock.f (l0 : List S117) (a1 : Int) (l2 : List S117) : Option (List S117) := if 0 ≤ a1 then (if a1 ≤ (l0.length : Int) then (if l2.length = 1 then (if l0.length + 1 < 5864062014805 then some (l0.take a1.toNat ++ l2 ++ l0.drop a1.toNat) else none) else none) else none) else none
def impl_Book_move_put.f (l : List S117) (i by_ : Int) : List S117 := l.set i.toNat ⟨(rd_T117 l i).f0, wrap64 ((rd_T117 l i).f1 + by_)⟩
def impl_Book_move.f (k : Nat) (l0 : List S117) (l1 : List S54) (a1 : ByteArray) (a2 : Int) : Option (Bool × List S117) := (impl_Stock_string_impl_stockOrder.f k l0 a1).bind fun bt => (impl_Book_hand.f k l0 l1 a1).bind fun old => (if a2 < wrap64 (-old) then some (false, l0) else (if a2 > wrap64 (1000000000 - old) then some (false, l0) else (if bt.2 = true then (if 0 ≤ bt.1 then (if bt.1 < (l0.length : Int) then some (true, impl_Book_move_put.f l0 bt.1 a2) else none) else none) else (if (l0.length : Int) = 100 then some (false, l0) else ((slices_Insert_implStock.f l0 bt.1 [⟨a1, 0⟩]).bind fun l2 => (if 0 ≤ bt.1 then (if bt.1 < (l2.length : Int) then some (true, impl_Book_move_put.f l2 bt.1 a2) else none) else none))))))
def impl_BookMove.f (k : Nat) (l0 : List S117) (l1 : List S54) (a1 : ByteArray) (a2 : Int) : Option (List S117 × List S54) := (impl_longText.f k ([a1] : List ByteArray)).bind fun t => (if t = true then some (([] : List S117), ([] : List S54)) else (impl_ownBook.f l0 l1).bind fun o => (impl_BookRight.f k l0 l1).bind fun b => (if b = true then (impl_isName.f k a1).bind fun n => (if n = true then (impl_Book_move.f k o.1 o.2 a1 a2).bind fun m => some (m.2, o.2) else some (o.1, o.2)) else some (o.1, o.2)))
def laws_eqStock.f (a0_0 : ByteArray) (a0_1 : Int) (a1_0 : ByteArray) (a1_1 : Int) : Option (Bool) := if a0_0.toList = a1_0.toList then (if a0_1 = a1_1 then (some true) else (some false)) else (some false)
def laws_eqStockS.l0 : Nat → List (S117) → List (S117) → Int → Option (Bool)
  | 0, _, _, _ => none
  | k + 1, x0, x1, x5 => if x5 < (x0.length : Int) then (if 0 ≤ x5 then (if x5 < (x1.length : Int) then ((laws_eqStock.f ((rd_T117 x0 x5).f0) ((rd_T117 x0 x5).f1) ((rd_T117 x1 x5).f0) ((rd_T117 x1 x5).f1)).bind fun t290 => (if t290 = true then (laws_eqStockS.l0 k x0 x1 (wrap64 (x5 + 1))) else (some false))) else (none)) else (none)) else (some true)
def laws_eqStockS.f (k : Nat) (l0 : List (S117)) (l1 : List (S117)) : Option (Bool) := if (l0.length : Int) = (l1.length : Int) then (laws_eqStockS.l0 k l0 l1 0) else (some false)
def laws_eqOrderLine.f (a0_0 : ByteArray) (a0_1 : ByteArray) (a0_2 : Int) (a0_3 : ByteArray) (a0_4 : Int) (a0_5 : Int) (a0_6 : Int) (a0_7 : Int) (a1_0 : ByteArray) (a1_1 : ByteArray) (a1_2 : Int) (a1_3 : ByteArray) (a1_4 : Int) (a1_5 : Int) (a1_6 : Int) (a1_7 : Int) : Option (Bool) := if a0_0.toList = a1_0.toList then (if a0_1.toList = a1_1.toList then (if a0_2 = a1_2 then (if a0_3.toList = a1_3.toList then (if a0_4 = a1_4 then (if a0_5 = a1_5 then (if a0_6 = a1_6 then (if a0_7 = a1_7 then (some true) else (some false)) else (some false)) else (some false)) else (some false)) else (some false)) else (some false)) else (some false)) else (some false)
def laws_eqOrderLineS.l0 : Nat → List (S54) → List (S54) → Int → Option (Bool)
  | 0, _, _, _ => none
  | k + 1, x0, x1, x5 => if x5 < (x0.length : Int) then (if 0 ≤ x5 then (if x5 < (x1.length : Int) then ((laws_eqOrderLine.f ((rd_T54 x0 x5).f0) ((rd_T54 x0 x5).f1) ((rd_T54 x0 x5).f2) ((rd_T54 x0 x5).f3) ((rd_T54 x0 x5).f4) ((rd_T54 x0 x5).f5) ((rd_T54 x0 x5).f6) ((rd_T54 x0 x5).f7) ((rd_T54 x1 x5).f0) ((rd_T54 x1 x5).f1) ((rd_T54 x1 x5).f2) ((rd_T54 x1 x5).f3) ((rd_T54 x1 x5).f4) ((rd_T54 x1 x5).f5) ((rd_T54 x1 x5).f6) ((rd_T54 x1 x5).f7)).bind fun t295 => (if t295 = true then (laws_eqOrderLineS.l0 k x0 x1 (wrap64 (x5 + 1))) else (some false))) else (none)) else (none)) else (some true)
def laws_eqOrderLineS.f (k : Nat) (l0 : List (S54)) (l1 : List (S54)) : Option (Bool) := if (l0.length : Int) = (l1.length : Int) then (laws_eqOrderLineS.l0 k l0 l1 0) else (some false)
def laws_eqBook.f (k : Nat) (l0_0 : List (S117)) (l0_1 : List (S54)) (l1_0 : List (S117)) (l1_1 : List (S54)) : Option (Bool) := (laws_eqStockS.f k l0_0 l1_0).bind fun t298 => (if t298 = true then ((laws_eqOrderLineS.f k l0_1 l1_1).bind fun t299 => (if t299 = true then (some true) else (some false))) else (some false))
def laws_markText.l0 : Nat → Int → ByteArray → Option (ByteArray)
  | 0, _, _ => none
  | k + 1, x0, x3 => if x0 > 0 then ((some (([(wrap64 (48 + (Int.tmod x0 10))) % 256] : List Int) : List Int)).bind fun y300 => (if (strOfNums y300).size + x3.size ≤ 9223372036854775807 then (laws_markText.l0 k (wrap64 (Int.tdiv x0 10)) ((strOfNums y300) ++ x3)) else (none))) else (if 1 + x3.size ≤ 9223372036854775807 then (some ((⟨#[109]⟩ : ByteArray) ++ x3)) else (none))
def laws_markText.f (k : Nat) (a0 : Int) : Option (ByteArray) := if a0 ≤ 0 then (some (⟨#[109, 48]⟩ : ByteArray)) else (laws_markText.l0 k a0 (⟨#[]⟩ : ByteArray))
def laws_markStockS.l0 : Nat → List (S117) → Int → Int → Option (Int × (List (S117)))
  | 0, _, _, _ => none
  | k + 1, x0, x1, x5 => if x5 < (x0.length : Int) then ((laws_markText.f k x1).bind fun t303 => (if 0 ≤ x5 then ((some (x0.set (x5 : Int).toNat (⟨t303, (rd_T117 x0 x5).f1⟩ : S117) : List (S117))).bind fun y304 => (laws_markStockS.l0 k (y304.set (x5 : Int).toNat (⟨(rd_T117 y304 x5).f0, wrap64 (x1 + 1)⟩ : S117)) (wrap64 ((wrap64 (x1 + 1)) + 1)) (wrap64 (x5 + 1)))) else (none))) else (some (x1, x0))
def laws_markStockS.f (k : Nat) (l0 : List (S117)) (a1 : Int) : Option (Int × (List (S117))) := laws_markStockS.l0 k l0 a1 0
def laws_markOrderLineS.l0 : Nat → List (S54) → Int → Int → Option (Int × (List (S54)))
  | 0, _, _, _ => none
  | k + 1, x0, x1, x5 => if x5 < (x0.length : Int) then ((laws_markText.f k x1).bind fun t306 => (if 0 ≤ x5 then ((some (x0.set (x5 : Int).toNat (⟨t306, (rd_T54 x0 x5).f1, (rd_T54 x0 x5).f2, (rd_T54 x0 x5).f3, (rd_T54 x0 x5).f4, (rd_T54 x0 x5).f5, (rd_T54 x0 x5).f6, (rd_T54 x0 x5).f7⟩ : S54) : List (S54))).bind fun y307 => ((laws_markText.f k (wrap64 (x1 + 1))).bind fun t308 => ((some (y307.set (x5 : Int).toNat (⟨(rd_T54 y307 x5).f0, t308, (rd_T54 y307 x5).f2, (rd_T54 y307 x5).f3, (rd_T54 y307 x5).f4, (rd_T54 y307 x5).f5, (rd_T54 y307 x5).f6, (rd_T54 y307 x5).f7⟩ : S54) : List (S54))).bind fun y309 => ((some (y309.set (x5 : Int).toNat (⟨(rd_T54 y309 x5).f0, (rd_T54 y309 x5).f1, wrap64 ((wrap64 (x1 + 1)) + 1), (rd_T54 y309 x5).f3, (rd_T54 y309 x5).f4, (rd_T54 y309 x5).f5, (rd_T54 y309 x5).f6, (rd_T54 y309 x5).f7⟩ : S54) : List (S54))).bind fun y310 => ((laws_markText.f k (wrap64 ((wrap64 ((wrap64 (x1 + 1)) + 1)) + 1))).bind fun t311 => ((some (y310.set (x5 : Int).toNat (⟨(rd_T54 y310 x5).f0, (rd_T54 y310 x5).f1, (rd_T54 y310 x5).f2, t311, (rd_T54 y310 x5).f4, (rd_T54 y310 x5).f5, (rd_T54 y310 x5).f6, (rd_T54 y310 x5).f7⟩ : S54) : List (S54))).bind fun y312 => ((some (y312.set (x5 : Int).toNat (⟨(rd_T54 y312 x5).f0, (rd_T54 y312 x5).f1, (rd_T54 y312 x5).f2, (rd_T54 y312 x5).f3, wrap64 ((wrap64 ((wrap64 ((wrap64 (x1 + 1)) + 1)) + 1)) + 1), (rd_T54 y312 x5).f5, (rd_T54 y312 x5).f6, (rd_T54 y312 x5).f7⟩ : S54) : List (S54))).bind fun y313 => ((some (y313.set (x5 : Int).toNat (⟨(rd_T54 y313 x5).f0, (rd_T54 y313 x5).f1, (rd_T54 y313 x5).f2, (rd_T54 y313 x5).f3, (rd_T54 y313 x5).f4, wrap64 ((wrap64 ((wrap64 ((wrap64 ((wrap64 (x1 + 1)) + 1)) + 1)) + 1)) + 1), (rd_T54 y313 x5).f6, (rd_T54 y313 x5).f7⟩ : S54) : List (S54))).bind fun y314 => ((some (y314.set (x5 : Int).toNat (⟨(rd_T54 y314 x5).f0, (rd_T54 y314 x5).f1, (rd_T54 y314 x5).f2, (rd_T54 y314 x5).f3, (rd_T54 y314 x5).f4, (rd_T54 y314 x5).f5, wrap64 ((wrap64 ((wrap64 ((wrap64 ((wrap64 ((wrap64 (x1 + 1)) + 1)) + 1)) + 1)) + 1)) + 1), (rd_T54 y314 x5).f7⟩ : S54) : List (S54))).bind fun y315 => (laws_markOrderLineS.l0 k (y315.set (x5 : Int).toNat (⟨(rd_T54 y315 x5).f0, (rd_T54 y315 x5).f1, (rd_T54 y315 x5).f2, (rd_T54 y315 x5).f3, (rd_T54 y315 x5).f4, (rd_T54 y315 x5).f5, (rd_T54 y315 x5).f6, wrap64 ((wrap64 ((wrap64 ((wrap64 ((wrap64 ((wrap64 ((wrap64 (x1 + 1)) + 1)) + 1)) + 1)) + 1)) + 1)) + 1)⟩ : S54)) (wrap64 ((wrap64 ((wrap64 ((wrap64 ((wrap64 ((wrap64 ((wrap64 ((wrap64 (x1 + 1)) + 1)) + 1)) + 1)) + 1)) + 1)) + 1)) + 1)) (wrap64 (x5 + 1)))))))))))) else (none))) else (some (x1, x0))
def laws_markOrderLineS.f (k : Nat) (l0 : List (S54)) (a1 : Int) : Option (Int × (List (S54))) := laws_markOrderLineS.l0 k l0 a1 0
def laws_markBook.f (k : Nat) (l0_0 : List (S117)) (l0_1 : List (S54)) (a1 : Int) : Option (Int × (List (S117)) × (List (S54))) := (laws_markStockS.f k l0_0 a1).bind fun bt318 => ((laws_markOrderLineS.f k l0_1 bt318.1).bind fun bt320 => (some (bt320.1, bt318.2, bt320.2)))
def laws_heldStockS.l0 : Nat → List (S117) → Int → Int → Option (Int)
  | 0, _, _, _ => none
  | k + 1, x0, x1, x5 => if x5 < (x0.length : Int) then (if 0 ≤ x5 then ((laws_markText.f k x1).bind fun t323 => (if ((rd_T117 x0 x5).f0).toList = t323.toList then (if ((rd_T117 x0 x5).f1) = (wrap64 (x1 + 1)) then (laws_heldStockS.l0 k x0 (wrap64 ((wrap64 (x1 + 1)) + 1)) (wrap64 (x5 + 1))) else (some (-1))) else (some (-1)))) else (none)) else (some x1)
def laws_heldStockS.f (k : Nat) (l0 : List (S117)) (a1 : Int) : Option (Int) := laws_heldStockS.l0 k l0 a1 0
def laws_heldOrderLineS.l0 : Nat → List (S54) → Int → Int → Option (Int)
  | 0, _, _, _ => none
  | k + 1, x0, x1, x5 => if x5 < (x0.length : Int) then (if 0 ≤ x5 then ((laws_markText.f k x1).bind fun t326 => (if ((rd_T54 x0 x5).f0).toList = t326.toList then ((laws_markText.f k (wrap64 (x1 + 1))).bind fun t328 => (if ((rd_T54 x0 x5).f1).toList = t328.toList then (if ((rd_T54 x0 x5).f2) = (wrap64 ((wrap64 (x1 + 1)) + 1)) then ((laws_markText.f k (wrap64 ((wrap64 ((wrap64 (x1 + 1)) + 1)) + 1))).bind fun t331 => (if ((rd_T54 x0 x5).f3).toList = t331.toList then (if ((rd_T54 x0 x5).f4) = (wrap64 ((wrap64 ((wrap64 ((wrap64 (x1 + 1)) + 1)) + 1)) + 1)) then (if ((rd_T54 x0 x5).f5) = (wrap64 ((wrap64 ((wrap64 ((wrap64 ((wrap64 (x1 + 1)) + 1)) + 1)) + 1)) + 1)) then (if ((rd_T54 x0 x5).f6) = (wrap64 ((wrap64 ((wrap64 ((wrap64 ((wrap64 ((wrap64 (x1 + 1)) + 1)) + 1)) + 1)) + 1)) + 1)) then (if ((rd_T54 x0 x5).f7) = (wrap64 ((wrap64 ((wrap64 ((wrap64 ((wrap64 ((wrap64 ((wrap64 (x1 + 1)) + 1)) + 1)) + 1)) + 1)) + 1)) + 1)) then (laws_heldOrderLineS.l0 k x0 (wrap64 ((wrap64 ((wrap64 ((wrap64 ((wrap64 ((wrap64 ((wrap64 ((wrap64 (x1 + 1)) + 1)) + 1)) + 1)) + 1)) + 1)) + 1)) + 1)) (wrap64 (x5 + 1))) else (some (-1))) else (some (-1))) else (some (-1))) else (some (-1))) else (some (-1)))) else (some (-1))) else (some (-1)))) else (some (-1)))) else (none)) else (some x1)
def laws_heldOrderLineS.f (k : Nat) (l0 : List (S54)) (a1 : Int) : Option (Int) := laws_heldOrderLineS.l0 k l0 a1 0
def laws_heldBook.f (k : Nat) (l0_0 : List (S117)) (l0_1 : List (S54)) (a1 : Int) : Option (Int) := (laws_heldStockS.f k l0_0 a1).bind fun t337 => (if t337 < 0 then (some (-1)) else ((laws_heldOrderLineS.f k l0_1 t337).bind fun t338 => (if t338 < 0 then (some (-1)) else (some t338))))
def laws_FnExactBookMove.j0 : Nat → ByteArray → Int → Bool → List (S154) → List (S74) → List (S117) → List (S54) → List (S117) → List (S54) → Option (Bool)
  | 0, _, _, _, _, _, _, _, _, _ => none
  | k + 1, x1, x2, x53, x340000, x340001, x354000, x354001, x368000, x368001 => if x53 = true then (some false) else ((laws_markBook.f k x368000 x368001 1).bind fun bt380 => ((laws_heldBook.f k bt380.2.1 bt380.2.2 1).bind fun t383 => (if t383 < 0 then (some false) else (if t383 = bt380.1 then ((laws_toBook.f k x340000 x340001).bind fun bt384 => ((impl_BookMove.f k bt384.1 bt384.2 x1 x2).bind fun bt390 => ((laws_eqBook.f k bt390.1 bt390.2 x354000 x354001).bind fun t397 => (if t397 = true then ((laws_heldBook.f k bt380.2.1 bt380.2.2 1).bind fun t398 => (if t398 < 0 then (some false) else (if t398 = bt380.1 then (some true) else (some false)))) else (some false))))) else (some false)))))
def laws_FnExactBookMove.f (k : Nat) (l0_0 : List (S154)) (l0_1 : List (S74)) (a1 : ByteArray) (a2 : Int) : Option (Bool) := if (a1.size : Int) > 1048576 then (some true) else ((laws_szBook.f k l0_0 l0_1 1048576).bind fun t340 => (if t340 < 0 then (some true) else ((laws_toBook.f k l0_0 l0_1).bind fun bt341 => ((spec_BookMove.f k bt341.1 bt341.2 a1 a2).bind fun bt347 => ((laws_toBook.f k l0_0 l0_1).bind fun bt354 => ((impl_BookMove.f k bt354.1 bt354.2 a1 a2).bind fun bt361 => ((laws_eqBook.f k bt361.1 bt361.2 bt347.1 bt347.2).bind fun t368 => (if t368 = true then ((laws_toBook.f k l0_0 l0_1).bind fun bt369 => ((laws_eqBook.f k bt354.1 bt354.2 bt369.1 bt369.2).bind fun t375 => (if t375 = true then ((laws_markBook.f k bt354.1 bt354.2 1).bind fun bt376 => (if bt376.1 < 0 then (laws_FnExactBookMove.j0 k a1 a2 true l0_0 l0_1 bt347.1 bt347.2 bt361.1 bt361.2) else ((laws_eqBook.f k bt361.1 bt361.2 bt347.1 bt347.2).bind fun t379 => (laws_FnExactBookMove.j0 k a1 a2 (!t379) l0_0 l0_1 bt347.1 bt347.2 bt361.1 bt361.2)))) else (some false)))) else (some false)))))))))
end Go.Proofs.Ytefmkmhjbfpelaa.QM
namespace Go.Proofs.Ytefmkmhjbfpelaa.QM
open Go.RowKit Go.Proofs.YtefmkmhjbfpelaaW.PrintWords Go.Proofs.YtefmkmhjbfpelaaW.PrintLast Go.Proofs.YtefmkmhjbfpelaaW.PrintMore
attribute [local go_sem] max2_int min2_int max_two min_two max_three min_three max_four min_four   -- for this text's walks alone
set_option linter.unusedVariables false
set_option linter.unusedSimpArgs false
set_option maxHeartbeats 8000000 in
set_option maxRecDepth 100000 in
theorem laws_szStock.calls (a0_0 : ByteArray) (a0_1 : Int) (a1 : Int) (r : Int) (w : World) (h : laws_szStock.f a0_0 a0_1 a1 = some r) :
    Calls Try.prog 133 #[.agg #[.string a0_0, .int .i64 a0_1], .int .i64 a1] w fun e w' => e = .returned (.int .i64 r) ∧ Below w.heap.size w w' := by
  have hu154 := Try.underlying154; have HB := Aside0.mk (Below.refl w.heap.size w); have H : (if (wrap64 (a1 - (a0_0.size : Int))) < 0 then (some (-1)) else (some (wrap64 (a1 - (a0_0.size : Int))))) = some r := h; clear h
  by_cases c3 : (wrap64 (a1 - (a0_0.size : Int))) < 0
  · rw [if_pos c3] at H; have c3b0 : decide ((wrap64 (a1 - (a0_0.size : Int))) < 0) = true := decide_eq_true c3; clear c3; obtain rfl := Option.some.inj H
    go_enter Try.func133, Try.ntmps133
    go_wp2_with (first | ((with_reducible refine gate_dst (N := 2) rfl ?_); refine bx 2 (cs := #[.string a0_0, .int .i64 a0_1]) (t := 154) ?_; intro gb101 hg w4 hbox hb; have BK101 := Aside0.mk (hbox); have GW101 := Aside0.mk ((gs hg (bs HB))); have GE101 := Aside0.mk ((gs hg (bs HB))); replace HB := Aside0.mk (below_step (bs HB) hb); clear hb hbox hg; obtain ⟨hcz5_0, hcz5_1, hfz5_0, hfz5_1⟩ := cf2 BK101))
    go_ret
    exact ⟨ff, bs HB⟩
  · rw [if_neg c3] at H; have c3b0 : decide ((wrap64 (a1 - (a0_0.size : Int))) < 0) = false := decide_eq_false c3; clear c3; obtain rfl := Option.some.inj H
    go_enter Try.func133, Try.ntmps133
    go_wp2_with (first | ((with_reducible refine gate_dst (N := 2) rfl ?_); refine bx 2 (cs := #[.string a0_0, .int .i64 a0_1]) (t := 154) ?_; intro gb101 hg w6 hbox hb; have BK101 := Aside0.mk (hbox); have GW101 := Aside0.mk ((gs hg (bs HB))); have GE101 := Aside0.mk ((gs hg (bs HB))); replace HB := Aside0.mk (below_step (bs HB) hb); clear hb hbox hg; obtain ⟨hcz7_0, hcz7_1, hfz7_0, hfz7_1⟩ := cf2 BK101))
    go_ret
    exact ⟨ff, bs HB⟩
set_option maxHeartbeats 8000000 in
set_option maxRecDepth 100000 in
theorem laws_szStockS.calls (k : Nat) (A0 : Option Addr) (c0 : Nat) (l0 : List (S154)) (a1 : Int) (r : Int) (w : World) (hr0 : Kd.C k154 w A0 l0.length l0) (hc0 : l0.length ≤ c0) (h : laws_szStockS.f k l0 a1 = some r) :
    Calls Try.prog 82 #[.slice A0 l0.length c0, .int .i64 a1] w fun e w' => e = .returned (.int .i64 r) ∧ Below w.heap.size w w' := by
  have hu154 := Try.underlying154; have HR0 := Aside0.mk hr0; have HC0 := Aside0.mk hc0; clear hr0 hc0; have HB := Aside0.mk (Below.refl w.heap.size w); have H : (if (wrap64 (a1 - (l0.length : Int))) < 0 then (some (-1)) else (laws_szStockS.l0 k l0 (wrap64 (a1 - (l0.length : Int))) 0)) = some r := h; clear h
  by_cases c3 : (wrap64 (a1 - (l0.length : Int))) < 0
  · rw [if_pos c3] at H; have c3b0 : decide ((wrap64 (a1 - (l0.length : Int))) < 0) = true := decide_eq_true c3; clear c3; obtain rfl := Option.some.inj H
    go_enter Try.func82, Try.ntmps82
    go_wp2
    go_ret
    exact ⟨ff, bs HB⟩
  · rw [if_neg c3] at H; have c3b0 : decide ((wrap64 (a1 - (l0.length : Int))) < 0) = false := decide_eq_false c3; clear c3; have H' := Aside0.mk H; clear H
    go_enter Try.func82, Try.ntmps82
    go_wp2
    go_loopg [1, 5] k (fun kq v1 v5 w' => ∃ (x1_1 : Int) (x5_1 : Int), v1 = .int .i64 x1_1 ∧ v5 = .int .i64 x5_1 ∧ Aside0 (laws_szStockS.l0 kq l0 x1_1 x5_1 = some r) ∧ Aside0 (kq ≤ k) ∧ Aside0 (Below w.heap.size w w'))
    case atStart => exact ⟨(wrap64 (a1 - (l0.length : Int))), (0), fg, fg, H', ⟨Nat.le_refl _⟩, ⟨bs HB⟩⟩
    case round =>
      clear H'
      try clear p2
      try clear c3
      try clear c3b0
      obtain ⟨x1_1, x5_1, rfl, rfl, HA, HK1, HB⟩ := hrel
      cases gk with
      | zero => exact absurd HA.out (by simp [laws_szStockS.l0])
      | succ k1 =>
        have H := HA.out; clear HA; simp only [laws_szStockS.l0] at H
        by_cases c4 : x5_1 < (l0.length : Int)
        · rw [if_pos c4] at H; have c4b0 : decide (x5_1 < (l0.length : Int)) = true := decide_eq_true c4; clear c4
          by_cases c5 : 0 ≤ x5_1
          · rw [if_pos c5] at H; have c5b0 : decide (0 ≤ x5_1) = true := decide_eq_true c5; clear c5; replace H := Option.bind_eq_some_iff.mp H; obtain ⟨t103, A60, H⟩ := H; replace H : (if t103 < 0 then (some (-1)) else (laws_szStockS.l0 k1 l0 t103 (wrap64 (x5_1 + 1)))) = some r := H; have A6 := Aside0.mk A60; clear A60; have p102 : 0 ≤ (x5_1 : Int) := oa; have q102 : x5_1 < (l0.length : Int) := oa; obtain ⟨ad102, e102, hx102_0, hx102_1⟩ := at_T154 HR0.out x5_1 p102 q102
            cases e102
            replace hx102_0 := cb HB hx102_0; replace hx102_1 := cb HB hx102_1; replace p102 := eq_true p102; replace q102 := eq_true q102
            try go_wp2_with (fail)
            go_at_call 133; (with_reducible refine (laws_szStock.calls ((rd_T154 l0 x5_1).f0) ((rd_T154 l0 x5_1).f1) x1_1 t103 _ A6.out).mono ?_); rintro e w7 ⟨rfl, hb⟩; replace HB := Aside0.mk (below_step (bs HB) hb); (try clear hb); (try clear hb2); (try clear hk); (try clear hi)
            by_cases c8 : t103 < 0
            · rw [if_pos c8] at H; have c8b0 : decide (t103 < 0) = true := decide_eq_true c8; clear c8; obtain rfl := Option.some.inj H
              go_wp2
              go_ret
              exact ⟨ff, bs HB⟩
            · rw [if_neg c8] at H; have c8b0 : decide (t103 < 0) = false := decide_eq_false c8; clear c8; have H' := Aside0.mk H; clear H
              go_wp2
              go_roundg k1
              case measure => have := HK1.out; omega
              case rel => exact ⟨(t103), (wrap64 (x5_1 + 1)), fg, fg, H', ⟨by have := HK1.out; omega⟩, ⟨bs HB⟩⟩
          · rw [if_neg c5] at H
            exact absurd H (by simp)
        · rw [if_neg c4] at H; have c4b0 : decide (x5_1 < (l0.length : Int)) = false := decide_eq_false c4; clear c4; obtain rfl := Option.some.inj H
          go_wp2
          go_ret
          exact ⟨ff, bs HB⟩
set_option maxHeartbeats 8000000 in
set_option maxRecDepth 100000 in
theorem laws_szOrderLine.calls (a0_0 : ByteArray) (a0_1 : ByteArray) (a0_2 : Int) (a0_3 : ByteArray) (a0_4 : Int) (a0_5 : Int) (a0_6 : Int) (a0_7 : Int) (a1 : Int) (r : Int) (w : World) (h : laws_szOrderLine.f a0_0 a0_1 a0_2 a0_3 a0_4 a0_5 a0_6 a0_7 a1 = some r) :
    Calls Try.prog 51 #[.agg #[.string a0_0, .string a0_1, .int .i64 a0_2, .string a0_3, .int .i64 a0_4, .int .i64 a0_5, .int .i64 a0_6, .int .i64 a0_7], .int .i64 a1] w fun e w' => e = .returned (.int .i64 r) ∧ Below w.heap.size w w' := by
  have hu74 := Try.underlying74; have HB := Aside0.mk (Below.refl w.heap.size w); have H : (if (wrap64 (a1 - (a0_0.size : Int))) < 0 then (some (-1)) else (if (wrap64 ((wrap64 (a1 - (a0_0.size : Int))) - (a0_1.size : Int))) < 0 then (some (-1)) else (if (wrap64 ((wrap64 ((wrap64 (a1 - (a0_0.size : Int))) - (a0_1.size : Int))) - (a0_3.size : Int))) < 0 then (some (-1)) else (some (wrap64 ((wrap64 ((wrap64 (a1 - (a0_0.size : Int))) - (a0_1.size : Int))) - (a0_3.size : Int))))))) = some r := h; clear h
  by_cases c3 : (wrap64 (a1 - (a0_0.size : Int))) < 0
  · rw [if_pos c3] at H; have c3b0 : decide ((wrap64 (a1 - (a0_0.size : Int))) < 0) = true := decide_eq_true c3; clear c3; obtain rfl := Option.some.inj H
    go_enter Try.func51, Try.ntmps51
    go_wp2_with (first | ((with_reducible refine gate_dst (N := 2) rfl ?_); refine bx 2 (cs := #[.string a0_0, .string a0_1, .int .i64 a0_2, .string a0_3, .int .i64 a0_4, .int .i64 a0_5, .int .i64 a0_6, .int .i64 a0_7]) (t := 74) ?_; intro gb104 hg w4 hbox hb; have BK104 := Aside0.mk (hbox); have GW104 := Aside0.mk ((gs hg (bs HB))); have GE104 := Aside0.mk ((gs hg (bs HB))); replace HB := Aside0.mk (below_step (bs HB) hb); clear hb hbox hg; obtain ⟨hcz5_0, hcz5_1, hcz5_2, hcz5_3, hcz5_4, hcz5_5, hcz5_6, hcz5_7, hfz5_0, hfz5_1, hfz5_2, hfz5_3, hfz5_4, hfz5_5, hfz5_6, hfz5_7⟩ := cf8 BK104))
    go_ret
    exact ⟨ff, bs HB⟩
  · rw [if_neg c3] at H; have c3b0 : decide ((wrap64 (a1 - (a0_0.size : Int))) < 0) = false := decide_eq_false c3; clear c3
    by_cases c6 : (wrap64 ((wrap64 (a1 - (a0_0.size : Int))) - (a0_1.size : Int))) < 0
    · rw [if_pos c6] at H; have c6b0 : decide ((wrap64 ((wrap64 (a1 - (a0_0.size : Int))) - (a0_1.size : Int))) < 0) = true := decide_eq_true c6; clear c6; obtain rfl := Option.some.inj H
      go_enter Try.func51, Try.ntmps51
      go_wp2_with (first | ((with_reducible refine gate_dst (N := 2) rfl ?_); refine bx 2 (cs := #[.string a0_0, .string a0_1, .int .i64 a0_2, .string a0_3, .int .i64 a0_4, .int .i64 a0_5, .int .i64 a0_6, .int .i64 a0_7]) (t := 74) ?_; intro gb104 hg w7 hbox hb; have BK104 := Aside0.mk (hbox); have GW104 := Aside0.mk ((gs hg (bs HB))); have GE104 := Aside0.mk ((gs hg (bs HB))); replace HB := Aside0.mk (below_step (bs HB) hb); clear hb hbox hg; obtain ⟨hcz8_0, hcz8_1, hcz8_2, hcz8_3, hcz8_4, hcz8_5, hcz8_6, hcz8_7, hfz8_0, hfz8_1, hfz8_2, hfz8_3, hfz8_4, hfz8_5, hfz8_6, hfz8_7⟩ := cf8 BK104))
      go_ret
      exact ⟨ff, bs HB⟩
    · rw [if_neg c6] at H; have c6b0 : decide ((wrap64 ((wrap64 (a1 - (a0_0.size : Int))) - (a0_1.size : Int))) < 0) = false := decide_eq_false c6; clear c6
      by_cases c9 : (wrap64 ((wrap64 ((wrap64 (a1 - (a0_0.size : Int))) - (a0_1.size : Int))) - (a0_3.size : Int))) < 0
      · rw [if_pos c9] at H; have c9b0 : decide ((wrap64 ((wrap64 ((wrap64 (a1 - (a0_0.size : Int))) - (a0_1.size : Int))) - (a0_3.size : Int))) < 0) = true := decide_eq_true c9; clear c9; obtain rfl := Option.some.inj H
        go_enter Try.func51, Try.ntmps51
        go_wp2_with (first | ((with_reducible refine gate_dst (N := 2) rfl ?_); refine bx 2 (cs := #[.string a0_0, .string a0_1, .int .i64 a0_2, .string a0_3, .int .i64 a0_4, .int .i64 a0_5, .int .i64 a0_6, .int .i64 a0_7]) (t := 74) ?_; intro gb104 hg w10 hbox hb; have BK104 := Aside0.mk (hbox); have GW104 := Aside0.mk ((gs hg (bs HB))); have GE104 := Aside0.mk ((gs hg (bs HB))); replace HB := Aside0.mk (below_step (bs HB) hb); clear hb hbox hg; obtain ⟨hcz11_0, hcz11_1, hcz11_2, hcz11_3, hcz11_4, hcz11_5, hcz11_6, hcz11_7, hfz11_0, hfz11_1, hfz11_2, hfz11_3, hfz11_4, hfz11_5, hfz11_6, hfz11_7⟩ := cf8 BK104))
        go_ret
        exact ⟨ff, bs HB⟩
      · rw [if_neg c9] at H; have c9b0 : decide ((wrap64 ((wrap64 ((wrap64 (a1 - (a0_0.size : Int))) - (a0_1.size : Int))) - (a0_3.size : Int))) < 0) = false := decide_eq_false c9; clear c9; obtain rfl := Option.some.inj H
        go_enter Try.func51, Try.ntmps51
        go_wp2_with (first | ((with_reducible refine gate_dst (N := 2) rfl ?_); refine bx 2 (cs := #[.string a0_0, .string a0_1, .int .i64 a0_2, .string a0_3, .int .i64 a0_4, .int .i64 a0_5, .int .i64 a0_6, .int .i64 a0_7]) (t := 74) ?_; intro gb104 hg w12 hbox hb; have BK104 := Aside0.mk (hbox); have GW104 := Aside0.mk ((gs hg (bs HB))); have GE104 := Aside0.mk ((gs hg (bs HB))); replace HB := Aside0.mk (below_step (bs HB) hb); clear hb hbox hg; obtain ⟨hcz13_0, hcz13_1, hcz13_2, hcz13_3, hcz13_4, hcz13_5, hcz13_6, hcz13_7, hfz13_0, hfz13_1, hfz13_2, hfz13_3, hfz13_4, hfz13_5, hfz13_6, hfz13_7⟩ := cf8 BK104))
        go_ret
        exact ⟨ff, bs HB⟩
end Go.Proofs.Ytefmkmhjbfpelaa.QM
namespace Go.Proofs.Ytefmkmhjbfpelaa.QM
open Go.RowKit Go.Proofs.YtefmkmhjbfpelaaW.PrintWords Go.Proofs.YtefmkmhjbfpelaaW.PrintLast Go.Proofs.YtefmkmhjbfpelaaW.PrintMore
attribute [local go_sem] max2_int min2_int max_two min_two max_three min_three max_four min_four   -- for this text's walks alone
set_option linter.unusedVariables false
set_option linter.unusedSimpArgs false
set_option maxHeartbeats 8000000 in
set_option maxRecDepth 100000 in
theorem laws_szOrderLineS.calls (k : Nat) (A0 : Option Addr) (c0 : Nat) (l0 : List (S74)) (a1 : Int) (r : Int) (w : World) (hr0 : Kd.C k74 w A0 l0.length l0) (hc0 : l0.length ≤ c0) (h : laws_szOrderLineS.f k l0 a1 = some r) :
    Calls Try.prog 50 #[.slice A0 l0.length c0, .int .i64 a1] w fun e w' => e = .returned (.int .i64 r) ∧ Below w.heap.size w w' := by
  have hu74 := Try.underlying74; have HR0 := Aside0.mk hr0; have HC0 := Aside0.mk hc0; clear hr0 hc0; have HB := Aside0.mk (Below.refl w.heap.size w); have H : (if (wrap64 (a1 - (l0.length : Int))) < 0 then (some (-1)) else (laws_szOrderLineS.l0 k l0 (wrap64 (a1 - (l0.length : Int))) 0)) = some r := h; clear h
  by_cases c3 : (wrap64 (a1 - (l0.length : Int))) < 0
  · rw [if_pos c3] at H; have c3b0 : decide ((wrap64 (a1 - (l0.length : Int))) < 0) = true := decide_eq_true c3; clear c3; obtain rfl := Option.some.inj H
    go_enter Try.func50, Try.ntmps50
    go_wp2
    go_ret
    exact ⟨ff, bs HB⟩
  · rw [if_neg c3] at H; have c3b0 : decide ((wrap64 (a1 - (l0.length : Int))) < 0) = false := decide_eq_false c3; clear c3; have H' := Aside0.mk H; clear H
    go_enter Try.func50, Try.ntmps50
    go_wp2
    go_loopg [1, 5] k (fun kq v1 v5 w' => ∃ (x1_1 : Int) (x5_1 : Int), v1 = .int .i64 x1_1 ∧ v5 = .int .i64 x5_1 ∧ Aside0 (laws_szOrderLineS.l0 kq l0 x1_1 x5_1 = some r) ∧ Aside0 (kq ≤ k) ∧ Aside0 (Below w.heap.size w w'))
    case atStart => exact ⟨(wrap64 (a1 - (l0.length : Int))), (0), fg, fg, H', ⟨Nat.le_refl _⟩, ⟨bs HB⟩⟩
    case round =>
      clear H'
      try clear p2
      try clear c3
      try clear c3b0
      obtain ⟨x1_1, x5_1, rfl, rfl, HA, HK1, HB⟩ := hrel
      cases gk with
      | zero => exact absurd HA.out (by simp [laws_szOrderLineS.l0])
      | succ k1 =>
        have H := HA.out; clear HA; simp only [laws_szOrderLineS.l0] at H
        by_cases c4 : x5_1 < (l0.length : Int)
        · rw [if_pos c4] at H; have c4b0 : decide (x5_1 < (l0.length : Int)) = true := decide_eq_true c4; clear c4
          by_cases c5 : 0 ≤ x5_1
          · rw [if_pos c5] at H; have c5b0 : decide (0 ≤ x5_1) = true := decide_eq_true c5; clear c5; replace H := Option.bind_eq_some_iff.mp H; obtain ⟨t106, A60, H⟩ := H; replace H : (if t106 < 0 then (some (-1)) else (laws_szOrderLineS.l0 k1 l0 t106 (wrap64 (x5_1 + 1)))) = some r := H; have A6 := Aside0.mk A60; clear A60; have p105 : 0 ≤ (x5_1 : Int) := oa; have q105 : x5_1 < (l0.length : Int) := oa; obtain ⟨ad105, e105, hx105_0, hx105_1, hx105_2, hx105_3, hx105_4, hx105_5, hx105_6, hx105_7⟩ := at_T74 HR0.out x5_1 p105 q105
            cases e105
            replace hx105_0 := cb HB hx105_0; replace hx105_1 := cb HB hx105_1; replace hx105_2 := cb HB hx105_2; replace hx105_3 := cb HB hx105_3; replace hx105_4 := cb HB hx105_4; replace hx105_5 := cb HB hx105_5; replace hx105_6 := cb HB hx105_6; replace hx105_7 := cb HB hx105_7; replace p105 := eq_true p105; replace q105 := eq_true q105
            try go_wp2_with (fail)
            go_at_call 51; (with_reducible refine (laws_szOrderLine.calls ((rd_T74 l0 x5_1).f0) ((rd_T74 l0 x5_1).f1) ((rd_T74 l0 x5_1).f2) ((rd_T74 l0 x5_1).f3) ((rd_T74 l0 x5_1).f4) ((rd_T74 l0 x5_1).f5) ((rd_T74 l0 x5_1).f6) ((rd_T74 l0 x5_1).f7) x1_1 t106 _ A6.out).mono ?_); rintro e w7 ⟨rfl, hb⟩; replace HB := Aside0.mk (below_step (bs HB) hb); (try clear hb); (try clear hb2); (try clear hk); (try clear hi)
            by_cases c8 : t106 < 0
            · rw [if_pos c8] at H; have c8b0 : decide (t106 < 0) = true := decide_eq_true c8; clear c8; obtain rfl := Option.some.inj H
              go_wp2
              go_ret
              exact ⟨ff, bs HB⟩
            · rw [if_neg c8] at H; have c8b0 : decide (t106 < 0) = false := decide_eq_false c8; clear c8; have H' := Aside0.mk H; clear H
              go_wp2
              go_roundg k1
              case measure => have := HK1.out; omega
              case rel => exact ⟨(t106), (wrap64 (x5_1 + 1)), fg, fg, H', ⟨by have := HK1.out; omega⟩, ⟨bs HB⟩⟩
          · rw [if_neg c5] at H
            exact absurd H (by simp)
        · rw [if_neg c4] at H; have c4b0 : decide (x5_1 < (l0.length : Int)) = false := decide_eq_false c4; clear c4; obtain rfl := Option.some.inj H
          go_wp2
          go_ret
          exact ⟨ff, bs HB⟩
set_option maxHeartbeats 8000000 in
set_option maxRecDepth 100000 in
theorem laws_szBook.calls (k : Nat) (A0_0 : Option Addr) (c0_0 : Nat) (l0_0 : List (S154)) (A0_1 : Option Addr) (c0_1 : Nat) (l0_1 : List (S74)) (a1 : Int) (r : Int) (w : World) (hr0_0 : Kd.C k154 w A0_0 l0_0.length l0_0) (hc0_0 : l0_0.length ≤ c0_0) (hr0_1 : Kd.C k74 w A0_1 l0_1.length l0_1) (hc0_1 : l0_1.length ≤ c0_1) (h : laws_szBook.f k l0_0 l0_1 a1 = some r) :
    Calls Try.prog 22 #[.agg #[.slice A0_0 l0_0.length c0_0, .slice A0_1 l0_1.length c0_1], .int .i64 a1] w fun e w' => e = .returned (.int .i64 r) ∧ Below w.heap.size w w' := by
  have hu41 := Try.underlying41; have HR0_0 := Aside0.mk hr0_0; have HC0_0 := Aside0.mk hc0_0; clear hr0_0 hc0_0; have HR0_1 := Aside0.mk hr0_1; have HC0_1 := Aside0.mk hc0_1; clear hr0_1 hc0_1; have HB := Aside0.mk (Below.refl w.heap.size w); have H : ((laws_szStockS.f k l0_0 a1).bind fun t108 => (if t108 < 0 then (some (-1)) else ((laws_szOrderLineS.f k l0_1 t108).bind fun t109 => (if t109 < 0 then (some (-1)) else (some t109))))) = some r := h; clear h; replace H := Option.bind_eq_some_iff.mp H; obtain ⟨t108, A30, H⟩ := H; replace H : (if t108 < 0 then (some (-1)) else ((laws_szOrderLineS.f k l0_1 t108).bind fun t109 => (if t109 < 0 then (some (-1)) else (some t109)))) = some r := H; have A3 := Aside0.mk A30; clear A30
  go_enter Try.func22, Try.ntmps22
  try go_wp2_with (first | ((with_reducible refine gate_dst (N := 2) rfl ?_); refine bx 2 (cs := #[.slice A0_0 l0_0.length c0_0, .slice A0_1 l0_1.length c0_1]) (t := 41) ?_; intro gb107 hg w4 hbox hb; have BK107 := Aside0.mk (hbox); have GW107 := Aside0.mk ((gs hg (bs HB))); have GE107 := Aside0.mk ((gs hg (bs HB))); replace HB := Aside0.mk (below_step (bs HB) hb); clear hb hbox hg; obtain ⟨hcz5_0, hcz5_1, hfz5_0, hfz5_1⟩ := cf2 BK107))
  go_at_call 82; (with_reducible refine (laws_szStockS.calls k _ _ l0_0 a1 t108 _ (Kd.C_below HR0_0.out (bs HB)) HC0_0.out A3.out).mono ?_); rintro e w6 ⟨rfl, hb⟩; replace BK107 := Aside0.mk (blk_below (ks BK107) hb); replace HB := Aside0.mk (below_step (bs HB) hb); (try clear hb); (try clear hb2); (try clear hk); (try clear hi)
  by_cases c7 : t108 < 0
  · rw [if_pos c7] at H; have c7b0 : decide (t108 < 0) = true := decide_eq_true c7; clear c7; obtain rfl := Option.some.inj H
    go_wp2
    go_ret
    exact ⟨ff, bs HB⟩
  · rw [if_neg c7] at H; have c7b0 : decide (t108 < 0) = false := decide_eq_false c7; clear c7; replace H := Option.bind_eq_some_iff.mp H; obtain ⟨t109, A80, H⟩ := H; replace H : (if t109 < 0 then (some (-1)) else (some t109)) = some r := H; have A8 := Aside0.mk A80; clear A80; obtain ⟨hcz9_0, hcz9_1, hfz9_0, hfz9_1⟩ := cf2 BK107
    try go_wp2_with (fail)
    go_at_call 50; (with_reducible refine (laws_szOrderLineS.calls k _ _ l0_1 t108 t109 _ (Kd.C_below HR0_1.out (bs HB)) HC0_1.out A8.out).mono ?_); rintro e w10 ⟨rfl, hb⟩; replace BK107 := Aside0.mk (blk_below (ks BK107) hb); replace HB := Aside0.mk (below_step (bs HB) hb); (try clear hb); (try clear hb2); (try clear hk); (try clear hi)
    by_cases c11 : t109 < 0
    · rw [if_pos c11] at H; have c11b0 : decide (t109 < 0) = true := decide_eq_true c11; clear c11; obtain rfl := Option.some.inj H
      go_wp2
      go_ret
      exact ⟨ff, bs HB⟩
    · rw [if_neg c11] at H; have c11b0 : decide (t109 < 0) = false := decide_eq_false c11; clear c11; obtain rfl := Option.some.inj H
      go_wp2
      go_ret
      exact ⟨ff, bs HB⟩
set_option maxHeartbeats 8000000 in
set_option maxRecDepth 100000 in
theorem laws_toStock.calls (a0_0 : ByteArray) (a0_1 : Int) (r1 : ByteArray) (r2 : Int) (w : World) (h : laws_toStock.f a0_0 a0_1 = some (r1, r2)) :
    Calls Try.prog 134 #[.agg #[.string a0_0, .int .i64 a0_1]] w fun e w' => e = .returned (.agg #[.string r1, .int .i64 r2]) ∧ Below w.heap.size w w' := by
  have hu154 := Try.underlying154; have hu117 := Try.underlying117; have HB := Aside0.mk (Below.refl w.heap.size w); have H : (some (a0_0, a0_1)) = some (r1, r2) := h; clear h; simp only [Option.some.injEq, Prod.mk.injEq] at H; obtain ⟨rfl, rfl⟩ := H
  go_enter Try.func134, Try.ntmps134
  go_wp2_with (first | ((with_reducible refine gate_dst (N := 1) rfl ?_); refine bx 1 (cs := #[.string a0_0, .int .i64 a0_1]) (t := 154) ?_; intro gb110 hg w2 hbox hb; have BK110 := Aside0.mk (hbox); have GW110 := Aside0.mk ((gs hg (bs HB))); have GE110 := Aside0.mk ((gs hg (bs HB))); replace HB := Aside0.mk (below_step (bs HB) hb); clear hb hbox hg) | ((with_reducible refine gate_dst (N := 2) rfl ?_); refine bx 2 (cs := #[.string (⟨#[]⟩ : ByteArray), .int .i64 0]) (t := 117) ?_; intro gb111 hg w3 hbox hb; have BK111 := Aside0.mk (hbox); have GW111 := Aside0.mk ((gs hg (bs HB))); have GE111 := Aside0.mk ((gs hg (bs HB))); replace HB := Aside0.mk (below_step (bs HB) hb); have NB110_111 := Aside0.mk ((gn hg (ks BK110))); have NB111_110 := Aside0.mk ((gm hg (ks BK110))); replace BK110 := Aside0.mk (blk_below (ks BK110) hb); clear hb hbox hg) | ((with_reducible refine gate_dst (N := 3) rfl ?_); refine bx 3 (cs := #[.string (⟨#[]⟩ : ByteArray), .int .i64 0]) (t := 117) ?_; intro gb112 hg w4 hbox hb; have BK112 := Aside0.mk (hbox); have GW112 := Aside0.mk ((gs hg (bs HB))); have GE112 := Aside0.mk ((gs hg (bs HB))); replace HB := Aside0.mk (below_step (bs HB) hb); have NB110_112 := Aside0.mk ((gn hg (ks BK110))); have NB112_110 := Aside0.mk ((gm hg (ks BK110))); replace BK110 := Aside0.mk (blk_below (ks BK110) hb); have NB111_112 := Aside0.mk ((gn hg (ks BK111))); have NB112_111 := Aside0.mk ((gm hg (ks BK111))); replace BK111 := Aside0.mk (blk_below (ks BK111) hb); clear hb hbox hg; have hnb5 := NB110_111.out; have hnc5 := NB111_110.out; have hnb6 := NB110_112.out; have hnc6 := NB112_110.out; obtain ⟨hcz7_0, hcz7_1, hfz7_0, hfz7_1⟩ := cf2 BK110; have hnb8 := NB112_111.out; have hnc8 := NB111_112.out; obtain ⟨hcz9_0, hcz9_1, hfz9_0, hfz9_1⟩ := cf2 BK112; obtain ⟨hcz10_0, hcz10_1, hfz10_0, hfz10_1⟩ := cf2 BK111))
  refine bodyPost_ret (results_cell_row rfl _ _ gb111 117 #[.string a0_0, .int .i64 a0_1] (0, 0) _ rfl (kp BK111) Try.underlying117 rfl (by kernel_rfl)) rfl ?_
  exact ⟨ff, bs HB⟩
end Go.Proofs.Ytefmkmhjbfpelaa.QM
