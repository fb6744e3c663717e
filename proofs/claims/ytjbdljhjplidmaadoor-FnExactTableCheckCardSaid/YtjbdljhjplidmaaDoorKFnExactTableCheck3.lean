-- Merged by a program of this session (wip/tool/pack.py) out of its own texts for this claim.
import Derived.Test.YtjbdljhjplidmaaDoorKFnExactTableCheck0
import Derived.Test.YtjbdljhjplidmaaDoorKFnExactTableCheck1
import Derived.Test.YtjbdljhjplidmaaDoorKFnExactTableCheck2
namespace Go.Proofs.YtjbdljhjplidmaaDoor.QF
open Go.RowKit Go.Proofs.YtjbdljhjplidmaaDoorW.PrintWords Go.Proofs.YtjbdljhjplidmaaDoorW.PrintLast Go.Proofs.YtjbdljhjplidmaaDoorW.PrintMore
attribute [local go_sem] max2_int min2_int max_two min_two max_three min_three max_four min_four   -- for this text's walks alone
set_option linter.unusedVariables false
set_option linter.unusedSimpArgs false
def laws_szStringS.l0 : Nat → List ByteArray → Int → Int → Option (Int)
  | 0, _, _, _ => none
  | k + 1, x0, x1, x5 => if x5 < (x0.length : Int) then (if 0 ≤ x5 then (if (wrap64 (x1 - ((rdOf ByteArray.empty x0 x5).size : Int))) < 0 then (some (-1)) else (laws_szStringS.l0 k x0 (wrap64 (x1 - ((rdOf ByteArray.empty x0 x5).size : Int))) (wrap64 (x5 + 1)))) else (none)) else (some x1)
def laws_szStringS.f (k : Nat) (l0 : List ByteArray) (a1 : Int) : Option (Int) := if (wrap64 (a1 - (l0.length : Int))) < 0 then (some (-1)) else (laws_szStringS.l0 k l0 (wrap64 (a1 - (l0.length : Int))) 0)
def laws_szElement.f (k : Nat) (l0_0 : List ByteArray) (a1 : Int) : Option (Int) := (laws_szStringS.f k l0_0 a1).bind fun t103 => (if t103 < 0 then (some (-1)) else (some t103))
def laws_szElementS.l0 : Nat → List (S91) → Int → Int → Option (Int)
  | 0, _, _, _ => none
  | k + 1, x0, x1, x5 => if x5 < (x0.length : Int) then (if 0 ≤ x5 then ((laws_szElement.f k ((rd_T91 x0 x5).f0) x1).bind fun t105 => (if t105 < 0 then (some (-1)) else (laws_szElementS.l0 k x0 t105 (wrap64 (x5 + 1))))) else (none)) else (some x1)
def laws_szElementS.f (k : Nat) (l0 : List (S91)) (a1 : Int) : Option (Int) := if (wrap64 (a1 - (l0.length : Int))) < 0 then (some (-1)) else (laws_szElementS.l0 k l0 (wrap64 (a1 - (l0.length : Int))) 0)
def laws_szSegment.f (k : Nat) (a0_0 : ByteArray) (l0_1 : List (S91)) (a1 : Int) : Option (Int) := if (wrap64 (a1 - (a0_0.size : Int))) < 0 then (some (-1)) else ((laws_szElementS.f k l0_1 (wrap64 (a1 - (a0_0.size : Int)))).bind fun t107 => (if t107 < 0 then (some (-1)) else (some t107)))
def laws_szSegmentS.l0 : Nat → List (S31) → Int → Int → Option (Int)
  | 0, _, _, _ => none
  | k + 1, x0, x1, x5 => if x5 < (x0.length : Int) then (if 0 ≤ x5 then ((laws_szSegment.f k ((rd_T31 x0 x5).f0) ((rd_T31 x0 x5).f1) x1).bind fun t109 => (if t109 < 0 then (some (-1)) else (laws_szSegmentS.l0 k x0 t109 (wrap64 (x5 + 1))))) else (none)) else (some x1)
def laws_szSegmentS.f (k : Nat) (l0 : List (S31)) (a1 : Int) : Option (Int) := if (wrap64 (a1 - (l0.length : Int))) < 0 then (some (-1)) else (laws_szSegmentS.l0 k l0 (wrap64 (a1 - (l0.length : Int))) 0)
def laws_toStringS.l0 : Nat → List ByteArray → List ByteArray → Int → Option (List ByteArray)
  | 0, _, _, _ => none
  | k + 1, x0, x3, x4 => if x4 < (x0.length : Int) then (if 0 ≤ x4 then (if x4 < (x3.length : Int) then (laws_toStringS.l0 k x0 (x3.set (x4 : Int).toNat (rdOf ByteArray.empty x0 x4)) (wrap64 (x4 + 1))) else (none)) else (none)) else (some x3)
def laws_toStringS.f (k : Nat) (l0 : List ByteArray) : Option (List ByteArray) := if 0 ≤ (l0.length : Int) then (if ((l0.length : Int) : Int).toNat ≤ 17592186044416 then (laws_toStringS.l0 k l0 (List.replicate ((l0.length : Int) : Int).toNat (⟨#[]⟩ : ByteArray)) 0) else (none)) else (none)
def laws_toElement.f (k : Nat) (l0_0 : List ByteArray) : Option (List ByteArray) := (laws_toStringS.f k l0_0).bind fun t118 => (some t118)
def laws_toElementS.l0 : Nat → List (S91) → List (S65) → Int → Option ((List (S65)))
  | 0, _, _, _ => none
  | k + 1, x0, x3, x4 => if x4 < (x0.length : Int) then (if 0 ≤ x4 then ((laws_toElement.f k ((rd_T91 x0 x4).f0)).bind fun t125 => (if x4 < (x3.length : Int) then (laws_toElementS.l0 k x0 (x3.set (x4 : Int).toNat (⟨t125⟩ : S65)) (wrap64 (x4 + 1))) else (none))) else (none)) else (some x3)
def laws_toElementS.f (k : Nat) (l0 : List (S91)) : Option ((List (S65))) := if 0 ≤ (l0.length : Int) then (if ((l0.length : Int) : Int).toNat ≤ 11728124029610 then (laws_toElementS.l0 k l0 (List.replicate ((l0.length : Int) : Int).toNat z65) 0) else (none)) else (none)
def laws_toSegment.f (k : Nat) (a0_0 : ByteArray) (l0_1 : List (S91)) : Option (ByteArray × (List (S65))) := (laws_toElementS.f k l0_1).bind fun t132 => (some (a0_0, t132))
def laws_toSegmentS.l0 : Nat → List (S31) → List (S36) → Int → Option ((List (S36)))
  | 0, _, _, _ => none
  | k + 1, x0, x3, x4 => if x4 < (x0.length : Int) then (if 0 ≤ x4 then ((laws_toSegment.f k ((rd_T31 x0 x4).f0) ((rd_T31 x0 x4).f1)).bind fun bt139 => (if x4 < (x3.length : Int) then (laws_toSegmentS.l0 k x0 (x3.set (x4 : Int).toNat (⟨bt139.1, bt139.2⟩ : S36)) (wrap64 (x4 + 1))) else (none))) else (none)) else (some x3)
def laws_toSegmentS.f (k : Nat) (l0 : List (S31)) : Option ((List (S36))) := if 0 ≤ (l0.length : Int) then (if ((l0.length : Int) : Int).toNat ≤ 7036874417766 then (laws_toSegmentS.l0 k l0 (List.replicate ((l0.length : Int) : Int).toNat z36) 0) else (none)) else (none)
def spec_TableOf.j0 : Nat → Int → Bool → ByteArray → Int → Int → ByteArray → ByteArray → Int → Int → ByteArray → ByteArray → Int → Int → ByteArray → Option ((List (S57)))
  | 0, _, _, _, _, _, _, _, _, _, _, _, _, _, _ => none
  | k + 1, x9, x16, x145000, x145001, x145002, x145003, x146000, x146001, x146002, x146003, x147000, x147001, x147002, x147003 => if x16 = true then (some (([(⟨x146000, x146001, x146002, x146003⟩ : S57), (⟨(⟨#[76, 73, 78]⟩ : ByteArray), 1, 20, (⟨#[110, 113, 63, 116]⟩ : ByteArray)⟩ : S57)] : List (S57)))) else (if x9 = 3 then (some (([(⟨x146000, x146001, x146002, x146003⟩ : S57), (⟨x147000, x147001, x147002, x147003⟩ : S57), (⟨(⟨#[76, 73, 78]⟩ : ByteArray), 1, 20, (⟨#[110, 113]⟩ : ByteArray)⟩ : S57)] : List (S57)))) else (if x9 = 5 then (some (([(⟨x145000, x145001, x145002, x145003⟩ : S57), (⟨(⟨#[73, 84, 77]⟩ : ByteArray), 1, 20, (⟨#[114, 110]⟩ : ByteArray)⟩ : S57)] : List (S57)))) else (if x9 = 6 then (some (([(⟨x145000, x145001, x145002, x145003⟩ : S57), (⟨(⟨#[73, 84, 77]⟩ : ByteArray), 1, 20, (⟨#[114, 122, 63, 116]⟩ : ByteArray)⟩ : S57)] : List (S57)))) else (if x9 = 7 then (some (([(⟨x145000, x145001, x145002, x145003⟩ : S57), (⟨(⟨#[65, 67, 75]⟩ : ByteArray), 1, 1, (⟨#[110, 110, 63, 110]⟩ : ByteArray)⟩ : S57)] : List (S57)))) else (some (([] : List (S57))))))))
def spec_TableOf.f (k : Nat) (a0 : Int) : Option ((List (S57))) := if a0 = 1 then (some (([(⟨(⟨#[68, 79, 67]⟩ : ByteArray), 1, 1, (⟨#[114, 100]⟩ : ByteArray)⟩ : S57), (⟨(⟨#[78, 79, 84]⟩ : ByteArray), 0, 2, (⟨#[116]⟩ : ByteArray)⟩ : S57), (⟨(⟨#[76, 73, 78]⟩ : ByteArray), 1, 20, (⟨#[110, 114, 113, 63, 110]⟩ : ByteArray)⟩ : S57)] : List (S57)))) else (if a0 = 2 then (spec_TableOf.j0 k a0 (a0 == 2) (⟨#[68, 79, 67]⟩ : ByteArray) 1 1 (⟨#[114, 100]⟩ : ByteArray) (⟨#[68, 79, 67]⟩ : ByteArray) 1 1 (⟨#[114, 114, 100]⟩ : ByteArray) (⟨#[78, 79, 84]⟩ : ByteArray) 0 2 (⟨#[116]⟩ : ByteArray)) else (spec_TableOf.j0 k a0 (a0 == 4) (⟨#[68, 79, 67]⟩ : ByteArray) 1 1 (⟨#[114, 100]⟩ : ByteArray) (⟨#[68, 79, 67]⟩ : ByteArray) 1 1 (⟨#[114, 114, 100]⟩ : ByteArray) (⟨#[78, 79, 84]⟩ : ByteArray) 0 2 (⟨#[116]⟩ : ByteArray)))
def spec_l01Dec.l0 : Nat → Int → Bool → ByteArray → Option (ByteArray)
  | 0, _, _, _ => none
  | k + 1, x0, x3, x4 => if x0 = 0 then (if x3 = true then (if 1 + x4.size ≤ 9223372036854775807 then (some ((⟨#[45]⟩ : ByteArray) ++ x4)) else (none)) else (some x4)) else (if (Int.tmod x0 10) < 0 then ((some (([(wrap64 (48 + (wrap64 (-(Int.tmod x0 10))))) % 256] : List Int) : List Int)).bind fun y168 => (if (strOfNums y168).size + x4.size ≤ 9223372036854775807 then (spec_l01Dec.l0 k (wrap64 (Int.tdiv x0 10)) x3 ((strOfNums y168) ++ x4)) else (none))) else ((some (([(wrap64 (48 + (Int.tmod x0 10))) % 256] : List Int) : List Int)).bind fun y171 => (if (strOfNums y171).size + x4.size ≤ 9223372036854775807 then (spec_l01Dec.l0 k (wrap64 (Int.tdiv x0 10)) x3 ((strOfNums y171) ++ x4)) else (none))))
def spec_l01Dec.f (k : Nat) (a0 : Int) : Option (ByteArray) := if a0 = 0 then (some (⟨#[48]⟩ : ByteArray)) else (spec_l01Dec.l0 k a0 (decide (a0 < 0)) (⟨#[]⟩ : ByteArray))
mutual
def spec_l01Num.j0 : Nat → ByteArray → Bool → Option (Int × Bool)
  | 0, _, _ => none
  | k + 1, x0, x4 => if x4 = true then (if 1 ≤ (x0.size : Int) then (spec_l01Num.j1 k x0 x4 (x0.extract 1 x0.size)) else (none)) else (spec_l01Num.j1 k x0 x4 x0)
def spec_l01Num.j1 : Nat → ByteArray → Bool → ByteArray → Option (Int × Bool)
  | 0, _, _, _ => none
  | k + 1, x0, x4, x5 => if (x5.size : Int) < 1 then (spec_l01Num.j2 k x0 x4 x5 true) else (spec_l01Num.j2 k x0 x4 x5 (decide ((x5.size : Int) > 12)))
def spec_l01Num.j2 : Nat → ByteArray → Bool → ByteArray → Bool → Option (Int × Bool)
  | 0, _, _, _, _ => none
  | k + 1, x0, x4, x5, x27 => if x27 = true then (some (0, false)) else (spec_l01Num.l0 k x0 x4 x5 0 0)
def spec_l01Num.l0 : Nat → ByteArray → Bool → ByteArray → Int → Int → Option (Int × Bool)
  | 0, _, _, _, _, _ => none
  | k + 1, x0, x4, x5, x6, x7 => if x7 < (x5.size : Int) then (if 0 ≤ x7 then (if (bt x5 x7) < 48 then (some (0, false)) else (if (bt x5 x7) > 57 then (some (0, false)) else (spec_l01Num.l0 k x0 x4 x5 (wrap64 ((wrap64 (10 * x6)) + (((bt x5 x7) - 48) % 256))) (wrap64 (x7 + 1))))) else (none)) else (if x4 = true then ((spec_l01Dec.f k (wrap64 (-x6))).bind fun t174 => (some (wrap64 (-x6), (t174.toList == x0.toList)))) else ((spec_l01Dec.f k x6).bind fun t175 => (some (x6, (t175.toList == x0.toList)))))
end
def spec_l01Num.f (k : Nat) (a0 : ByteArray) : Option (Int × Bool) := if (a0.size : Int) > 0 then (if 0 < (a0.size : Int) then (spec_l01Num.j0 k a0 ((bt a0 0) == 45)) else (none)) else (spec_l01Num.j0 k a0 false)
mutual
def spec_l01Name.j0 : Nat → ByteArray → Bool → Option (Bool)
  | 0, _, _ => none
  | k + 1, x0, x22 => if x22 = true then (some false) else (spec_l01Name.l0 k x0 0)
def spec_l01Name.l0 : Nat → ByteArray → Int → Option (Bool)
  | 0, _, _ => none
  | k + 1, x0, x3 => if x3 < (x0.size : Int) then (if 0 ≤ x3 then (if (bt x0 x3) ≥ 65 then (if (bt x0 x3) ≤ 90 then (spec_l01Name.l0 k x0 (wrap64 (x3 + 1))) else (if (bt x0 x3) ≥ 48 then (if (bt x0 x3) ≤ 57 then (spec_l01Name.l0 k x0 (wrap64 (x3 + 1))) else (if ((bt x0 x3) = 45) then (spec_l01Name.l0 k x0 (wrap64 (x3 + 1))) else (some false))) else (if ((bt x0 x3) = 45) then (spec_l01Name.l0 k x0 (wrap64 (x3 + 1))) else (some false)))) else (if (bt x0 x3) ≥ 48 then (if (bt x0 x3) ≤ 57 then (spec_l01Name.l0 k x0 (wrap64 (x3 + 1))) else (if ((bt x0 x3) = 45) then (spec_l01Name.l0 k x0 (wrap64 (x3 + 1))) else (some false))) else (if ((bt x0 x3) = 45) then (spec_l01Name.l0 k x0 (wrap64 (x3 + 1))) else (some false)))) else (none)) else (some true)
end
def spec_l01Name.f (k : Nat) (a0 : ByteArray) : Option (Bool) := if (a0.size : Int) < 1 then (spec_l01Name.j0 k a0 true) else (if (a0.size : Int) > 12 then (spec_l01Name.j0 k a0 true) else (if 0 < (a0.size : Int) then (if (bt a0 0) < 65 then (spec_l01Name.j0 k a0 true) else (spec_l01Name.j0 k a0 (decide ((bt a0 0) > 90)))) else (none)))
def spec_l01Qty.f (a0 : Int) : Option (Bool) := if a0 ≥ 1 then (some (decide (a0 ≤ 1000000))) else (some false)
def spec_l01Day.f (a0 : Int) : Option (Bool) := if a0 ≥ 0 then (some (decide (a0 ≤ 100000))) else (some false)
def spec_l02Part.l0 : Nat → ByteArray → Int → Option (Bool)
  | 0, _, _ => none
  | k + 1, x0, x3 => if x3 < (x0.size : Int) then (if 0 ≤ x3 then (if (bt x0 x3) < 32 then (some false) else (if (bt x0 x3) > 126 then (some false) else (spec_l02Part.l0 k x0 (wrap64 (x3 + 1))))) else (none)) else (some true)
def spec_l02Part.f (k : Nat) (a0 : ByteArray) : Option (Bool) := if (a0.size : Int) > 40 then (some false) else (spec_l02Part.l0 k a0 0)
def spec_l04Element.f (k : Nat) (a0 : Int) (l1_0 : List ByteArray) : Option (Bool) := if (l1_0.length : Int) = 1 then (if 0 < (l1_0.length : Int) then ((spec_l01Num.f k (rdOf ByteArray.empty l1_0 0)).bind fun bt178 => (if a0 = 114 then ((spec_l01Name.f k (rdOf ByteArray.empty l1_0 0)).bind fun t180 => (some t180)) else (if a0 = 110 then (if bt178.2 = true then (if bt178.1 ≥ 0 then (some (decide (bt178.1 ≤ 1000000000))) else (some false)) else (some false)) else (if a0 = 113 then (if bt178.2 = true then ((spec_l01Qty.f bt178.1).bind fun t181 => (some t181)) else (some false)) else (if a0 = 122 then (if bt178.2 = true then (if bt178.1 ≥ (-1000000) then (if bt178.1 ≤ 1000000 then (some (bt178.1 != 0)) else (some false)) else (some false)) else (some false)) else (if a0 = 100 then (if bt178.2 = true then ((spec_l01Day.f bt178.1).bind fun t182 => (some t182)) else (some false)) else (if (rdOf ByteArray.empty l1_0 0).toList = ([] : List UInt8) then (some false) else ((spec_l02Part.f k (rdOf ByteArray.empty l1_0 0)).bind fun t183 => (some t183))))))))) else (none)) else (some false)
mutual
def spec_FormRight.l0 : Nat → ByteArray → List Int → Int → Int → ByteArray → List (S65) → Option (Int)
  | 0, _, _, _, _, _, _ => none
  | k + 1, x0, x5, x6, x7, x185000, x185001 => if x7 < (x0.size : Int) then (if 0 ≤ x7 then (if (bt x0 x7) = 63 then (if x6 ≥ 0 then (some 0) else (spec_FormRight.l0 k x0 x5 (x5.length : Int) (wrap64 (x7 + 1)) x185000 x185001)) else (if (bt x0 x7) = 114 then (if x5.length < 140737488355328 then (spec_FormRight.l0 k x0 (x5 ++ [bt x0 x7]) x6 (wrap64 (x7 + 1)) x185000 x185001) else (none)) else (if (bt x0 x7) = 110 then (if x5.length < 140737488355328 then (spec_FormRight.l0 k x0 (x5 ++ [bt x0 x7]) x6 (wrap64 (x7 + 1)) x185000 x185001) else (none)) else (if (bt x0 x7) = 113 then (if x5.length < 140737488355328 then (spec_FormRight.l0 k x0 (x5 ++ [bt x0 x7]) x6 (wrap64 (x7 + 1)) x185000 x185001) else (none)) else (if (bt x0 x7) = 122 then (if x5.length < 140737488355328 then (spec_FormRight.l0 k x0 (x5 ++ [bt x0 x7]) x6 (wrap64 (x7 + 1)) x185000 x185001) else (none)) else (if (bt x0 x7) = 100 then (if x5.length < 140737488355328 then (spec_FormRight.l0 k x0 (x5 ++ [bt x0 x7]) x6 (wrap64 (x7 + 1)) x185000 x185001) else (none)) else (if (bt x0 x7) = 116 then (if x5.length < 140737488355328 then (spec_FormRight.l0 k x0 (x5 ++ [bt x0 x7]) x6 (wrap64 (x7 + 1)) x185000 x185001) else (none)) else (some 0)))))))) else (none)) else (if x6 < 0 then (spec_FormRight.j1 k x5 (x5.length : Int) x185000 x185001) else (spec_FormRight.j1 k x5 x6 x185000 x185001))
def spec_FormRight.j1 : Nat → List Int → Int → ByteArray → List (S65) → Option (Int)
  | 0, _, _, _, _ => none
  | k + 1, x5, x6, x185000, x185001 => spec_FormRight.l1 k x5 x6 0 x185000 x185001
def spec_FormRight.l1 : Nat → List Int → Int → Int → ByteArray → List (S65) → Option (Int)
  | 0, _, _, _, _, _ => none
  | k + 1, x5, x6, x9, x185000, x185001 => if x9 < (x185001.length : Int) then (spec_FormRight.j3 k x5 x6 x9 true x185000 x185001) else (spec_FormRight.j3 k x5 x6 x9 (decide (x9 < x6)) x185000 x185001)
def spec_FormRight.j3 : Nat → List Int → Int → Int → Bool → ByteArray → List (S65) → Option (Int)
  | 0, _, _, _, _, _, _ => none
  | k + 1, x5, x6, x9, x68, x185000, x185001 => if x68 = true then (if x9 ≥ (x185001.length : Int) then (some x9) else (if x9 ≥ (x5.length : Int) then (some x9) else (if 0 ≤ x9 then (if x9 < (x5.length : Int) then (if x9 < (x185001.length : Int) then ((spec_l04Element.f k (rd x5 x9) ((rd_T65 x185001 x9).f0)).bind fun t208 => (if t208 = true then (spec_FormRight.l1 k x5 x6 (wrap64 (x9 + 1)) x185000 x185001) else (some x9))) else (none)) else (none)) else (none)))) else (some (-1))
end
def spec_FormRight.f (k : Nat) (a0 : ByteArray) (a1_0 : ByteArray) (l1_1 : List (S65)) : Option (Int) := if (a0.size : Int) > 20000 then (some 0) else (spec_FormRight.l0 k a0 (([] : List Int)) (-1) 0 a1_0 l1_1)
mutual
def spec_TableCheck.l0 : Nat → List (S36) → List (S57) → Int → Int → Option (Int × Int × Int)
  | 0, _, _, _, _ => none
  | k + 1, x1, x5, x6, x7 => if x7 < (x5.length : Int) then (spec_TableCheck.l1 k x1 x5 x6 x7 0) else (if x6 < (x1.length : Int) then (if 0 ≤ x6 then (if 0 ≤ (wrap64 ((x5.length : Int) - 1)) then (if (wrap64 ((x5.length : Int) - 1)) < (x5.length : Int) then (if ((rd_T36 x1 x6).f0).toList = ((rd_T57 x5 (wrap64 ((x5.length : Int) - 1))).f0).toList then (some (x6, 0, 7)) else (some (x6, 0, 3))) else (none)) else (none)) else (none)) else (some (0, 0, 0)))
def spec_TableCheck.l1 : Nat → List (S36) → List (S57) → Int → Int → Int → Option (Int × Int × Int)
  | 0, _, _, _, _, _ => none
  | k + 1, x1, x5, x6, x7, x8 => if 0 ≤ x7 then (if x7 < (x5.length : Int) then (if x8 < ((rd_T57 x5 x7).f2) then (if x6 < (x1.length : Int) then (if 0 ≤ x6 then (spec_TableCheck.j2 k x1 x5 x6 x7 x8 (((rd_T36 x1 x6).f0).toList == ((rd_T57 x5 x7).f0).toList)) else (none)) else (spec_TableCheck.j2 k x1 x5 x6 x7 x8 false)) else (spec_TableCheck.j2 k x1 x5 x6 x7 x8 false)) else (none)) else (none)
def spec_TableCheck.j2 : Nat → List (S36) → List (S57) → Int → Int → Int → Bool → Option (Int × Int × Int)
  | 0, _, _, _, _, _, _ => none
  | k + 1, x1, x5, x6, x7, x8, x52 => if x52 = true then (if 0 ≤ x7 then (if x7 < (x5.length : Int) then (if 0 ≤ x6 then (if x6 < (x1.length : Int) then ((spec_FormRight.f k ((rd_T57 x5 x7).f3) ((rd_T36 x1 x6).f0) ((rd_T36 x1 x6).f1)).bind fun t218 => (if t218 ≥ 0 then (some (x6, t218, 3)) else (spec_TableCheck.l1 k x1 x5 (wrap64 (x6 + 1)) x7 (wrap64 (x8 + 1))))) else (none)) else (none)) else (none)) else (none)) else (if 0 ≤ x7 then (if x7 < (x5.length : Int) then (if x8 < ((rd_T57 x5 x7).f1) then (some (x6, 0, 4)) else (spec_TableCheck.l0 k x1 x5 x6 (wrap64 (x7 + 1)))) else (none)) else (none))
end
def spec_TableCheck.f (k : Nat) (a0 : Int) (l1 : List (S36)) : Option (Int × Int × Int) := if (l1.length : Int) > 400 then (some (0, 0, 2)) else ((spec_TableOf.f k a0).bind fun t210 => (if (t210.length : Int) = 0 then (some (0, 0, 1)) else (spec_TableCheck.l0 k l1 t210 0 0)))
def impl_Segment.f (l0 : List (S36)) : Option (Bool) := some (decide ((l0.length : Int) > 400))
def impl_within.f (a0 : Int) (a1 : Int) (a2 : Int) : Option (Bool) := if a1 ≤ a0 then (some (decide (a0 ≤ a2))) else (some false)
def impl_tableOf_1.f (a0 : ByteArray) : Option (ByteArray × Int × Int × ByteArray) := some ((⟨#[68, 79, 67]⟩ : ByteArray), 1, 1, a0)
def impl_tableOf_2.f (a0 : ByteArray) (a1 : ByteArray) : Option (ByteArray × Int × Int × ByteArray) := some (a0, 1, 20, a1)
def impl_tableOf.j0 : Nat → Int → Bool → ByteArray → Int → Int → ByteArray → Option ((List (S57)))
  | 0, _, _, _, _, _, _ => none
  | k + 1, x7, x16, x225000, x225001, x225002, x225003 => if x16 = true then ((impl_tableOf_1.f (⟨#[114, 114, 100]⟩ : ByteArray)).bind fun bt236 => ((impl_tableOf_2.f (⟨#[76, 73, 78]⟩ : ByteArray) (⟨#[110, 113, 63, 116]⟩ : ByteArray)).bind fun bt240 => (some (([(⟨bt236.1, bt236.2.1, bt236.2.2.1, bt236.2.2.2⟩ : S57), (⟨bt240.1, bt240.2.1, bt240.2.2.1, bt240.2.2.2⟩ : S57)] : List (S57)))))) else (if x7 = 3 then ((impl_tableOf_1.f (⟨#[114, 114, 100]⟩ : ByteArray)).bind fun bt247 => ((impl_tableOf_2.f (⟨#[76, 73, 78]⟩ : ByteArray) (⟨#[110, 113]⟩ : ByteArray)).bind fun bt251 => (some (([(⟨bt247.1, bt247.2.1, bt247.2.2.1, bt247.2.2.2⟩ : S57), (⟨x225000, x225001, x225002, x225003⟩ : S57), (⟨bt251.1, bt251.2.1, bt251.2.2.1, bt251.2.2.2⟩ : S57)] : List (S57)))))) else (if x7 = 5 then ((impl_tableOf_1.f (⟨#[114, 100]⟩ : ByteArray)).bind fun bt258 => ((impl_tableOf_2.f (⟨#[73, 84, 77]⟩ : ByteArray) (⟨#[114, 110]⟩ : ByteArray)).bind fun bt262 => (some (([(⟨bt258.1, bt258.2.1, bt258.2.2.1, bt258.2.2.2⟩ : S57), (⟨bt262.1, bt262.2.1, bt262.2.2.1, bt262.2.2.2⟩ : S57)] : List (S57)))))) else (if x7 = 6 then ((impl_tableOf_1.f (⟨#[114, 100]⟩ : ByteArray)).bind fun bt269 => ((impl_tableOf_2.f (⟨#[73, 84, 77]⟩ : ByteArray) (⟨#[114, 122, 63, 116]⟩ : ByteArray)).bind fun bt273 => (some (([(⟨bt269.1, bt269.2.1, bt269.2.2.1, bt269.2.2.2⟩ : S57), (⟨bt273.1, bt273.2.1, bt273.2.2.1, bt273.2.2.2⟩ : S57)] : List (S57)))))) else (if x7 = 7 then ((impl_tableOf_1.f (⟨#[114, 100]⟩ : ByteArray)).bind fun bt280 => (some (([(⟨bt280.1, bt280.2.1, bt280.2.2.1, bt280.2.2.2⟩ : S57), (⟨(⟨#[65, 67, 75]⟩ : ByteArray), 1, 1, (⟨#[110, 110, 63, 110]⟩ : ByteArray)⟩ : S57)] : List (S57))))) else (some ([] : List (S57)))))))
def impl_tableOf.f (k : Nat) (a0 : Int) : Option ((List (S57))) := if a0 = 1 then ((impl_tableOf_1.f (⟨#[114, 100]⟩ : ByteArray)).bind fun bt225 => ((impl_tableOf_2.f (⟨#[76, 73, 78]⟩ : ByteArray) (⟨#[110, 114, 113, 63, 110]⟩ : ByteArray)).bind fun bt229 => (some (([(⟨bt225.1, bt225.2.1, bt225.2.2.1, bt225.2.2.2⟩ : S57), (⟨(⟨#[78, 79, 84]⟩ : ByteArray), 0, 2, (⟨#[116]⟩ : ByteArray)⟩ : S57), (⟨bt229.1, bt229.2.1, bt229.2.2.1, bt229.2.2.2⟩ : S57)] : List (S57)))))) else (if a0 = 2 then (impl_tableOf.j0 k a0 (a0 == 2) (⟨#[78, 79, 84]⟩ : ByteArray) 0 2 (⟨#[116]⟩ : ByteArray)) else (impl_tableOf.j0 k a0 (a0 == 4) (⟨#[78, 79, 84]⟩ : ByteArray) 0 2 (⟨#[116]⟩ : ByteArray)))
def strings_Cut.f (a0 a1 : ByteArray) : Option (ByteArray × ByteArray × Bool) := if a0.size < 4294967281 then some ((⟨(Lib.cut a0.data.toList a1.data.toList).1.toArray⟩ : ByteArray), (⟨(Lib.cut a0.data.toList a1.data.toList).2.1.toArray⟩ : ByteArray), (Lib.cut a0.data.toList a1.data.toList).2.2) else none
def strings_IndexByte.f (a0 : ByteArray) (a1 : Int) : Option Int := some (Lib.indexByte a0.data.toList a1.toNat.toUInt8)
def impl_longText_1.f (a0 : ByteArray) : Option (Bool) := some (decide ((a0.size : Int) > 20000))
def slices_IndexFunc_string_string_impl_longText_1.l0 : Nat → List ByteArray → Int → Int → Option (Int)
  | 0, _, _, _ => none
  | k + 1, x0, x7, x8 => if x8 < x7 then (if 0 ≤ x8 then (if x8 < (x0.length : Int) then ((impl_longText_1.f (rdOf ByteArray.empty x0 x8)).bind fun t288 => (if t288 = true then (some x8) else (slices_IndexFunc_string_string_impl_longText_1.l0 k x0 x7 (wrap64 (x8 + 1))))) else (none)) else (none)) else (some (-1))
def slices_IndexFunc_string_string_impl_longText_1.f (k : Nat) (l0 : List ByteArray)  : Option (Int) := slices_IndexFunc_string_string_impl_longText_1.l0 k l0 (l0.length : Int) 0
def slices_ContainsFunc_string_string_impl_longText_1.f (k : Nat) (l0 : List ByteArray)  : Option (Bool) := (slices_IndexFunc_string_string_impl_longText_1.f k l0).bind fun t289 => (some (decide (t289 ≥ 0)))
def impl_longText.f (k : Nat) (l0 : List ByteArray) : Option (Bool) := (slices_ContainsFunc_string_string_impl_longText_1.f k l0).bind fun t290 => (some t290)
def impl_isGreat.f (a0 : Int) : Option (Bool) := if a0 ≥ 65 then (some (decide (a0 ≤ 90))) else (some false)
def impl_isDigit.f (a0 : Int) : Option (Bool) := if a0 ≥ 48 then (some (decide (a0 ≤ 57))) else (some false)
def impl_isName.l0 : Nat → ByteArray → Int → Int → Option (Bool)
  | 0, _, _, _ => none
  | k + 1, x0, x5, x6 => if x6 < x5 then (if 0 ≤ x6 then (if x6 < (x0.size : Int) then ((impl_isGreat.f (bt x0 x6)).bind fun t292 => (if t292 = true then (impl_isName.l0 k x0 x5 (wrap64 (x6 + 1))) else (if x6 = 0 then (some false) else ((impl_isDigit.f (bt x0 x6)).bind fun t293 => (if t293 = true then (impl_isName.l0 k x0 x5 (wrap64 (x6 + 1))) else (if (bt x0 x6) = 45 then (impl_isName.l0 k x0 x5 (wrap64 (x6 + 1))) else (some false))))))) else (none)) else (none)) else ((impl_within.f (x0.size : Int) 1 12).bind fun t291 => (some t291))
def impl_isName.f (k : Nat) (a0 : ByteArray) : Option (Bool) := impl_isName.l0 k a0 (a0.size : Int) 0
mutual
def impl_isNumber.j0 : Nat → ByteArray → ByteArray → Bool → Option (Bool)
  | 0, _, _, _ => none
  | k + 1, x0, x3, x12 => if x12 = true then (if 1 ≤ (x0.size : Int) then (impl_isNumber.j1 k x0 (x0.extract 1 x0.size)) else (none)) else (impl_isNumber.j1 k x0 x3)
def impl_isNumber.j1 : Nat → ByteArray → ByteArray → Option (Bool)
  | 0, _, _ => none
  | k + 1, x0, x3 => impl_isNumber.l0 k x0 x3 (x3.size : Int) 0
def impl_isNumber.l0 : Nat → ByteArray → ByteArray → Int → Int → Option (Bool)
  | 0, _, _, _, _ => none
  | k + 1, x0, x3, x16, x17 => if x17 < x16 then (if 0 ≤ x17 then (if x17 < (x3.size : Int) then ((impl_isDigit.f (bt x3 x17)).bind fun t294 => (if t294 = true then (impl_isNumber.l0 k x0 x3 x16 (wrap64 (x17 + 1))) else (some false))) else (none)) else (none)) else (if x3.toList = ([] : List UInt8) then (some false) else (if 0 < (x3.size : Int) then (if (bt x3 0) = 48 then (some (x0.toList == ([48] : List UInt8))) else (some true)) else (none)))
end
def impl_isNumber.f (k : Nat) (a0 : ByteArray) : Option (Bool) := if a0.toList = ([] : List UInt8) then (impl_isNumber.j0 k a0 a0 false) else (if 0 < (a0.size : Int) then (impl_isNumber.j0 k a0 a0 ((bt a0 0) == 45)) else (none))
def impl_numberIn.f (k : Nat) (a0 : ByteArray) (a1 a2 : Int) : Option (Int × Bool) := if a0.size ≤ 281474976710656 then (match Lib.parseIntB 64 a0.data.toList with | .ok v => ((impl_isNumber.f k a0).bind fun b => if b = true then ((impl_within.f v a1 a2).bind fun c => some (v, c)) else some (v, false)) | .«syntax» => some (0, false) | .range => some (Lib.intSat 64 a0.data.toList, false)) else none
def impl_isPrinted.l0 : Nat → ByteArray → Int → Int → Option (Bool)
  | 0, _, _, _ => none
  | k + 1, x0, x5, x6 => if x6 < x5 then (if 0 ≤ x6 then (if x6 < (x0.size : Int) then (if (bt x0 x6) < 32 then (some false) else (if (bt x0 x6) > 126 then (some false) else (impl_isPrinted.l0 k x0 x5 (wrap64 (x6 + 1))))) else (none)) else (none)) else (some true)
def impl_isPrinted.f (k : Nat) (a0 : ByteArray) : Option (Bool) := impl_isPrinted.l0 k a0 (a0.size : Int) 0
def impl_isPart.f (k : Nat) (a0 : ByteArray) : Option (Bool) := if (a0.size : Int) ≤ 40 then ((impl_isPrinted.f k a0).bind fun t295 => (some t295)) else (some false)
def impl_isOf.f (k : Nat) (a0 : Int) (a1 : ByteArray) : Option (Bool) := if a0 = 114 then ((impl_isName.f k a1).bind fun t296 => (some t296)) else (if a0 = 110 then ((impl_numberIn.f k a1 0 1000000000).bind fun bt297 => (some bt297.2)) else (if a0 = 113 then ((impl_numberIn.f k a1 1 1000000).bind fun bt299 => (some bt299.2)) else (if a0 = 122 then ((impl_numberIn.f k a1 (-1000000) 1000000).bind fun bt301 => (if bt301.2 = true then (some (a1.toList != ([48] : List UInt8))) else (some false))) else (if a0 = 100 then ((impl_numberIn.f k a1 0 100000).bind fun bt303 => (some bt303.2)) else (if a0 = 116 then (if a1.toList = ([] : List UInt8) then (some false) else ((impl_isPart.f k a1).bind fun t305 => (some t305))) else (some false))))))
mutual
def impl_FormRight.l0 : Nat → ByteArray → ByteArray → ByteArray → Int → Int → ByteArray → List (S65) → Option (Int)
  | 0, _, _, _, _, _, _, _ => none
  | k + 1, x0, x5, x8, x22, x23, x307000, x307001 => if x23 < x22 then (if 0 ≤ x23 then (if x23 < (x8.size : Int) then ((strings_IndexByte.f (⟨#[114, 110, 113, 122, 100, 116]⟩ : ByteArray) (bt x8 x23)).bind fun t310 => (if t310 < 0 then (some 0) else (impl_FormRight.l0 k x0 x5 x8 x22 (wrap64 (x23 + 1)) x307000 x307001))) else (none)) else (none)) else ((impl_longText.f k (([x0] : List ByteArray))).bind fun t314 => (if t314 = true then (some 0) else (impl_FormRight.l1 k x5 x8 x307001 (x307001.length : Int) 0 x307000 x307001)))
def impl_FormRight.l1 : Nat → ByteArray → ByteArray → List (S65) → Int → Int → ByteArray → List (S65) → Option (Int)
  | 0, _, _, _, _, _, _, _ => none
  | k + 1, x5, x8, x36, x37, x38, x307000, x307001 => if x38 < x37 then (if 0 ≤ x38 then (if x38 < (x36.length : Int) then (if x38 = (x8.size : Int) then (some x38) else (if (((rd_T65 x36 x38).f0).length : Int) = 1 then (if x38 < (x8.size : Int) then (if 0 < (((rd_T65 x36 x38).f0).length : Int) then ((impl_isOf.f k (bt x8 x38) (rdOf ByteArray.empty ((rd_T65 x36 x38).f0) 0)).bind fun t318 => (if t318 = true then (impl_FormRight.l1 k x5 x8 x36 x37 (wrap64 (x38 + 1)) x307000 x307001) else (some x38))) else (none)) else (none)) else (some x38))) else (none)) else (none)) else (if (x307001.length : Int) < (x5.size : Int) then (some (x307001.length : Int)) else (some (-1)))
end
def impl_FormRight.f (k : Nat) (a0 : ByteArray) (a1_0 : ByteArray) (l1_1 : List (S65)) : Option (Int) := (strings_Cut.f a0 (⟨#[63]⟩ : ByteArray)).bind fun bt307 => (if bt307.1.size + bt307.2.1.size ≤ 9223372036854775807 then (impl_FormRight.l0 k a0 bt307.1 (bt307.1 ++ bt307.2.1) ((bt307.1 ++ bt307.2.1).size : Int) 0 a1_0 l1_1) else (none))
mutual
def impl_TableCheck.l0 : Nat → List (S36) → Int → ByteArray → List (S57) → Int → Int → Option (Int × Int × Int)
  | 0, _, _, _, _, _, _ => none
  | k + 1, x1, x5, x6, x21, x22, x23 => if x23 < x22 then (if 0 ≤ x23 then (if x23 < (x21.length : Int) then (impl_TableCheck.l1 k x1 x5 0 x21 x22 x23 ((rd_T57 x21 x23).f0) ((rd_T57 x21 x23).f1) ((rd_T57 x21 x23).f2) ((rd_T57 x21 x23).f3)) else (none)) else (none)) else (if x5 = (x1.length : Int) then (some (0, 0, 0)) else (if 0 ≤ x5 then (if x5 < (x1.length : Int) then (if ((rd_T36 x1 x5).f0).toList = x6.toList then (some (x5, 0, 7)) else (some (x5, 0, 3))) else (none)) else (none)))
def impl_TableCheck.l1 : Nat → List (S36) → Int → Int → List (S57) → Int → Int → ByteArray → Int → Int → ByteArray → Option (Int × Int × Int)
  | 0, _, _, _, _, _, _, _, _, _, _ => none
  | k + 1, x1, x5, x9, x21, x22, x23, x327000, x327001, x327002, x327003 => if x9 < x327002 then (if x5 < (x1.length : Int) then (if 0 ≤ x5 then (impl_TableCheck.j2 k x1 x5 x9 x21 x22 x23 (((rd_T36 x1 x5).f0).toList == x327000.toList) x327000 x327001 x327002 x327003) else (none)) else (impl_TableCheck.j2 k x1 x5 x9 x21 x22 x23 false x327000 x327001 x327002 x327003)) else (impl_TableCheck.j2 k x1 x5 x9 x21 x22 x23 false x327000 x327001 x327002 x327003)
def impl_TableCheck.j2 : Nat → List (S36) → Int → Int → List (S57) → Int → Int → Bool → ByteArray → Int → Int → ByteArray → Option (Int × Int × Int)
  | 0, _, _, _, _, _, _, _, _, _, _, _ => none
  | k + 1, x1, x5, x9, x21, x22, x23, x46, x327000, x327001, x327002, x327003 => if x46 = true then (if 0 ≤ x5 then (if x5 < (x1.length : Int) then ((impl_FormRight.f k x327003 ((rd_T36 x1 x5).f0) ((rd_T36 x1 x5).f1)).bind fun t329 => (if t329 ≥ 0 then (some (x5, t329, 3)) else (impl_TableCheck.l1 k x1 (wrap64 (x5 + 1)) (wrap64 (x9 + 1)) x21 x22 x23 x327000 x327001 x327002 x327003))) else (none)) else (none)) else (if x9 < x327001 then (some (x5, 0, 4)) else (impl_TableCheck.l0 k x1 x5 x327000 x21 x22 (wrap64 (x23 + 1))))
end
def impl_TableCheck.f (k : Nat) (a0 : Int) (l1 : List (S36)) : Option (Int × Int × Int) := (impl_Segment.f l1).bind fun t320 => (if t320 = true then (some (0, 0, 2)) else ((impl_within.f a0 1 7).bind fun t321 => (if t321 = true then ((impl_tableOf.f k a0).bind fun t322 => (impl_TableCheck.l0 k l1 0 (⟨#[]⟩ : ByteArray) t322 (t322.length : Int) 0)) else (some (0, 0, 1)))))
def laws_eqTableOut.f (a0_0 : Int) (a0_1 : Int) (a0_2 : Int) (a1_0 : Int) (a1_1 : Int) (a1_2 : Int) : Option (Bool) := if a0_0 = a1_0 then (if a0_1 = a1_1 then (if a0_2 = a1_2 then (some true) else (some false)) else (some false)) else (some false)
def laws_eqStringS.l0 : Nat → List ByteArray → List ByteArray → Int → Option (Bool)
  | 0, _, _, _ => none
  | k + 1, x0, x1, x5 => if x5 < (x0.length : Int) then (if 0 ≤ x5 then (if x5 < (x1.length : Int) then (if (rdOf ByteArray.empty x0 x5).toList = (rdOf ByteArray.empty x1 x5).toList then (laws_eqStringS.l0 k x0 x1 (wrap64 (x5 + 1))) else (some false)) else (none)) else (none)) else (some true)
def laws_eqStringS.f (k : Nat) (l0 : List ByteArray) (l1 : List ByteArray) : Option (Bool) := if (l0.length : Int) = (l1.length : Int) then (laws_eqStringS.l0 k l0 l1 0) else (some false)
def laws_eqElement.f (k : Nat) (l0_0 : List ByteArray) (l1_0 : List ByteArray) : Option (Bool) := (laws_eqStringS.f k l0_0 l1_0).bind fun t337 => (if t337 = true then (some true) else (some false))
def laws_eqElementS.l0 : Nat → List (S65) → List (S65) → Int → Option (Bool)
  | 0, _, _, _ => none
  | k + 1, x0, x1, x5 => if x5 < (x0.length : Int) then (if 0 ≤ x5 then (if x5 < (x1.length : Int) then ((laws_eqElement.f k ((rd_T65 x0 x5).f0) ((rd_T65 x1 x5).f0)).bind fun t340 => (if t340 = true then (laws_eqElementS.l0 k x0 x1 (wrap64 (x5 + 1))) else (some false))) else (none)) else (none)) else (some true)
def laws_eqElementS.f (k : Nat) (l0 : List (S65)) (l1 : List (S65)) : Option (Bool) := if (l0.length : Int) = (l1.length : Int) then (laws_eqElementS.l0 k l0 l1 0) else (some false)
def laws_eqSegment.f (k : Nat) (a0_0 : ByteArray) (l0_1 : List (S65)) (a1_0 : ByteArray) (l1_1 : List (S65)) : Option (Bool) := if a0_0.toList = a1_0.toList then ((laws_eqElementS.f k l0_1 l1_1).bind fun t343 => (if t343 = true then (some true) else (some false))) else (some false)
def laws_eqSegmentS.l0 : Nat → List (S36) → List (S36) → Int → Option (Bool)
  | 0, _, _, _ => none
  | k + 1, x0, x1, x5 => if x5 < (x0.length : Int) then (if 0 ≤ x5 then (if x5 < (x1.length : Int) then ((laws_eqSegment.f k ((rd_T36 x0 x5).f0) ((rd_T36 x0 x5).f1) ((rd_T36 x1 x5).f0) ((rd_T36 x1 x5).f1)).bind fun t346 => (if t346 = true then (laws_eqSegmentS.l0 k x0 x1 (wrap64 (x5 + 1))) else (some false))) else (none)) else (none)) else (some true)
def laws_eqSegmentS.f (k : Nat) (l0 : List (S36)) (l1 : List (S36)) : Option (Bool) := if (l0.length : Int) = (l1.length : Int) then (laws_eqSegmentS.l0 k l0 l1 0) else (some false)
def laws_FnExactTableCheck.f (k : Nat) (a0 : Int) (l1 : List (S31)) : Option (Bool) := (laws_szSegmentS.f k l1 1048576).bind fun t347 => (if t347 < 0 then (some true) else ((laws_toSegmentS.f k l1).bind fun t348 => ((spec_TableCheck.f k a0 t348).bind fun bt351 => ((laws_toSegmentS.f k l1).bind fun t355 => ((impl_TableCheck.f k a0 t355).bind fun bt358 => ((laws_eqTableOut.f bt358.1 bt358.2.1 bt358.2.2 bt351.1 bt351.2.1 bt351.2.2).bind fun t362 => (if t362 = true then ((laws_toSegmentS.f k l1).bind fun t363 => ((laws_eqSegmentS.f k t355 t363).bind fun t366 => (if t366 = true then (some true) else (some false)))) else (some false))))))))
end Go.Proofs.YtjbdljhjplidmaaDoor.QF
namespace Go.Proofs.YtjbdljhjplidmaaDoor.QF
open Go.RowKit Go.Proofs.YtjbdljhjplidmaaDoorW.PrintWords Go.Proofs.YtjbdljhjplidmaaDoorW.PrintLast Go.Proofs.YtjbdljhjplidmaaDoorW.PrintMore
attribute [local go_sem] max2_int min2_int max_two min_two max_three min_three max_four min_four   -- for this text's walks alone
set_option linter.unusedVariables false
set_option linter.unusedSimpArgs false
set_option maxHeartbeats 8000000 in
set_option maxRecDepth 100000 in
theorem laws_szStringS.calls (k : Nat) (A0 : Option Addr) (c0 : Nat) (l0 : List ByteArray) (a1 : Int) (r : Int) (w : World) (hr0 : Kd.C Kd.string w A0 l0.length l0) (hc0 : l0.length ≤ c0) (h : laws_szStringS.f k l0 a1 = some r) :
    Calls Tryd.prog 73 #[.slice A0 l0.length c0, .int .i64 a1] w fun e w' => e = .returned (.int .i64 r) ∧ Drawn0 w w' := by
  have HR0 := Aside0.mk hr0; have HC0 := Aside0.mk hc0; clear hr0 hc0; have H : (if (wrap64 (a1 - (l0.length : Int))) < 0 then (some (-1)) else (laws_szStringS.l0 k l0 (wrap64 (a1 - (l0.length : Int))) 0)) = some r := h; clear h
  by_cases c3 : (wrap64 (a1 - (l0.length : Int))) < 0
  · rw [if_pos c3] at H; have c3b0 : decide ((wrap64 (a1 - (l0.length : Int))) < 0) = true := decide_eq_true c3; clear c3; obtain rfl := Option.some.inj H
    go_enter Tryd.func73, Tryd.ntmps73
    go_wp2
    go_ret
    exact ⟨fg, by repeat (first | exact Drawn0.refl _ | apply Drawn0.step)⟩
  · rw [if_neg c3] at H; have c3b0 : decide ((wrap64 (a1 - (l0.length : Int))) < 0) = false := decide_eq_false c3; clear c3; have H' := Aside0.mk H; clear H
    go_enter Tryd.func73, Tryd.ntmps73
    go_wp2
    go_loopg [1, 5] k (fun kq v1 v5 w' => ∃ (x1_1 : Int) (x5_1 : Int), v1 = .int .i64 x1_1 ∧ v5 = .int .i64 x5_1 ∧ Aside0 (laws_szStringS.l0 kq l0 x1_1 x5_1 = some r) ∧ Aside0 (kq ≤ k) ∧ Drawn0 w w')
    case atStart => exact ⟨(wrap64 (a1 - (l0.length : Int))), (0), fg, fg, H', ⟨Nat.le_refl _⟩, by repeat (first | exact Drawn0.refl _ | apply Drawn0.step)⟩
    case round =>
      clear H'
      try clear p2
      try clear c3
      try clear c3b0
      obtain ⟨x1_1, x5_1, rfl, rfl, HA, HK1, ⟨m1, rfl⟩⟩ := hrel
      cases gk with
      | zero => exact absurd HA.out (by simp [laws_szStringS.l0])
      | succ k1 =>
        have H := HA.out; clear HA; simp only [laws_szStringS.l0] at H
        by_cases c4 : x5_1 < (l0.length : Int)
        · rw [if_pos c4] at H; have c4b0 : decide (x5_1 < (l0.length : Int)) = true := decide_eq_true c4; clear c4
          by_cases c5 : 0 ≤ x5_1
          · rw [if_pos c5] at H; have c5b0 : decide (0 ≤ x5_1) = true := decide_eq_true c5; clear c5
            by_cases c6 : (wrap64 (x1_1 - ((rdOf ByteArray.empty l0 x5_1).size : Int))) < 0
            · rw [if_pos c6] at H; have c6b0 : decide ((wrap64 (x1_1 - ((rdOf ByteArray.empty l0 x5_1).size : Int))) < 0) = true := decide_eq_true c6; clear c6; obtain rfl := Option.some.inj H; have p101 : 0 ≤ (x5_1 : Int) := oa; have q101 : x5_1 < (l0.length : Int) := oa; obtain ⟨ad101, e101, hx101_0⟩ := Kd.at_string HR0.out x5_1 p101 q101
              cases e101
              replace p101 := eq_true p101; replace q101 := eq_true q101
              go_wp2
              go_ret
              exact ⟨fg, by repeat (first | exact Drawn0.refl _ | apply Drawn0.step)⟩
            · rw [if_neg c6] at H; have c6b0 : decide ((wrap64 (x1_1 - ((rdOf ByteArray.empty l0 x5_1).size : Int))) < 0) = false := decide_eq_false c6; clear c6; have H' := Aside0.mk H; clear H; have p101 : 0 ≤ (x5_1 : Int) := oa; have q101 : x5_1 < (l0.length : Int) := oa; obtain ⟨ad101, e101, hx101_0⟩ := Kd.at_string HR0.out x5_1 p101 q101
              cases e101
              replace p101 := eq_true p101; replace q101 := eq_true q101
              go_wp2
              go_roundg k1
              case measure => have := HK1.out; omega
              case rel => exact ⟨(wrap64 (x1_1 - ((rdOf ByteArray.empty l0 x5_1).size : Int))), (wrap64 (x5_1 + 1)), fg, fg, H', ⟨by have := HK1.out; omega⟩, by repeat (first | exact Drawn0.refl _ | apply Drawn0.step)⟩
          · rw [if_neg c5] at H
            exact absurd H (by simp)
        · rw [if_neg c4] at H; have c4b0 : decide (x5_1 < (l0.length : Int)) = false := decide_eq_false c4; clear c4; obtain rfl := Option.some.inj H
          go_wp2
          go_ret
          exact ⟨fg, by repeat (first | exact Drawn0.refl _ | apply Drawn0.step)⟩
set_option maxHeartbeats 8000000 in
set_option maxRecDepth 100000 in
theorem laws_szElement.calls (k : Nat) (A0_0 : Option Addr) (c0_0 : Nat) (l0_0 : List ByteArray) (a1 : Int) (r : Int) (w : World) (hr0_0 : Kd.C Kd.string w A0_0 l0_0.length l0_0) (hc0_0 : l0_0.length ≤ c0_0) (h : laws_szElement.f k l0_0 a1 = some r) :
    Calls Tryd.prog 49 #[.agg #[.slice A0_0 l0_0.length c0_0], .int .i64 a1] w fun e w' => e = .returned (.int .i64 r) ∧ Below w.heap.size w w' := by
  have hu91 := Tryd.underlying91; have HR0_0 := Aside0.mk hr0_0; have HC0_0 := Aside0.mk hc0_0; clear hr0_0 hc0_0; have HB := Aside0.mk (Below.refl w.heap.size w); have H : ((laws_szStringS.f k l0_0 a1).bind fun t103 => (if t103 < 0 then (some (-1)) else (some t103))) = some r := h; clear h; replace H := Option.bind_eq_some_iff.mp H; obtain ⟨t103, A30, H⟩ := H; replace H : (if t103 < 0 then (some (-1)) else (some t103)) = some r := H; have A3 := Aside0.mk A30; clear A30
  go_enter Tryd.func49, Tryd.ntmps49
  try go_wp2_with (first | ((with_reducible refine gate_dst (N := 2) rfl ?_); refine bx 2 (cs := #[.slice A0_0 l0_0.length c0_0]) (t := 91) ?_; intro gb102 hg w4 hbox hb; have BK102 := Aside0.mk (hbox); have GW102 := Aside0.mk ((gs hg (bs HB))); have GE102 := Aside0.mk ((gs hg (bs HB))); replace HB := Aside0.mk (below_step (bs HB) hb); clear hb hbox hg; obtain ⟨hcz5_0, hfz5_0⟩ := cf1 BK102))
  go_at_call 73; (with_reducible refine (laws_szStringS.calls k _ _ l0_0 a1 t103 _ (Kd.C_below HR0_0.out (bs HB)) HC0_0.out A3.out).mono ?_); rintro e w' ⟨rfl, ⟨nd, rfl⟩⟩
  by_cases c6 : t103 < 0
  · rw [if_pos c6] at H; have c6b0 : decide (t103 < 0) = true := decide_eq_true c6; clear c6; obtain rfl := Option.some.inj H
    go_wp2
    go_ret
    exact ⟨ff, bs HB⟩
  · rw [if_neg c6] at H; have c6b0 : decide (t103 < 0) = false := decide_eq_false c6; clear c6; obtain rfl := Option.some.inj H
    go_wp2
    go_ret
    exact ⟨ff, bs HB⟩
set_option maxHeartbeats 8000000 in
set_option maxRecDepth 100000 in
theorem laws_szElementS.calls (k : Nat) (A0 : Option Addr) (c0 : Nat) (l0 : List (S91)) (a1 : Int) (r : Int) (w : World) (hr0 : Kd.C k91 w A0 l0.length l0) (hc0 : l0.length ≤ c0) (h : laws_szElementS.f k l0 a1 = some r) :
    Calls Tryd.prog 29 #[.slice A0 l0.length c0, .int .i64 a1] w fun e w' => e = .returned (.int .i64 r) ∧ Below w.heap.size w w' := by
  have hu91 := Tryd.underlying91; have HR0 := Aside0.mk hr0; have HC0 := Aside0.mk hc0; clear hr0 hc0; have HB := Aside0.mk (Below.refl w.heap.size w); have H : (if (wrap64 (a1 - (l0.length : Int))) < 0 then (some (-1)) else (laws_szElementS.l0 k l0 (wrap64 (a1 - (l0.length : Int))) 0)) = some r := h; clear h
  by_cases c3 : (wrap64 (a1 - (l0.length : Int))) < 0
  · rw [if_pos c3] at H; have c3b0 : decide ((wrap64 (a1 - (l0.length : Int))) < 0) = true := decide_eq_true c3; clear c3; obtain rfl := Option.some.inj H
    go_enter Tryd.func29, Tryd.ntmps29
    go_wp2
    go_ret
    exact ⟨ff, bs HB⟩
  · rw [if_neg c3] at H; have c3b0 : decide ((wrap64 (a1 - (l0.length : Int))) < 0) = false := decide_eq_false c3; clear c3; have H' := Aside0.mk H; clear H
    go_enter Tryd.func29, Tryd.ntmps29
    go_wp2
    go_loopg [1, 5] k (fun kq v1 v5 w' => ∃ (x1_1 : Int) (x5_1 : Int), v1 = .int .i64 x1_1 ∧ v5 = .int .i64 x5_1 ∧ Aside0 (laws_szElementS.l0 kq l0 x1_1 x5_1 = some r) ∧ Aside0 (kq ≤ k) ∧ Aside0 (Below w.heap.size w w'))
    case atStart => exact ⟨(wrap64 (a1 - (l0.length : Int))), (0), fg, fg, H', ⟨Nat.le_refl _⟩, ⟨bs HB⟩⟩
    case round =>
      clear H'
      try clear c2
      try clear p2
      try clear c3
      try clear c3b0
      obtain ⟨x1_1, x5_1, rfl, rfl, HA, HK1, HB⟩ := hrel
      cases gk with
      | zero => exact absurd HA.out (by simp [laws_szElementS.l0])
      | succ k1 =>
        have H := HA.out; clear HA; simp only [laws_szElementS.l0] at H
        by_cases c4 : x5_1 < (l0.length : Int)
        · rw [if_pos c4] at H; have c4b0 : decide (x5_1 < (l0.length : Int)) = true := decide_eq_true c4; clear c4
          by_cases c5 : 0 ≤ x5_1
          · rw [if_pos c5] at H; have c5b0 : decide (0 ≤ x5_1) = true := decide_eq_true c5; clear c5; replace H := Option.bind_eq_some_iff.mp H; obtain ⟨t105, A60, H⟩ := H; replace H : (if t105 < 0 then (some (-1)) else (laws_szElementS.l0 k1 l0 t105 (wrap64 (x5_1 + 1)))) = some r := H; have A6 := Aside0.mk A60; clear A60; have p104 : 0 ≤ (x5_1 : Int) := oa; have q104 : x5_1 < (l0.length : Int) := oa; obtain ⟨ad104, A104_0, c104_0, e104, hx104_0, hl104_0, hi104_0⟩ := at_T91 HR0.out x5_1 p104 q104
            cases e104
            replace hx104_0 := cb HB hx104_0; have HR104_0 := Aside0.mk hi104_0; have HC104_0 := Aside0.mk hl104_0; clear hi104_0 hl104_0; replace p104 := eq_true p104; replace q104 := eq_true q104
            try go_wp2_with (fail)
            go_at_call 49; (with_reducible refine (laws_szElement.calls k1 _ _ ((rd_T91 l0 x5_1).f0) x1_1 t105 _ (Kd.C_below HR104_0.out (bs HB)) HC104_0.out A6.out).mono ?_); rintro e w7 ⟨rfl, hb⟩; replace HB := Aside0.mk (below_step (bs HB) hb); (try clear hb); (try clear hb2); (try clear hk); (try clear hi)
            by_cases c8 : t105 < 0
            · rw [if_pos c8] at H; have c8b0 : decide (t105 < 0) = true := decide_eq_true c8; clear c8; obtain rfl := Option.some.inj H
              go_wp2
              go_ret
              exact ⟨ff, bs HB⟩
            · rw [if_neg c8] at H; have c8b0 : decide (t105 < 0) = false := decide_eq_false c8; clear c8; have H' := Aside0.mk H; clear H
              go_wp2
              go_roundg k1
              case measure => have := HK1.out; omega
              case rel => exact ⟨(t105), (wrap64 (x5_1 + 1)), fg, fg, H', ⟨by have := HK1.out; omega⟩, ⟨bs HB⟩⟩
          · rw [if_neg c5] at H
            exact absurd H (by simp)
        · rw [if_neg c4] at H; have c4b0 : decide (x5_1 < (l0.length : Int)) = false := decide_eq_false c4; clear c4; obtain rfl := Option.some.inj H
          go_wp2
          go_ret
          exact ⟨ff, bs HB⟩
end Go.Proofs.YtjbdljhjplidmaaDoor.QF
namespace Go.Proofs.YtjbdljhjplidmaaDoor.QF
open Go.RowKit Go.Proofs.YtjbdljhjplidmaaDoorW.PrintWords Go.Proofs.YtjbdljhjplidmaaDoorW.PrintLast Go.Proofs.YtjbdljhjplidmaaDoorW.PrintMore
attribute [local go_sem] max2_int min2_int max_two min_two max_three min_three max_four min_four   -- for this text's walks alone
set_option linter.unusedVariables false
set_option linter.unusedSimpArgs false
set_option maxHeartbeats 8000000 in
set_option maxRecDepth 100000 in
theorem laws_szSegment.calls (k : Nat) (a0_0 : ByteArray) (A0_1 : Option Addr) (c0_1 : Nat) (l0_1 : List (S91)) (a1 : Int) (r : Int) (w : World) (hr0_1 : Kd.C k91 w A0_1 l0_1.length l0_1) (hc0_1 : l0_1.length ≤ c0_1) (h : laws_szSegment.f k a0_0 l0_1 a1 = some r) :
    Calls Tryd.prog 11 #[.agg #[.string a0_0, .slice A0_1 l0_1.length c0_1], .int .i64 a1] w fun e w' => e = .returned (.int .i64 r) ∧ Below w.heap.size w w' := by
  have hu31 := Tryd.underlying31; have HR0_1 := Aside0.mk hr0_1; have HC0_1 := Aside0.mk hc0_1; clear hr0_1 hc0_1; have HB := Aside0.mk (Below.refl w.heap.size w); have H : (if (wrap64 (a1 - (a0_0.size : Int))) < 0 then (some (-1)) else ((laws_szElementS.f k l0_1 (wrap64 (a1 - (a0_0.size : Int)))).bind fun t107 => (if t107 < 0 then (some (-1)) else (some t107)))) = some r := h; clear h
  by_cases c3 : (wrap64 (a1 - (a0_0.size : Int))) < 0
  · rw [if_pos c3] at H; have c3b0 : decide ((wrap64 (a1 - (a0_0.size : Int))) < 0) = true := decide_eq_true c3; clear c3; obtain rfl := Option.some.inj H
    go_enter Tryd.func11, Tryd.ntmps11
    go_wp2_with (first | ((with_reducible refine gate_dst (N := 2) rfl ?_); refine bx 2 (cs := #[.string a0_0, .slice A0_1 l0_1.length c0_1]) (t := 31) ?_; intro gb106 hg w4 hbox hb; have BK106 := Aside0.mk (hbox); have GW106 := Aside0.mk ((gs hg (bs HB))); have GE106 := Aside0.mk ((gs hg (bs HB))); replace HB := Aside0.mk (below_step (bs HB) hb); clear hb hbox hg; obtain ⟨hcz5_0, hcz5_1, hfz5_0, hfz5_1⟩ := cf2 BK106))
    go_ret
    exact ⟨ff, bs HB⟩
  · rw [if_neg c3] at H; have c3b0 : decide ((wrap64 (a1 - (a0_0.size : Int))) < 0) = false := decide_eq_false c3; clear c3; replace H := Option.bind_eq_some_iff.mp H; obtain ⟨t107, A60, H⟩ := H; replace H : (if t107 < 0 then (some (-1)) else (some t107)) = some r := H; have A6 := Aside0.mk A60; clear A60
    go_enter Tryd.func11, Tryd.ntmps11
    try go_wp2_with (first | ((with_reducible refine gate_dst (N := 2) rfl ?_); refine bx 2 (cs := #[.string a0_0, .slice A0_1 l0_1.length c0_1]) (t := 31) ?_; intro gb106 hg w7 hbox hb; have BK106 := Aside0.mk (hbox); have GW106 := Aside0.mk ((gs hg (bs HB))); have GE106 := Aside0.mk ((gs hg (bs HB))); replace HB := Aside0.mk (below_step (bs HB) hb); clear hb hbox hg; obtain ⟨hcz8_0, hcz8_1, hfz8_0, hfz8_1⟩ := cf2 BK106))
    go_at_call 29; (with_reducible refine (laws_szElementS.calls k _ _ l0_1 (wrap64 (a1 - (a0_0.size : Int))) t107 _ (Kd.C_below HR0_1.out (bs HB)) HC0_1.out A6.out).mono ?_); rintro e w9 ⟨rfl, hb⟩; replace BK106 := Aside0.mk (blk_below (ks BK106) hb); replace HB := Aside0.mk (below_step (bs HB) hb); (try clear hb); (try clear hb2); (try clear hk); (try clear hi)
    by_cases c10 : t107 < 0
    · rw [if_pos c10] at H; have c10b0 : decide (t107 < 0) = true := decide_eq_true c10; clear c10; obtain rfl := Option.some.inj H
      go_wp2
      go_ret
      exact ⟨ff, bs HB⟩
    · rw [if_neg c10] at H; have c10b0 : decide (t107 < 0) = false := decide_eq_false c10; clear c10; obtain rfl := Option.some.inj H
      go_wp2
      go_ret
      exact ⟨ff, bs HB⟩
set_option maxHeartbeats 8000000 in
set_option maxRecDepth 100000 in
theorem laws_szSegmentS.calls (k : Nat) (A0 : Option Addr) (c0 : Nat) (l0 : List (S31)) (a1 : Int) (r : Int) (w : World) (hr0 : Kd.C k31 w A0 l0.length l0) (hc0 : l0.length ≤ c0) (h : laws_szSegmentS.f k l0 a1 = some r) :
    Calls Tryd.prog 16 #[.slice A0 l0.length c0, .int .i64 a1] w fun e w' => e = .returned (.int .i64 r) ∧ Below w.heap.size w w' := by
  have hu31 := Tryd.underlying31; have HR0 := Aside0.mk hr0; have HC0 := Aside0.mk hc0; clear hr0 hc0; have HB := Aside0.mk (Below.refl w.heap.size w); have H : (if (wrap64 (a1 - (l0.length : Int))) < 0 then (some (-1)) else (laws_szSegmentS.l0 k l0 (wrap64 (a1 - (l0.length : Int))) 0)) = some r := h; clear h
  by_cases c3 : (wrap64 (a1 - (l0.length : Int))) < 0
  · rw [if_pos c3] at H; have c3b0 : decide ((wrap64 (a1 - (l0.length : Int))) < 0) = true := decide_eq_true c3; clear c3; obtain rfl := Option.some.inj H
    go_enter Tryd.func16, Tryd.ntmps16
    go_wp2
    go_ret
    exact ⟨ff, bs HB⟩
  · rw [if_neg c3] at H; have c3b0 : decide ((wrap64 (a1 - (l0.length : Int))) < 0) = false := decide_eq_false c3; clear c3; have H' := Aside0.mk H; clear H
    go_enter Tryd.func16, Tryd.ntmps16
    go_wp2
    go_loopg [1, 5] k (fun kq v1 v5 w' => ∃ (x1_1 : Int) (x5_1 : Int), v1 = .int .i64 x1_1 ∧ v5 = .int .i64 x5_1 ∧ Aside0 (laws_szSegmentS.l0 kq l0 x1_1 x5_1 = some r) ∧ Aside0 (kq ≤ k) ∧ Aside0 (Below w.heap.size w w'))
    case atStart => exact ⟨(wrap64 (a1 - (l0.length : Int))), (0), fg, fg, H', ⟨Nat.le_refl _⟩, ⟨bs HB⟩⟩
    case round =>
      clear H'
      try clear c1
      try clear p2
      try clear c3
      try clear c3b0
      obtain ⟨x1_1, x5_1, rfl, rfl, HA, HK1, HB⟩ := hrel
      cases gk with
      | zero => exact absurd HA.out (by simp [laws_szSegmentS.l0])
      | succ k1 =>
        have H := HA.out; clear HA; simp only [laws_szSegmentS.l0] at H
        by_cases c4 : x5_1 < (l0.length : Int)
        · rw [if_pos c4] at H; have c4b0 : decide (x5_1 < (l0.length : Int)) = true := decide_eq_true c4; clear c4
          by_cases c5 : 0 ≤ x5_1
          · rw [if_pos c5] at H; have c5b0 : decide (0 ≤ x5_1) = true := decide_eq_true c5; clear c5; replace H := Option.bind_eq_some_iff.mp H; obtain ⟨t109, A60, H⟩ := H; replace H : (if t109 < 0 then (some (-1)) else (laws_szSegmentS.l0 k1 l0 t109 (wrap64 (x5_1 + 1)))) = some r := H; have A6 := Aside0.mk A60; clear A60; have p108 : 0 ≤ (x5_1 : Int) := oa; have q108 : x5_1 < (l0.length : Int) := oa; obtain ⟨ad108, A108_1, c108_1, e108, hx108_0, hx108_1, hl108_1, hi108_1⟩ := at_T31 HR0.out x5_1 p108 q108
            cases e108
            replace hx108_0 := cb HB hx108_0; replace hx108_1 := cb HB hx108_1; have HR108_1 := Aside0.mk hi108_1; have HC108_1 := Aside0.mk hl108_1; clear hi108_1 hl108_1; replace p108 := eq_true p108; replace q108 := eq_true q108
            try go_wp2_with (fail)
            go_at_call 11; (with_reducible refine (laws_szSegment.calls k1 ((rd_T31 l0 x5_1).f0) _ _ ((rd_T31 l0 x5_1).f1) x1_1 t109 _ (Kd.C_below HR108_1.out (bs HB)) HC108_1.out A6.out).mono ?_); rintro e w7 ⟨rfl, hb⟩; replace HB := Aside0.mk (below_step (bs HB) hb); (try clear hb); (try clear hb2); (try clear hk); (try clear hi)
            by_cases c8 : t109 < 0
            · rw [if_pos c8] at H; have c8b0 : decide (t109 < 0) = true := decide_eq_true c8; clear c8; obtain rfl := Option.some.inj H
              go_wp2
              go_ret
              exact ⟨ff, bs HB⟩
            · rw [if_neg c8] at H; have c8b0 : decide (t109 < 0) = false := decide_eq_false c8; clear c8; have H' := Aside0.mk H; clear H
              go_wp2
              go_roundg k1
              case measure => have := HK1.out; omega
              case rel => exact ⟨(t109), (wrap64 (x5_1 + 1)), fg, fg, H', ⟨by have := HK1.out; omega⟩, ⟨bs HB⟩⟩
          · rw [if_neg c5] at H
            exact absurd H (by simp)
        · rw [if_neg c4] at H; have c4b0 : decide (x5_1 < (l0.length : Int)) = false := decide_eq_false c4; clear c4; obtain rfl := Option.some.inj H
          go_wp2
          go_ret
          exact ⟨ff, bs HB⟩
end Go.Proofs.YtjbdljhjplidmaaDoor.QF
