-- Merged by a program of this session (wip/tool/pack.py) out of its own texts for this claim.
import Derived.Test.YtogkcllenfkdmaaGreatDoorKFnExactPaperRight0
import Derived.Test.YtogkcllenfkdmaaGreatDoorKFnExactPaperRight1
import Derived.Test.YtogkcllenfkdmaaGreatDoorKFnExactPaperRight2
import Derived.Test.YtogkcllenfkdmaaGreatDoorKFnExactPaperRight3
namespace Go.Proofs.YtogkcllenfkdmaaGreatDoor.QR
open Go.RowKit Go.Proofs.YtogkcllenfkdmaaGreatDoorW.PrintWords Go.Proofs.YtogkcllenfkdmaaGreatDoorW.PrintLast Go.Proofs.YtogkcllenfkdmaaGreatDoorW.PrintMore
attribute [local go_sem] max2_int min2_int max_two min_two max_three min_three max_four min_four   -- for this text's walks alone
set_option linter.unusedVariables false
set_option linter.unusedSimpArgs false
def laws_szStringS.l0:Nat→List ByteArray→Int→Int→Option (Int)
 | 0,_,_,_=>none
 | k+1,x0,x1,x5=>if x5<(x0.length:Int) then (if 0≤x5 then (if (wrap64 (x1 - ((rdOf ByteArray.empty x0 x5).size:Int)))<0 then (some (-1)) else (laws_szStringS.l0 k x0 (wrap64 (x1 - ((rdOf ByteArray.empty x0 x5).size:Int))) (wrap64 (x5+1)))) else (none)) else (some x1)
def laws_szStringS.f (k:Nat) (l0:List ByteArray) (a1:Int):Option (Int):=if (wrap64 (a1 - (l0.length:Int)))<0 then (some (-1)) else (laws_szStringS.l0 k l0 (wrap64 (a1 - (l0.length:Int))) 0)
def laws_szLine.f (a0_0:Int) (a0_1:ByteArray) (a0_2:Int) (a0_3:Int) (a0_4:ByteArray) (a1:Int):Option (Int):=if (wrap64 (a1 - (a0_1.size:Int)))<0 then (some (-1)) else (if (wrap64 ((wrap64 (a1 - (a0_1.size:Int))) - (a0_4.size:Int)))<0 then (some (-1)) else (some (wrap64 ((wrap64 (a1 - (a0_1.size:Int))) - (a0_4.size:Int)))))
def laws_szLineS.l0:Nat→List (S98)→Int→Int→Option (Int)
 | 0,_,_,_=>none
 | k+1,x0,x1,x5=>if x5<(x0.length:Int) then (if 0≤x5 then ((laws_szLine.f ((rd_T98 x0 x5).f0) ((rd_T98 x0 x5).f1) ((rd_T98 x0 x5).f2) ((rd_T98 x0 x5).f3) ((rd_T98 x0 x5).f4) x1).bind fun t104=>(if t104<0 then (some (-1)) else (laws_szLineS.l0 k x0 t104 (wrap64 (x5+1))))) else (none)) else (some x1)
def laws_szLineS.f (k:Nat) (l0:List (S98)) (a1:Int):Option (Int):=if (wrap64 (a1 - (l0.length:Int)))<0 then (some (-1)) else (laws_szLineS.l0 k l0 (wrap64 (a1 - (l0.length:Int))) 0)
def laws_szPaper.f (k:Nat) (a0_0:Int) (a0_1:ByteArray) (a0_2:ByteArray) (a0_3:Int) (l0_4:List ByteArray) (l0_5:List (S98)) (a1:Int):Option (Int):=if (wrap64 (a1 - (a0_1.size:Int)))<0 then (some (-1)) else (if (wrap64 ((wrap64 (a1 - (a0_1.size:Int))) - (a0_2.size:Int)))<0 then (some (-1)) else ((laws_szStringS.f k l0_4 (wrap64 ((wrap64 (a1 - (a0_1.size:Int))) - (a0_2.size:Int)))).bind fun t106=>(if t106<0 then (some (-1)) else ((laws_szLineS.f k l0_5 t106).bind fun t107=>(if t107<0 then (some (-1)) else (some t107))))))
def laws_toStringS.l0:Nat→List ByteArray→List ByteArray→Int→Option (List ByteArray)
 | 0,_,_,_=>none
 | k+1,x0,x3,x4=>if x4<(x0.length:Int) then (if 0≤x4 then (if x4<(x3.length:Int) then (laws_toStringS.l0 k x0 (x3.set (x4:Int).toNat (rdOf ByteArray.empty x0 x4)) (wrap64 (x4+1))) else (none)) else (none)) else (some x3)
def laws_toStringS.f (k:Nat) (l0:List ByteArray):Option (List ByteArray):=if 0≤(l0.length:Int) then (if ((l0.length:Int):Int).toNat≤17592186044416 then (laws_toStringS.l0 k l0 (List.replicate ((l0.length:Int):Int).toNat (⟨#[]⟩:ByteArray)) 0) else (none)) else (none)
def laws_toLine.f (a0_0:Int) (a0_1:ByteArray) (a0_2:Int) (a0_3:Int) (a0_4:ByteArray):Option (Int × ByteArray × Int × Int × ByteArray):=some (a0_0,a0_1,a0_2,a0_3,a0_4)
def laws_toLineS.l0:Nat→List (S98)→List (S71)→Int→Option ((List (S71)))
 | 0,_,_,_=>none
 | k+1,x0,x3,x4=>if x4<(x0.length:Int) then (if 0≤x4 then ((laws_toLine.f ((rd_T98 x0 x4).f0) ((rd_T98 x0 x4).f1) ((rd_T98 x0 x4).f2) ((rd_T98 x0 x4).f3) ((rd_T98 x0 x4).f4)).bind fun bt120=>(if x4<(x3.length:Int) then (laws_toLineS.l0 k x0 (x3.set (x4:Int).toNat (⟨bt120.1,bt120.2.1,bt120.2.2.1,bt120.2.2.2.1,bt120.2.2.2.2⟩:S71)) (wrap64 (x4+1))) else (none))) else (none)) else (some x3)
def laws_toLineS.f (k:Nat) (l0:List (S98)):Option ((List (S71))):=if 0≤(l0.length:Int) then (if ((l0.length:Int):Int).toNat≤5026338869833 then (laws_toLineS.l0 k l0 (List.replicate ((l0.length:Int):Int).toNat z71) 0) else (none)) else (none)
def laws_toPaper.f (k:Nat) (a0_0:Int) (a0_1:ByteArray) (a0_2:ByteArray) (a0_3:Int) (l0_4:List ByteArray) (l0_5:List (S98)):Option (Int × ByteArray × ByteArray × Int × List ByteArray × (List (S71))):=(laws_toStringS.f k l0_4).bind fun t129=>((laws_toLineS.f k l0_5).bind fun t132=>(some (a0_0,a0_1,a0_2,a0_3,t129,t132)))
def spec_l01Dec.l0:Nat→Int→Bool→ByteArray→Option (ByteArray)
 | 0,_,_,_=>none
 | k+1,x0,x3,x4=>if x0=0 then (if x3=true then (if 1+x4.size≤9223372036854775807 then (some ((⟨#[45]⟩:ByteArray)++x4)) else (none)) else (some x4)) else (if (Int.tmod x0 10)<0 then ((some (([(wrap64 (48+(wrap64 (-(Int.tmod x0 10))))) % 256]:List Int):List Int)).bind fun y135=>(if (strOfNums y135).size+x4.size≤9223372036854775807 then (spec_l01Dec.l0 k (wrap64 (Int.tdiv x0 10)) x3 ((strOfNums y135)++x4)) else (none))) else ((some (([(wrap64 (48+(Int.tmod x0 10))) % 256]:List Int):List Int)).bind fun y138=>(if (strOfNums y138).size+x4.size≤9223372036854775807 then (spec_l01Dec.l0 k (wrap64 (Int.tdiv x0 10)) x3 ((strOfNums y138)++x4)) else (none))))
def spec_l01Dec.f (k:Nat) (a0:Int):Option (ByteArray):=if a0=0 then (some (⟨#[48]⟩:ByteArray)) else (spec_l01Dec.l0 k a0 (decide (a0<0)) (⟨#[]⟩:ByteArray))
def spec_l05Has.f (a0:Int):Option (Bool):=if a0=2 then (some true) else (if a0=3 then (some true) else (some (a0 == 4)))
def spec_l03Seg.l0:Nat→List ByteArray→Int→ByteArray→List (S103)→Option (ByteArray × (List (S103)))
 | 0,_,_,_,_=>none
 | k+1,x1,x6,x143000,x143001=>if x6<(x1.length:Int) then (if 0≤x6 then (if x143001.length<5864062014805 then (spec_l03Seg.l0 k x1 (wrap64 (x6+1)) x143000 (x143001++[(⟨(([rdOf ByteArray.empty x1 x6]:List ByteArray))⟩:S103)])) else (none)) else (none)) else (some (x143000,x143001))
def spec_l03Seg.f (k:Nat) (a0:ByteArray) (l1:List ByteArray):Option (ByteArray × (List (S103))):=spec_l03Seg.l0 k l1 0 a0 ([]:List (S103))
mutual
def spec_l05Line.j0:Nat→Int→List ByteArray→Int→ByteArray→Int→Int→ByteArray→Option (ByteArray × (List (S103)))
 | 0,_,_,_,_,_,_,_=>none
 | k+1,x0,x5,x151000,x151001,x151002,x151003,x151004=>if x151004.toList=([]:List UInt8) then (spec_l05Line.j1 k x0 x5) else (if x5.length<8796093022208 then (spec_l05Line.j1 k x0 (x5++[x151004])) else (none))
def spec_l05Line.j1:Nat→Int→List ByteArray→Option (ByteArray × (List (S103)))
 | 0,_,_=>none
 | k+1,x0,x5=>if x0=6 then ((spec_l03Seg.f k (⟨#[73,84,77]⟩:ByteArray) x5).bind fun bt209=>(some (bt209.1,bt209.2))) else ((spec_l03Seg.f k (⟨#[76,73,78]⟩:ByteArray) x5).bind fun bt213=>(some (bt213.1,bt213.2)))
end
def spec_l05Line.f (k:Nat) (a0:Int) (a1_0:Int) (a1_1:ByteArray) (a1_2:Int) (a1_3:Int) (a1_4:ByteArray):Option (ByteArray × (List (S103))):=if a0=1 then ((spec_l01Dec.f k a1_0).bind fun t155=>((spec_l01Dec.f k a1_2).bind fun t156=>((some (([t155,a1_1,t156]:List ByteArray):List ByteArray)).bind fun y157=>(if a1_3=0 then ((spec_l03Seg.f k (⟨#[76,73,78]⟩:ByteArray) y157).bind fun bt160=>(some (bt160.1,bt160.2))) else ((spec_l01Dec.f k a1_3).bind fun t164=>(if y157.length<8796093022208 then ((spec_l03Seg.f k (⟨#[76,73,78]⟩:ByteArray) (y157++[t164])).bind fun bt168=>(some (bt168.1,bt168.2))) else (none))))))) else (if a0=5 then ((spec_l01Dec.f k a1_2).bind fun t172=>((spec_l03Seg.f k (⟨#[73,84,77]⟩:ByteArray) (([a1_1,t172]:List ByteArray))).bind fun bt176=>(some (bt176.1,bt176.2)))) else (if a0=7 then ((spec_l01Dec.f k a1_0).bind fun t180=>((spec_l01Dec.f k a1_2).bind fun t181=>((some (([t180,t181]:List ByteArray):List ByteArray)).bind fun y182=>(if a1_3=0 then ((spec_l03Seg.f k (⟨#[65,67,75]⟩:ByteArray) y182).bind fun bt185=>(some (bt185.1,bt185.2))) else ((spec_l01Dec.f k a1_3).bind fun t189=>(if y182.length<8796093022208 then ((spec_l03Seg.f k (⟨#[65,67,75]⟩:ByteArray) (y182++[t189])).bind fun bt193=>(some (bt193.1,bt193.2))) else (none))))))) else (if a0=6 then ((spec_l01Dec.f k a1_2).bind fun t197=>(spec_l05Line.j0 k a0 (([a1_1,t197]:List ByteArray)) a1_0 a1_1 a1_2 a1_3 a1_4)) else ((spec_l01Dec.f k a1_0).bind fun t201=>((spec_l01Dec.f k a1_2).bind fun t202=>(spec_l05Line.j0 k a0 (([t201,t202]:List ByteArray)) a1_0 a1_1 a1_2 a1_3 a1_4))))))
mutual
def spec_l05Body.j0:Nat→List ByteArray→Int→ByteArray→ByteArray→Int→List ByteArray→List (S71)→Option ((List (S62)))
 | 0,_,_,_,_,_,_,_=>none
 | k+1,x3,x218000,x218001,x218002,x218003,x218004,x218005=>(spec_l03Seg.f k (⟨#[68,79,67]⟩:ByteArray) x3).bind fun bt227=>(spec_l05Body.l0 k (([(⟨bt227.1,bt227.2⟩:S62)]:List (S62))) 0 x218000 x218001 x218002 x218003 x218004 x218005)
def spec_l05Body.l0:Nat→List (S62)→Int→Int→ByteArray→ByteArray→Int→List ByteArray→List (S71)→Option ((List (S62)))
 | 0,_,_,_,_,_,_,_,_=>none
 | k+1,x4,x5,x218000,x218001,x218002,x218003,x218004,x218005=>if x5<(x218004.length:Int) then (if 0≤x5 then ((spec_l03Seg.f k (⟨#[78,79,84]⟩:ByteArray) (([rdOf ByteArray.empty x218004 x5]:List ByteArray))).bind fun bt238=>(if x4.length<3518437208883 then (spec_l05Body.l0 k (x4++[(⟨bt238.1,bt238.2⟩:S62)]) (wrap64 (x5+1)) x218000 x218001 x218002 x218003 x218004 x218005) else (none))) else (none)) else (spec_l05Body.l1 k x4 0 x218000 x218001 x218002 x218003 x218004 x218005)
def spec_l05Body.l1:Nat→List (S62)→Int→Int→ByteArray→ByteArray→Int→List ByteArray→List (S71)→Option ((List (S62)))
 | 0,_,_,_,_,_,_,_,_=>none
 | k+1,x4,x6,x218000,x218001,x218002,x218003,x218004,x218005=>if x6<(x218005.length:Int) then (if 0≤x6 then ((spec_l05Line.f k x218000 ((rd_T71 x218005 x6).f0) ((rd_T71 x218005 x6).f1) ((rd_T71 x218005 x6).f2) ((rd_T71 x218005 x6).f3) ((rd_T71 x218005 x6).f4)).bind fun bt246=>(if x4.length<3518437208883 then (spec_l05Body.l1 k (x4++[(⟨bt246.1,bt246.2⟩:S62)]) (wrap64 (x6+1)) x218000 x218001 x218002 x218003 x218004 x218005) else (none))) else (none)) else (some x4)
end
def spec_l05Body.f (k:Nat) (a0_0:Int) (a0_1:ByteArray) (a0_2:ByteArray) (a0_3:Int) (l0_4:List ByteArray) (l0_5:List (S71)):Option ((List (S62))):=(spec_l01Dec.f k a0_3).bind fun t218=>((spec_l05Has.f a0_0).bind fun t222=>(if t222=true then ((spec_l01Dec.f k a0_3).bind fun t223=>(spec_l05Body.j0 k (([a0_1,a0_2,t223]:List ByteArray)) a0_0 a0_1 a0_2 a0_3 l0_4 l0_5)) else (spec_l05Body.j0 k (([a0_1,t218]:List ByteArray)) a0_0 a0_1 a0_2 a0_3 l0_4 l0_5)))
def spec_l02Tag.l0:Nat→ByteArray→Int→Option (Bool)
 | 0,_,_=>none
 | k+1,x0,x3=>if x3<3 then (if 0≤x3 then (if x3<(x0.size:Int) then (if (bt x0 x3)<65 then (some false) else (if (bt x0 x3)>90 then (some false) else (spec_l02Tag.l0 k x0 (wrap64 (x3+1))))) else (none)) else (none)) else (some true)
def spec_l02Tag.f (k:Nat) (a0:ByteArray):Option (Bool):=if (a0.size:Int)=3 then (spec_l02Tag.l0 k a0 0) else (some false)
def spec_l02Part.l0:Nat→ByteArray→Int→Option (Bool)
 | 0,_,_=>none
 | k+1,x0,x3=>if x3<(x0.size:Int) then (if 0≤x3 then (if (bt x0 x3)<32 then (some false) else (if (bt x0 x3)>126 then (some false) else (spec_l02Part.l0 k x0 (wrap64 (x3+1))))) else (none)) else (some true)
def spec_l02Part.f (k:Nat) (a0:ByteArray):Option (Bool):=if (a0.size:Int)>40 then (some false) else (spec_l02Part.l0 k a0 0)
def spec_l02Empty.f (l0_0:List ByteArray):Option (Bool):=if (l0_0.length:Int)=1 then (if 0<(l0_0.length:Int) then (some ((rdOf ByteArray.empty l0_0 0).toList == ([]:List UInt8))) else (none)) else (some false)
mutual
def spec_SegmentRight.j0:Nat→Bool→ByteArray→List (S103)→Option (Bool)
 | 0,_,_,_=>none
 | k+1,x15,x256000,x256001=>if x15=true then (some false) else (spec_SegmentRight.l0 k 0 x256000 x256001)
def spec_SegmentRight.l0:Nat→Int→ByteArray→List (S103)→Option (Bool)
 | 0,_,_,_=>none
 | k+1,x3,x256000,x256001=>if x3<(x256001.length:Int) then (if 0≤x3 then (if (((rd_T103 x256001 x3).f0).length:Int)<1 then (spec_SegmentRight.j2 k x3 ((rd_T103 x256001 x3).f0) true x256000 x256001) else (if (((rd_T103 x256001 x3).f0).length:Int)>4 then (spec_SegmentRight.j2 k x3 ((rd_T103 x256001 x3).f0) true x256000 x256001) else (if (((rd_T103 x256001 x3).f0).length:Int)>1 then (if 0≤(wrap64 ((((rd_T103 x256001 x3).f0).length:Int) - 1)) then (if (wrap64 ((((rd_T103 x256001 x3).f0).length:Int) - 1))<(((rd_T103 x256001 x3).f0).length:Int) then (spec_SegmentRight.j2 k x3 ((rd_T103 x256001 x3).f0) ((rdOf ByteArray.empty ((rd_T103 x256001 x3).f0) (wrap64 ((((rd_T103 x256001 x3).f0).length:Int) - 1))).toList == ([]:List UInt8)) x256000 x256001) else (none)) else (none)) else (spec_SegmentRight.j2 k x3 ((rd_T103 x256001 x3).f0) false x256000 x256001)))) else (none)) else (if (x256001.length:Int)=0 then (some true) else (if 0≤(wrap64 ((x256001.length:Int) - 1)) then (if (wrap64 ((x256001.length:Int) - 1))<(x256001.length:Int) then ((spec_l02Empty.f ((rd_T103 x256001 (wrap64 ((x256001.length:Int) - 1))).f0)).bind fun t258=>(some (!t258))) else (none)) else (none)))
def spec_SegmentRight.j2:Nat→Int→List ByteArray→Bool→ByteArray→List (S103)→Option (Bool)
 | 0,_,_,_,_,_=>none
 | k+1,x3,x4,x50,x256000,x256001=>if x50=true then (some false) else (spec_SegmentRight.l1 k x3 x4 0 x256000 x256001)
def spec_SegmentRight.l1:Nat→Int→List ByteArray→Int→ByteArray→List (S103)→Option (Bool)
 | 0,_,_,_,_,_=>none
 | k+1,x3,x4,x5,x256000,x256001=>if x5<(x4.length:Int) then (if 0≤x5 then ((spec_l02Part.f k (rdOf ByteArray.empty x4 x5)).bind fun t262=>(if t262=true then (spec_SegmentRight.l1 k x3 x4 (wrap64 (x5+1)) x256000 x256001) else (some false))) else (none)) else (spec_SegmentRight.l0 k (wrap64 (x3+1)) x256000 x256001)
end
def spec_SegmentRight.f (k:Nat) (a0_0:ByteArray) (l0_1:List (S103)):Option (Bool):=(spec_l02Tag.f k a0_0).bind fun t256=>(if t256=true then (spec_SegmentRight.j0 k (decide ((l0_1.length:Int)>10)) a0_0 l0_1) else (spec_SegmentRight.j0 k true a0_0 l0_1))
def spec_TableOf.j0:Nat→Int→Bool→ByteArray→Int→Int→ByteArray→ByteArray→Int→Int→ByteArray→ByteArray→Int→Int→ByteArray→Option ((List (S94)))
 | 0,_,_,_,_,_,_,_,_,_,_,_,_,_,_=>none
 | k+1,x9,x16,x264000,x264001,x264002,x264003,x265000,x265001,x265002,x265003,x266000,x266001,x266002,x266003=>if x16=true then (some (([(⟨x265000,x265001,x265002,x265003⟩:S94),(⟨(⟨#[76,73,78]⟩:ByteArray),1,20,(⟨#[110,113,63,116]⟩:ByteArray)⟩:S94)]:List (S94)))) else (if x9=3 then (some (([(⟨x265000,x265001,x265002,x265003⟩:S94),(⟨x266000,x266001,x266002,x266003⟩:S94),(⟨(⟨#[76,73,78]⟩:ByteArray),1,20,(⟨#[110,113]⟩:ByteArray)⟩:S94)]:List (S94)))) else (if x9=5 then (some (([(⟨x264000,x264001,x264002,x264003⟩:S94),(⟨(⟨#[73,84,77]⟩:ByteArray),1,20,(⟨#[114,110]⟩:ByteArray)⟩:S94)]:List (S94)))) else (if x9=6 then (some (([(⟨x264000,x264001,x264002,x264003⟩:S94),(⟨(⟨#[73,84,77]⟩:ByteArray),1,20,(⟨#[114,122,63,116]⟩:ByteArray)⟩:S94)]:List (S94)))) else (if x9=7 then (some (([(⟨x264000,x264001,x264002,x264003⟩:S94),(⟨(⟨#[65,67,75]⟩:ByteArray),1,1,(⟨#[110,110,63,110]⟩:ByteArray)⟩:S94)]:List (S94)))) else (some (([]:List (S94))))))))
def spec_TableOf.f (k:Nat) (a0:Int):Option ((List (S94))):=if a0=1 then (some (([(⟨(⟨#[68,79,67]⟩:ByteArray),1,1,(⟨#[114,100]⟩:ByteArray)⟩:S94),(⟨(⟨#[78,79,84]⟩:ByteArray),0,2,(⟨#[116]⟩:ByteArray)⟩:S94),(⟨(⟨#[76,73,78]⟩:ByteArray),1,20,(⟨#[110,114,113,63,110]⟩:ByteArray)⟩:S94)]:List (S94)))) else (if a0=2 then (spec_TableOf.j0 k a0 (a0 == 2) (⟨#[68,79,67]⟩:ByteArray) 1 1 (⟨#[114,100]⟩:ByteArray) (⟨#[68,79,67]⟩:ByteArray) 1 1 (⟨#[114,114,100]⟩:ByteArray) (⟨#[78,79,84]⟩:ByteArray) 0 2 (⟨#[116]⟩:ByteArray)) else (spec_TableOf.j0 k a0 (a0 == 4) (⟨#[68,79,67]⟩:ByteArray) 1 1 (⟨#[114,100]⟩:ByteArray) (⟨#[68,79,67]⟩:ByteArray) 1 1 (⟨#[114,114,100]⟩:ByteArray) (⟨#[78,79,84]⟩:ByteArray) 0 2 (⟨#[116]⟩:ByteArray)))
mutual
def spec_l01Num.j0:Nat→ByteArray→Bool→Option (Int × Bool)
 | 0,_,_=>none
 | k+1,x0,x4=>if x4=true then (if 1≤(x0.size:Int) then (spec_l01Num.j1 k x0 x4 (x0.extract 1 x0.size)) else (none)) else (spec_l01Num.j1 k x0 x4 x0)
def spec_l01Num.j1:Nat→ByteArray→Bool→ByteArray→Option (Int × Bool)
 | 0,_,_,_=>none
 | k+1,x0,x4,x5=>if (x5.size:Int)<1 then (spec_l01Num.j2 k x0 x4 x5 true) else (spec_l01Num.j2 k x0 x4 x5 (decide ((x5.size:Int)>12)))
def spec_l01Num.j2:Nat→ByteArray→Bool→ByteArray→Bool→Option (Int × Bool)
 | 0,_,_,_,_=>none
 | k+1,x0,x4,x5,x27=>if x27=true then (some (0,false)) else (spec_l01Num.l0 k x0 x4 x5 0 0)
def spec_l01Num.l0:Nat→ByteArray→Bool→ByteArray→Int→Int→Option (Int × Bool)
 | 0,_,_,_,_,_=>none
 | k+1,x0,x4,x5,x6,x7=>if x7<(x5.size:Int) then (if 0≤x7 then (if (bt x5 x7)<48 then (some (0,false)) else (if (bt x5 x7)>57 then (some (0,false)) else (spec_l01Num.l0 k x0 x4 x5 (wrap64 ((wrap64 (10 * x6))+(((bt x5 x7) - 48) % 256))) (wrap64 (x7+1))))) else (none)) else (if x4=true then ((spec_l01Dec.f k (wrap64 (-x6))).bind fun t287=>(some (wrap64 (-x6),(t287.toList == x0.toList)))) else ((spec_l01Dec.f k x6).bind fun t288=>(some (x6,(t288.toList == x0.toList)))))
end
def spec_l01Num.f (k:Nat) (a0:ByteArray):Option (Int × Bool):=if (a0.size:Int)>0 then (if 0<(a0.size:Int) then (spec_l01Num.j0 k a0 ((bt a0 0) == 45)) else (none)) else (spec_l01Num.j0 k a0 false)
mutual
def spec_l01Name.j0:Nat→ByteArray→Bool→Option (Bool)
 | 0,_,_=>none
 | k+1,x0,x22=>if x22=true then (some false) else (spec_l01Name.l0 k x0 0)
def spec_l01Name.l0:Nat→ByteArray→Int→Option (Bool)
 | 0,_,_=>none
 | k+1,x0,x3=>if x3<(x0.size:Int) then (if 0≤x3 then (if (bt x0 x3)≥65 then (if (bt x0 x3)≤90 then (spec_l01Name.l0 k x0 (wrap64 (x3+1))) else (if (bt x0 x3)≥48 then (if (bt x0 x3)≤57 then (spec_l01Name.l0 k x0 (wrap64 (x3+1))) else (if ((bt x0 x3)=45) then (spec_l01Name.l0 k x0 (wrap64 (x3+1))) else (some false))) else (if ((bt x0 x3)=45) then (spec_l01Name.l0 k x0 (wrap64 (x3+1))) else (some false)))) else (if (bt x0 x3)≥48 then (if (bt x0 x3)≤57 then (spec_l01Name.l0 k x0 (wrap64 (x3+1))) else (if ((bt x0 x3)=45) then (spec_l01Name.l0 k x0 (wrap64 (x3+1))) else (some false))) else (if ((bt x0 x3)=45) then (spec_l01Name.l0 k x0 (wrap64 (x3+1))) else (some false)))) else (none)) else (some true)
end
def spec_l01Name.f (k:Nat) (a0:ByteArray):Option (Bool):=if (a0.size:Int)<1 then (spec_l01Name.j0 k a0 true) else (if (a0.size:Int)>12 then (spec_l01Name.j0 k a0 true) else (if 0<(a0.size:Int) then (if (bt a0 0)<65 then (spec_l01Name.j0 k a0 true) else (spec_l01Name.j0 k a0 (decide ((bt a0 0)>90)))) else (none)))
def spec_l01Qty.f (a0:Int):Option (Bool):=if a0≥1 then (some (decide (a0≤1000000))) else (some false)
def spec_l01Day.f (a0:Int):Option (Bool):=if a0≥0 then (some (decide (a0≤100000))) else (some false)
def spec_l04Element.f (k:Nat) (a0:Int) (l1_0:List ByteArray):Option (Bool):=if (l1_0.length:Int)=1 then (if 0<(l1_0.length:Int) then ((spec_l01Num.f k (rdOf ByteArray.empty l1_0 0)).bind fun bt291=>(if a0=114 then ((spec_l01Name.f k (rdOf ByteArray.empty l1_0 0)).bind fun t293=>(some t293)) else (if a0=110 then (if bt291.2=true then (if bt291.1≥0 then (some (decide (bt291.1≤1000000000))) else (some false)) else (some false)) else (if a0=113 then (if bt291.2=true then ((spec_l01Qty.f bt291.1).bind fun t294=>(some t294)) else (some false)) else (if a0=122 then (if bt291.2=true then (if bt291.1≥(-1000000) then (if bt291.1≤1000000 then (some (bt291.1 != 0)) else (some false)) else (some false)) else (some false)) else (if a0=100 then (if bt291.2=true then ((spec_l01Day.f bt291.1).bind fun t295=>(some t295)) else (some false)) else (if (rdOf ByteArray.empty l1_0 0).toList=([]:List UInt8) then (some false) else ((spec_l02Part.f k (rdOf ByteArray.empty l1_0 0)).bind fun t296=>(some t296))))))))) else (none)) else (some false)
mutual
def spec_FormRight.l0:Nat→ByteArray→List Int→Int→Int→ByteArray→List (S103)→Option (Int)
 | 0,_,_,_,_,_,_=>none
 | k+1,x0,x5,x6,x7,x298000,x298001=>if x7<(x0.size:Int) then (if 0≤x7 then (if (bt x0 x7)=63 then (if x6≥0 then (some 0) else (spec_FormRight.l0 k x0 x5 (x5.length:Int) (wrap64 (x7+1)) x298000 x298001)) else (if (bt x0 x7)=114 then (if x5.length<140737488355328 then (spec_FormRight.l0 k x0 (x5++[bt x0 x7]) x6 (wrap64 (x7+1)) x298000 x298001) else (none)) else (if (bt x0 x7)=110 then (if x5.length<140737488355328 then (spec_FormRight.l0 k x0 (x5++[bt x0 x7]) x6 (wrap64 (x7+1)) x298000 x298001) else (none)) else (if (bt x0 x7)=113 then (if x5.length<140737488355328 then (spec_FormRight.l0 k x0 (x5++[bt x0 x7]) x6 (wrap64 (x7+1)) x298000 x298001) else (none)) else (if (bt x0 x7)=122 then (if x5.length<140737488355328 then (spec_FormRight.l0 k x0 (x5++[bt x0 x7]) x6 (wrap64 (x7+1)) x298000 x298001) else (none)) else (if (bt x0 x7)=100 then (if x5.length<140737488355328 then (spec_FormRight.l0 k x0 (x5++[bt x0 x7]) x6 (wrap64 (x7+1)) x298000 x298001) else (none)) else (if (bt x0 x7)=116 then (if x5.length<140737488355328 then (spec_FormRight.l0 k x0 (x5++[bt x0 x7]) x6 (wrap64 (x7+1)) x298000 x298001) else (none)) else (some 0)))))))) else (none)) else (if x6<0 then (spec_FormRight.j1 k x5 (x5.length:Int) x298000 x298001) else (spec_FormRight.j1 k x5 x6 x298000 x298001))
def spec_FormRight.j1:Nat→List Int→Int→ByteArray→List (S103)→Option (Int)
 | 0,_,_,_,_=>none
 | k+1,x5,x6,x298000,x298001=>spec_FormRight.l1 k x5 x6 0 x298000 x298001
def spec_FormRight.l1:Nat→List Int→Int→Int→ByteArray→List (S103)→Option (Int)
 | 0,_,_,_,_,_=>none
 | k+1,x5,x6,x9,x298000,x298001=>if x9<(x298001.length:Int) then (spec_FormRight.j3 k x5 x6 x9 true x298000 x298001) else (spec_FormRight.j3 k x5 x6 x9 (decide (x9<x6)) x298000 x298001)
def spec_FormRight.j3:Nat→List Int→Int→Int→Bool→ByteArray→List (S103)→Option (Int)
 | 0,_,_,_,_,_,_=>none
 | k+1,x5,x6,x9,x68,x298000,x298001=>if x68=true then (if x9≥(x298001.length:Int) then (some x9) else (if x9≥(x5.length:Int) then (some x9) else (if 0≤x9 then (if x9<(x5.length:Int) then (if x9<(x298001.length:Int) then ((spec_l04Element.f k (rd x5 x9) ((rd_T103 x298001 x9).f0)).bind fun t321=>(if t321=true then (spec_FormRight.l1 k x5 x6 (wrap64 (x9+1)) x298000 x298001) else (some x9))) else (none)) else (none)) else (none)))) else (some (-1))
end
def spec_FormRight.f (k:Nat) (a0:ByteArray) (a1_0:ByteArray) (l1_1:List (S103)):Option (Int):=if (a0.size:Int)>20000 then (some 0) else (spec_FormRight.l0 k a0 (([]:List Int)) (-1) 0 a1_0 l1_1)
mutual
def spec_TableCheck.l0:Nat→List (S62)→List (S94)→Int→Int→Option (Int × Int × Int)
 | 0,_,_,_,_=>none
 | k+1,x1,x5,x6,x7=>if x7<(x5.length:Int) then (spec_TableCheck.l1 k x1 x5 x6 x7 0) else (if x6<(x1.length:Int) then (if 0≤x6 then (if 0≤(wrap64 ((x5.length:Int) - 1)) then (if (wrap64 ((x5.length:Int) - 1))<(x5.length:Int) then (if ((rd_T62 x1 x6).f0).toList=((rd_T94 x5 (wrap64 ((x5.length:Int) - 1))).f0).toList then (some (x6,0,7)) else (some (x6,0,3))) else (none)) else (none)) else (none)) else (some (0,0,0)))
def spec_TableCheck.l1:Nat→List (S62)→List (S94)→Int→Int→Int→Option (Int × Int × Int)
 | 0,_,_,_,_,_=>none
 | k+1,x1,x5,x6,x7,x8=>if 0≤x7 then (if x7<(x5.length:Int) then (if x8<((rd_T94 x5 x7).f2) then (if x6<(x1.length:Int) then (if 0≤x6 then (spec_TableCheck.j2 k x1 x5 x6 x7 x8 (((rd_T62 x1 x6).f0).toList == ((rd_T94 x5 x7).f0).toList)) else (none)) else (spec_TableCheck.j2 k x1 x5 x6 x7 x8 false)) else (spec_TableCheck.j2 k x1 x5 x6 x7 x8 false)) else (none)) else (none)
def spec_TableCheck.j2:Nat→List (S62)→List (S94)→Int→Int→Int→Bool→Option (Int × Int × Int)
 | 0,_,_,_,_,_,_=>none
 | k+1,x1,x5,x6,x7,x8,x52=>if x52=true then (if 0≤x7 then (if x7<(x5.length:Int) then (if 0≤x6 then (if x6<(x1.length:Int) then ((spec_FormRight.f k ((rd_T94 x5 x7).f3) ((rd_T62 x1 x6).f0) ((rd_T62 x1 x6).f1)).bind fun t331=>(if t331≥0 then (some (x6,t331,3)) else (spec_TableCheck.l1 k x1 x5 (wrap64 (x6+1)) x7 (wrap64 (x8+1))))) else (none)) else (none)) else (none)) else (none)) else (if 0≤x7 then (if x7<(x5.length:Int) then (if x8<((rd_T94 x5 x7).f1) then (some (x6,0,4)) else (spec_TableCheck.l0 k x1 x5 x6 (wrap64 (x7+1)))) else (none)) else (none))
end
def spec_TableCheck.f (k:Nat) (a0:Int) (l1:List (S62)):Option (Int × Int × Int):=if (l1.length:Int)>400 then (some (0,0,2)) else ((spec_TableOf.f k a0).bind fun t323=>(if (t323.length:Int)=0 then (some (0,0,1)) else (spec_TableCheck.l0 k l1 t323 0 0)))
def spec_PartOf.f (a0_0:ByteArray) (l0_1:List (S103)) (a1:Int) (a2:Int):Option (ByteArray):=if a1<0 then (some (⟨#[]⟩:ByteArray)) else (if a1≥(l0_1.length:Int) then (some (⟨#[]⟩:ByteArray)) else (if a2<0 then (some (⟨#[]⟩:ByteArray)) else (if 0≤a1 then (if a1<(l0_1.length:Int) then (if a2≥(((rd_T103 l0_1 a1).f0).length:Int) then (some (⟨#[]⟩:ByteArray)) else (if 0≤a2 then (if a2<(((rd_T103 l0_1 a1).f0).length:Int) then (some (rdOf ByteArray.empty ((rd_T103 l0_1 a1).f0) a2)) else (none)) else (none))) else (none)) else (none))))
def spec_l05Num.f (k:Nat) (a0_0:ByteArray) (l0_1:List (S103)) (a1:Int):Option (Int):=(spec_PartOf.f a0_0 l0_1 a1 0).bind fun t340=>((spec_l01Num.f k t340).bind fun bt341=>(some bt341.1))
def spec_l05Read.f (k:Nat) (a0:Int) (a1_0:ByteArray) (l1_1:List (S103)):Option (Int × ByteArray × Int × Int × ByteArray):=if a0=1 then ((spec_l05Num.f k a1_0 l1_1 0).bind fun t345=>((spec_PartOf.f a1_0 l1_1 1 0).bind fun t346=>((spec_l05Num.f k a1_0 l1_1 2).bind fun t347=>((spec_l05Num.f k a1_0 l1_1 3).bind fun t348=>(some (t345,t346,t347,t348,(⟨#[]⟩:ByteArray))))))) else (if a0=5 then ((spec_PartOf.f a1_0 l1_1 0 0).bind fun t349=>((spec_l05Num.f k a1_0 l1_1 1).bind fun t350=>(some (0,t349,t350,0,(⟨#[]⟩:ByteArray))))) else (if a0=6 then ((spec_PartOf.f a1_0 l1_1 0 0).bind fun t351=>((spec_l05Num.f k a1_0 l1_1 1).bind fun t352=>((spec_PartOf.f a1_0 l1_1 2 0).bind fun t353=>(some (0,t351,t352,0,t353))))) else (if a0=7 then ((spec_l05Num.f k a1_0 l1_1 0).bind fun t354=>((spec_l05Num.f k a1_0 l1_1 1).bind fun t355=>((spec_l05Num.f k a1_0 l1_1 2).bind fun t356=>(some (t354,(⟨#[]⟩:ByteArray),t355,t356,(⟨#[]⟩:ByteArray)))))) else ((spec_l05Num.f k a1_0 l1_1 0).bind fun t357=>((spec_l05Num.f k a1_0 l1_1 1).bind fun t358=>((spec_PartOf.f a1_0 l1_1 2 0).bind fun t359=>(some (t357,(⟨#[]⟩:ByteArray),t358,0,t359))))))))
def spec_l05Numbered.f (a0:Int):Option (Bool):=if a0≥1 then (some (decide (a0≤4))) else (some false)
def spec_l05Own.f (a0:Int):Option (Bool):=if a0=1 then (some true) else (if a0=5 then (some true) else (some (a0 == 6)))
mutual
def spec_l03SameSeg.j0:Nat→Bool→ByteArray→List (S103)→ByteArray→List (S103)→Option (Bool)
 | 0,_,_,_,_,_=>none
 | k+1,x20,x361000,x361001,x362000,x362001=>if x20=true then (some false) else (spec_l03SameSeg.l0 k 0 x361000 x361001 x362000 x362001)
def spec_l03SameSeg.l0:Nat→Int→ByteArray→List (S103)→ByteArray→List (S103)→Option (Bool)
 | 0,_,_,_,_,_=>none
 | k+1,x5,x361000,x361001,x362000,x362001=>if x5<(x361001.length:Int) then (if 0≤x5 then (if x5<(x362001.length:Int) then (if (((rd_T103 x361001 x5).f0).length:Int)=(((rd_T103 x362001 x5).f0).length:Int) then (spec_l03SameSeg.l1 k x5 0 x361000 x361001 x362000 x362001) else (some false)) else (none)) else (none)) else (some true)
def spec_l03SameSeg.l1:Nat→Int→Int→ByteArray→List (S103)→ByteArray→List (S103)→Option (Bool)
 | 0,_,_,_,_,_,_=>none
 | k+1,x5,x6,x361000,x361001,x362000,x362001=>if 0≤x5 then (if x5<(x361001.length:Int) then (if x6<(((rd_T103 x361001 x5).f0).length:Int) then (if 0≤x6 then (if x5<(x362001.length:Int) then (if x6<(((rd_T103 x362001 x5).f0).length:Int) then (if (rdOf ByteArray.empty ((rd_T103 x361001 x5).f0) x6).toList=(rdOf ByteArray.empty ((rd_T103 x362001 x5).f0) x6).toList then (spec_l03SameSeg.l1 k x5 (wrap64 (x6+1)) x361000 x361001 x362000 x362001) else (some false)) else (none)) else (none)) else (none)) else (spec_l03SameSeg.l0 k (wrap64 (x5+1)) x361000 x361001 x362000 x362001)) else (none)) else (none)
end
def spec_l03SameSeg.f (k:Nat) (a0_0:ByteArray) (l0_1:List (S103)) (a1_0:ByteArray) (l1_1:List (S103)):Option (Bool):=if a0_0.toList=a1_0.toList then (spec_l03SameSeg.j0 k ((l0_1.length:Int) != (l1_1.length:Int)) a0_0 l0_1 a1_0 l1_1) else (spec_l03SameSeg.j0 k true a0_0 l0_1 a1_0 l1_1)
mutual
def spec_PaperOf.j0:Nat→Int→List (S62)→Int→ByteArray→ByteArray→Int→Option (Int × ByteArray × ByteArray × Int × List ByteArray × (List (S71)) × Int × Int)
 | 0,_,_,_,_,_,_=>none
 | k+1,x0,x1,x379000,x379001,x379002,x379003=>spec_PaperOf.l0 k x0 x1 1 x379000 x379001 x379002 x379003 ([]:List ByteArray) ([]:List (S71))
def spec_PaperOf.l0:Nat→Int→List (S62)→Int→Int→ByteArray→ByteArray→Int→List ByteArray→List (S71)→Option (Int × ByteArray × ByteArray × Int × List ByteArray × (List (S71)) × Int × Int)
 | 0,_,_,_,_,_,_,_,_,_=>none
 | k+1,x0,x1,x7,x379000,x379001,x379002,x379003,x379004,x379005=>if x7<(x1.length:Int) then (if 0≤x7 then (if ((rd_T62 x1 x7).f0).toList=([78,79,84]:List UInt8) then ((spec_PartOf.f ((rd_T62 x1 x7).f0) ((rd_T62 x1 x7).f1) 0 0).bind fun t386=>(if x379004.length<8796093022208 then (spec_PaperOf.l0 k x0 x1 (wrap64 (x7+1)) x379000 x379001 x379002 x379003 (x379004++[t386]) x379005) else (none))) else ((spec_l05Read.f k x0 ((rd_T62 x1 x7).f0) ((rd_T62 x1 x7).f1)).bind fun bt391=>(if (x379005.length:Int)>0 then (if 0≤(wrap64 ((x379005.length:Int) - 1)) then (if (wrap64 ((x379005.length:Int) - 1))<(x379005.length:Int) then (spec_PaperOf.j2 k x0 x1 x7 ((rd_T71 x379005 (wrap64 ((x379005.length:Int) - 1))).f0) x379000 x379001 x379002 x379003 x379004 x379005 bt391.1 bt391.2.1 bt391.2.2.1 bt391.2.2.2.1 bt391.2.2.2.2) else (none)) else (none)) else (spec_PaperOf.j2 k x0 x1 x7 0 x379000 x379001 x379002 x379003 x379004 x379005 bt391.1 bt391.2.1 bt391.2.2.1 bt391.2.2.2.1 bt391.2.2.2.2)))) else (none)) else (some (x379000,x379001,x379002,x379003,x379004,x379005,0,0))
def spec_PaperOf.j2:Nat→Int→List (S62)→Int→Int→Int→ByteArray→ByteArray→Int→List ByteArray→List (S71)→Int→ByteArray→Int→Int→ByteArray→Option (Int × ByteArray × ByteArray × Int × List ByteArray × (List (S71)) × Int × Int)
 | 0,_,_,_,_,_,_,_,_,_,_,_,_,_,_,_=>none
 | k+1,x0,x1,x7,x9,x379000,x379001,x379002,x379003,x379004,x379005,x397000,x397001,x397002,x397003,x397004=>(spec_l05Numbered.f x0).bind fun t398=>(if t398=true then (if x397000≤x9 then (spec_PaperOf.j3 k x0 x1 x7 true x379000 x379001 x379002 x379003 x379004 x379005 x397000 x397001 x397002 x397003 x397004) else (spec_PaperOf.j3 k x0 x1 x7 (decide (x397000>999)) x379000 x379001 x379002 x379003 x379004 x379005 x397000 x397001 x397002 x397003 x397004)) else (spec_PaperOf.j3 k x0 x1 x7 false x379000 x379001 x379002 x379003 x379004 x379005 x397000 x397001 x397002 x397003 x397004))
def spec_PaperOf.j3:Nat→Int→List (S62)→Int→Bool→Int→ByteArray→ByteArray→Int→List ByteArray→List (S71)→Int→ByteArray→Int→Int→ByteArray→Option (Int × ByteArray × ByteArray × Int × List ByteArray × (List (S71)) × Int × Int)
 | 0,_,_,_,_,_,_,_,_,_,_,_,_,_,_,_=>none
 | k+1,x0,x1,x7,x97,x379000,x379001,x379002,x379003,x379004,x379005,x397000,x397001,x397002,x397003,x397004=>if x97=true then (some (0,(⟨#[]⟩:ByteArray),(⟨#[]⟩:ByteArray),0,([]:List ByteArray),([]:List (S71)),x7,11)) else (spec_PaperOf.l1 k x0 x1 x7 0 x379000 x379001 x379002 x379003 x379004 x379005 x397000 x397001 x397002 x397003 x397004)
def spec_PaperOf.l1:Nat→Int→List (S62)→Int→Int→Int→ByteArray→ByteArray→Int→List ByteArray→List (S71)→Int→ByteArray→Int→Int→ByteArray→Option (Int × ByteArray × ByteArray × Int × List ByteArray × (List (S71)) × Int × Int)
 | 0,_,_,_,_,_,_,_,_,_,_,_,_,_,_,_=>none
 | k+1,x0,x1,x7,x10,x379000,x379001,x379002,x379003,x379004,x379005,x397000,x397001,x397002,x397003,x397004=>if x10<(x379005.length:Int) then ((spec_l05Own.f x0).bind fun t399=>(spec_PaperOf.j5 k x0 x1 x7 x10 t399 x379000 x379001 x379002 x379003 x379004 x379005 x397000 x397001 x397002 x397003 x397004)) else (spec_PaperOf.j5 k x0 x1 x7 x10 false x379000 x379001 x379002 x379003 x379004 x379005 x397000 x397001 x397002 x397003 x397004)
def spec_PaperOf.j5:Nat→Int→List (S62)→Int→Int→Bool→Int→ByteArray→ByteArray→Int→List ByteArray→List (S71)→Int→ByteArray→Int→Int→ByteArray→Option (Int × ByteArray × ByteArray × Int × List ByteArray × (List (S71)) × Int × Int)
 | 0,_,_,_,_,_,_,_,_,_,_,_,_,_,_,_,_=>none
 | k+1,x0,x1,x7,x10,x108,x379000,x379001,x379002,x379003,x379004,x379005,x397000,x397001,x397002,x397003,x397004=>if x108=true then (if 0≤x10 then (if x10<(x379005.length:Int) then (if ((rd_T71 x379005 x10).f1).toList=x397001.toList then (some (0,(⟨#[]⟩:ByteArray),(⟨#[]⟩:ByteArray),0,([]:List ByteArray),([]:List (S71)),x7,11)) else (spec_PaperOf.l1 k x0 x1 x7 (wrap64 (x10+1)) x379000 x379001 x379002 x379003 x379004 x379005 x397000 x397001 x397002 x397003 x397004)) else (none)) else (none)) else ((spec_l05Line.f k x0 x397000 x397001 x397002 x397003 x397004).bind fun bt401=>(if 0≤x7 then (if x7<(x1.length:Int) then ((spec_l03SameSeg.f k bt401.1 bt401.2 ((rd_T62 x1 x7).f0) ((rd_T62 x1 x7).f1)).bind fun t406=>(if t406=true then (if x379005.length<2513169434916 then (spec_PaperOf.l0 k x0 x1 (wrap64 (x7+1)) x379000 x379001 x379002 x379003 x379004 (x379005++[(⟨x397000,x397001,x397002,x397003,x397004⟩:S71)])) else (none)) else (some (0,(⟨#[]⟩:ByteArray),(⟨#[]⟩:ByteArray),0,([]:List ByteArray),([]:List (S71)),x7,3)))) else (none)) else (none)))
end
def spec_PaperOf.f (k:Nat) (a0:Int) (l1:List (S62)):Option (Int × ByteArray × ByteArray × Int × List ByteArray × (List (S71)) × Int × Int):=(spec_TableCheck.f k a0 l1).bind fun bt370=>(if bt370.2.2=0 then (if 0<(l1.length:Int) then ((spec_PartOf.f ((rd_T62 l1 0).f0) ((rd_T62 l1 0).f1) 0 0).bind fun t375=>((spec_l05Num.f k ((rd_T62 l1 0).f0) ((rd_T62 l1 0).f1) 1).bind fun t377=>((spec_l05Has.f a0).bind fun t379=>(if t379=true then ((spec_PartOf.f ((rd_T62 l1 0).f0) ((rd_T62 l1 0).f1) 1 0).bind fun t381=>((spec_l05Num.f k ((rd_T62 l1 0).f0) ((rd_T62 l1 0).f1) 2).bind fun t383=>(spec_PaperOf.j0 k a0 l1 a0 t375 t381 t383))) else (spec_PaperOf.j0 k a0 l1 a0 t375 (⟨#[]⟩:ByteArray) t377))))) else (none)) else (some (0,(⟨#[]⟩:ByteArray),(⟨#[]⟩:ByteArray),0,([]:List ByteArray),([]:List (S71)),bt370.1,bt370.2.2)))
mutual
def spec_PaperSame.j0:Nat→Bool→Int→ByteArray→ByteArray→Int→List ByteArray→List (S71)→Int→ByteArray→ByteArray→Int→List ByteArray→List (S71)→Option (Bool)
 | 0,_,_,_,_,_,_,_,_,_,_,_,_,_=>none
 | k+1,x50,x411000,x411001,x411002,x411003,x411004,x411005,x412000,x412001,x412002,x412003,x412004,x412005=>if x50=true then (some false) else (spec_PaperSame.l0 k 0 x411000 x411001 x411002 x411003 x411004 x411005 x412000 x412001 x412002 x412003 x412004 x412005)
def spec_PaperSame.l0:Nat→Int→Int→ByteArray→ByteArray→Int→List ByteArray→List (S71)→Int→ByteArray→ByteArray→Int→List ByteArray→List (S71)→Option (Bool)
 | 0,_,_,_,_,_,_,_,_,_,_,_,_,_=>none
 | k+1,x5,x411000,x411001,x411002,x411003,x411004,x411005,x412000,x412001,x412002,x412003,x412004,x412005=>if x5<(x411004.length:Int) then (if 0≤x5 then (if x5<(x412004.length:Int) then (if (rdOf ByteArray.empty x411004 x5).toList=(rdOf ByteArray.empty x412004 x5).toList then (spec_PaperSame.l0 k (wrap64 (x5+1)) x411000 x411001 x411002 x411003 x411004 x411005 x412000 x412001 x412002 x412003 x412004 x412005) else (some false)) else (none)) else (none)) else (spec_PaperSame.l1 k 0 x411000 x411001 x411002 x411003 x411004 x411005 x412000 x412001 x412002 x412003 x412004 x412005)
def spec_PaperSame.l1:Nat→Int→Int→ByteArray→ByteArray→Int→List ByteArray→List (S71)→Int→ByteArray→ByteArray→Int→List ByteArray→List (S71)→Option (Bool)
 | 0,_,_,_,_,_,_,_,_,_,_,_,_,_=>none
 | k+1,x6,x411000,x411001,x411002,x411003,x411004,x411005,x412000,x412001,x412002,x412003,x412004,x412005=>if x6<(x411005.length:Int) then (if 0≤x6 then (if x6<(x412005.length:Int) then (if (!(((rd_T71 x411005 x6).f0) == ((rd_T71 x412005 x6).f0)) || (!((((rd_T71 x411005 x6).f1).toList) == (((rd_T71 x412005 x6).f1).toList)) || (!(((rd_T71 x411005 x6).f2) == ((rd_T71 x412005 x6).f2)) || (!(((rd_T71 x411005 x6).f3) == ((rd_T71 x412005 x6).f3)) || (!((((rd_T71 x411005 x6).f4).toList) == (((rd_T71 x412005 x6).f4).toList)))))))=true then (some false) else (spec_PaperSame.l1 k (wrap64 (x6+1)) x411000 x411001 x411002 x411003 x411004 x411005 x412000 x412001 x412002 x412003 x412004 x412005)) else (none)) else (none)) else (some true)
end
def spec_PaperSame.f (k:Nat) (a0_0:Int) (a0_1:ByteArray) (a0_2:ByteArray) (a0_3:Int) (l0_4:List ByteArray) (l0_5:List (S71)) (a1_0:Int) (a1_1:ByteArray) (a1_2:ByteArray) (a1_3:Int) (l1_4:List ByteArray) (l1_5:List (S71)):Option (Bool):=if a0_0=a1_0 then (if a0_1.toList=a1_1.toList then (if a0_2.toList=a1_2.toList then (if a0_3=a1_3 then (if (l0_4.length:Int)=(l1_4.length:Int) then (spec_PaperSame.j0 k ((l0_5.length:Int) != (l1_5.length:Int)) a0_0 a0_1 a0_2 a0_3 l0_4 l0_5 a1_0 a1_1 a1_2 a1_3 l1_4 l1_5) else (spec_PaperSame.j0 k true a0_0 a0_1 a0_2 a0_3 l0_4 l0_5 a1_0 a1_1 a1_2 a1_3 l1_4 l1_5)) else (spec_PaperSame.j0 k true a0_0 a0_1 a0_2 a0_3 l0_4 l0_5 a1_0 a1_1 a1_2 a1_3 l1_4 l1_5)) else (spec_PaperSame.j0 k true a0_0 a0_1 a0_2 a0_3 l0_4 l0_5 a1_0 a1_1 a1_2 a1_3 l1_4 l1_5)) else (spec_PaperSame.j0 k true a0_0 a0_1 a0_2 a0_3 l0_4 l0_5 a1_0 a1_1 a1_2 a1_3 l1_4 l1_5)) else (spec_PaperSame.j0 k true a0_0 a0_1 a0_2 a0_3 l0_4 l0_5 a1_0 a1_1 a1_2 a1_3 l1_4 l1_5)
mutual
def spec_PaperRight.j0:Nat→Bool→Int→ByteArray→ByteArray→Int→List ByteArray→List (S71)→Option (Bool)
 | 0,_,_,_,_,_,_,_=>none
 | k+1,x15,x417000,x417001,x417002,x417003,x417004,x417005=>if x15=true then (some false) else ((spec_l05Body.f k x417000 x417001 x417002 x417003 x417004 x417005).bind fun t417=>(spec_PaperRight.l0 k t417 0 x417000 x417001 x417002 x417003 x417004 x417005))
def spec_PaperRight.l0:Nat→List (S62)→Int→Int→ByteArray→ByteArray→Int→List ByteArray→List (S71)→Option (Bool)
 | 0,_,_,_,_,_,_,_,_=>none
 | k+1,x3,x4,x417000,x417001,x417002,x417003,x417004,x417005=>if x4<(x3.length:Int) then (if 0≤x4 then ((spec_SegmentRight.f k ((rd_T62 x3 x4).f0) ((rd_T62 x3 x4).f1)).bind fun t421=>(if t421=true then (spec_PaperRight.l0 k x3 (wrap64 (x4+1)) x417000 x417001 x417002 x417003 x417004 x417005) else (some false))) else (none)) else ((spec_PaperOf.f k x417000 x3).bind fun bt422=>(if bt422.2.2.2.2.2.2.2=0 then ((spec_PaperSame.f k bt422.1 bt422.2.1 bt422.2.2.1 bt422.2.2.2.1 bt422.2.2.2.2.1 bt422.2.2.2.2.2.1 x417000 x417001 x417002 x417003 x417004 x417005).bind fun t435=>(some t435)) else (some false)))
end
def spec_PaperRight.f (k:Nat) (a0_0:Int) (a0_1:ByteArray) (a0_2:ByteArray) (a0_3:Int) (l0_4:List ByteArray) (l0_5:List (S71)):Option (Bool):=if (l0_4.length:Int)>40 then (spec_PaperRight.j0 k true a0_0 a0_1 a0_2 a0_3 l0_4 l0_5) else (spec_PaperRight.j0 k (decide ((l0_5.length:Int)>20)) a0_0 a0_1 a0_2 a0_3 l0_4 l0_5)
def impl_within.f (a0:Int) (a1:Int) (a2:Int):Option (Bool):=if a1≤a0 then (some (decide (a0≤a2))) else (some false)
def impl_hasTwo.f (a0:Int):Option (Bool):=(impl_within.f a0 2 4).bind fun t436=>(some t436)
def strconv_FormatInt.f (a0 a1:Int):Option ByteArray:=if a1=10 then (if -9223372036854775808≤a0 then (if a0≤9223372036854775807 then some (⟨(Lib.itoa a0).toArray⟩:ByteArray) else none) else none) else none
def impl_decimal.f (a0:Int):Option (ByteArray):=(strconv_FormatInt.f a0 10).bind fun t437=>(some t437)
def impl_plain.l0:Nat→List ByteArray→Int→Int→ByteArray→List (S103)→Option (ByteArray × (List (S103)))
 | 0,_,_,_,_,_=>none
 | k+1,x10,x11,x12,x440000,x440001=>if x12<x11 then (if 0≤x12 then (if x12<(x10.length:Int) then (if x440001.length<5864062014805 then (impl_plain.l0 k x10 x11 (wrap64 (x12+1)) x440000 (x440001++[(⟨(([rdOf ByteArray.empty x10 x12]:List ByteArray))⟩:S103)])) else (none)) else (none)) else (none)) else (some (x440000,x440001))
def impl_plain.f (k:Nat) (a0:ByteArray) (l1:List ByteArray):Option (ByteArray × (List (S103))):=impl_plain.l0 k l1 (l1.length:Int) 0 a0 ([]:List (S103))
def impl_tableOf_1.f (a0:ByteArray):Option (ByteArray × Int × Int × ByteArray):=some ((⟨#[68,79,67]⟩:ByteArray),1,1,a0)
def impl_tableOf_2.f (a0:ByteArray) (a1:ByteArray):Option (ByteArray × Int × Int × ByteArray):=some (a0,1,20,a1)
def impl_tableOf.j0:Nat→Int→Bool→ByteArray→Int→Int→ByteArray→Option ((List (S94)))
 | 0,_,_,_,_,_,_=>none
 | k+1,x7,x16,x450000,x450001,x450002,x450003=>if x16=true then ((impl_tableOf_1.f (⟨#[114,114,100]⟩:ByteArray)).bind fun bt461=>((impl_tableOf_2.f (⟨#[76,73,78]⟩:ByteArray) (⟨#[110,113,63,116]⟩:ByteArray)).bind fun bt465=>(some (([(⟨bt461.1,bt461.2.1,bt461.2.2.1,bt461.2.2.2⟩:S94),(⟨bt465.1,bt465.2.1,bt465.2.2.1,bt465.2.2.2⟩:S94)]:List (S94)))))) else (if x7=3 then ((impl_tableOf_1.f (⟨#[114,114,100]⟩:ByteArray)).bind fun bt472=>((impl_tableOf_2.f (⟨#[76,73,78]⟩:ByteArray) (⟨#[110,113]⟩:ByteArray)).bind fun bt476=>(some (([(⟨bt472.1,bt472.2.1,bt472.2.2.1,bt472.2.2.2⟩:S94),(⟨x450000,x450001,x450002,x450003⟩:S94),(⟨bt476.1,bt476.2.1,bt476.2.2.1,bt476.2.2.2⟩:S94)]:List (S94)))))) else (if x7=5 then ((impl_tableOf_1.f (⟨#[114,100]⟩:ByteArray)).bind fun bt483=>((impl_tableOf_2.f (⟨#[73,84,77]⟩:ByteArray) (⟨#[114,110]⟩:ByteArray)).bind fun bt487=>(some (([(⟨bt483.1,bt483.2.1,bt483.2.2.1,bt483.2.2.2⟩:S94),(⟨bt487.1,bt487.2.1,bt487.2.2.1,bt487.2.2.2⟩:S94)]:List (S94)))))) else (if x7=6 then ((impl_tableOf_1.f (⟨#[114,100]⟩:ByteArray)).bind fun bt494=>((impl_tableOf_2.f (⟨#[73,84,77]⟩:ByteArray) (⟨#[114,122,63,116]⟩:ByteArray)).bind fun bt498=>(some (([(⟨bt494.1,bt494.2.1,bt494.2.2.1,bt494.2.2.2⟩:S94),(⟨bt498.1,bt498.2.1,bt498.2.2.1,bt498.2.2.2⟩:S94)]:List (S94)))))) else (if x7=7 then ((impl_tableOf_1.f (⟨#[114,100]⟩:ByteArray)).bind fun bt505=>(some (([(⟨bt505.1,bt505.2.1,bt505.2.2.1,bt505.2.2.2⟩:S94),(⟨(⟨#[65,67,75]⟩:ByteArray),1,1,(⟨#[110,110,63,110]⟩:ByteArray)⟩:S94)]:List (S94))))) else (some ([]:List (S94)))))))
def impl_tableOf.f (k:Nat) (a0:Int):Option ((List (S94))):=if a0=1 then ((impl_tableOf_1.f (⟨#[114,100]⟩:ByteArray)).bind fun bt450=>((impl_tableOf_2.f (⟨#[76,73,78]⟩:ByteArray) (⟨#[110,114,113,63,110]⟩:ByteArray)).bind fun bt454=>(some (([(⟨bt450.1,bt450.2.1,bt450.2.2.1,bt450.2.2.2⟩:S94),(⟨(⟨#[78,79,84]⟩:ByteArray),0,2,(⟨#[116]⟩:ByteArray)⟩:S94),(⟨bt454.1,bt454.2.1,bt454.2.2.1,bt454.2.2.2⟩:S94)]:List (S94)))))) else (if a0=2 then (impl_tableOf.j0 k a0 (a0 == 2) (⟨#[78,79,84]⟩:ByteArray) 0 2 (⟨#[116]⟩:ByteArray)) else (impl_tableOf.j0 k a0 (a0 == 4) (⟨#[78,79,84]⟩:ByteArray) 0 2 (⟨#[116]⟩:ByteArray)))
def impl_lineTag.f (k:Nat) (a0:Int):Option (ByteArray):=(impl_tableOf.f k a0).bind fun t512=>(if 0≤(wrap64 ((t512.length:Int) - 1)) then (if (wrap64 ((t512.length:Int) - 1))<(t512.length:Int) then (some ((rd_T94 t512 (wrap64 ((t512.length:Int) - 1))).f0)) else (none)) else (none))
def impl_fields.j0:Nat→Int→Bool→Option (ByteArray)
 | 0,_,_=>none
 | k+1,x3,x6=>if x6=true then (some (⟨#[78,81,84]⟩:ByteArray)) else (if x3=3 then (some (⟨#[78,81]⟩:ByteArray)) else (if x3=5 then (some (⟨#[73,81]⟩:ByteArray)) else (if x3=6 then (some (⟨#[73,81,84]⟩:ByteArray)) else (if x3=7 then (some (⟨#[78,81,77]⟩:ByteArray)) else (some (⟨#[]⟩:ByteArray))))))
def impl_fields.f (k:Nat) (a0:Int):Option (ByteArray):=if a0=1 then (some (⟨#[78,73,81,77]⟩:ByteArray)) else (if a0=2 then (impl_fields.j0 k a0 (a0 == 2)) else (impl_fields.j0 k a0 (a0 == 4)))
def impl_isText.f (a0:Int):Option (Bool):=if a0=73 then (some true) else (some (a0 == 84))
def impl_lineParts.l0 (f0:Int) (f1:ByteArray) (f2 f3:Int) (f4:ByteArray):List UInt8→List ByteArray→Option (List ByteArray)
 | [],acc=>some acc
 | c :: cs,acc=>if acc.length<1000 then
   (if c=77 then (if f3=0 then impl_lineParts.l0 f0 f1 f2 f3 f4 cs acc else (impl_decimal.f f3).bind fun d=>impl_lineParts.l0 f0 f1 f2 f3 f4 cs (acc++[d]))
   else if c=84 then (if f4.toList=[] then impl_lineParts.l0 f0 f1 f2 f3 f4 cs acc else impl_lineParts.l0 f0 f1 f2 f3 f4 cs (acc++[f4]))
   else if c=73 then impl_lineParts.l0 f0 f1 f2 f3 f4 cs (acc++[f1])
   else if c=78 then (impl_decimal.f f0).bind fun d=>impl_lineParts.l0 f0 f1 f2 f3 f4 cs (acc++[d])
   else if c=81 then (impl_decimal.f f2).bind fun d=>impl_lineParts.l0 f0 f1 f2 f3 f4 cs (acc++[d])
   else none) else none
def impl_lineParts.f (k:Nat) (a0 f0:Int) (f1:ByteArray) (f2 f3:Int) (f4:ByteArray):Option (List ByteArray):=(impl_fields.f k a0).bind fun s=>impl_lineParts.l0 f0 f1 f2 f3 f4 s.data.toList []
mutual
def impl_bodyOf.j0:Nat→List ByteArray→Int→ByteArray→ByteArray→Int→List ByteArray→List (S71)→Option ((List (S62)))
 | 0,_,_,_,_,_,_,_=>none
 | k+1,x3,x517000,x517001,x517002,x517003,x517004,x517005=>(impl_decimal.f x517003).bind fun t524=>(if x3.length<8796093022208 then ((impl_plain.f k (⟨#[68,79,67]⟩:ByteArray) (x3++[t524])).bind fun bt528=>(impl_bodyOf.l0 k (([(⟨bt528.1,bt528.2⟩:S62)]:List (S62))) x517004 (x517004.length:Int) 0 x517000 x517001 x517002 x517003 x517004 x517005)) else (none))
def impl_bodyOf.l0:Nat→List (S62)→List ByteArray→Int→Int→Int→ByteArray→ByteArray→Int→List ByteArray→List (S71)→Option ((List (S62)))
 | 0,_,_,_,_,_,_,_,_,_,_=>none
 | k+1,x4,x29,x30,x31,x517000,x517001,x517002,x517003,x517004,x517005=>if x31<x30 then (if 0≤x31 then (if x31<(x29.length:Int) then ((impl_plain.f k (⟨#[78,79,84]⟩:ByteArray) (([rdOf ByteArray.empty x29 x31]:List ByteArray))).bind fun bt539=>(if x4.length<3518437208883 then (impl_bodyOf.l0 k (x4++[(⟨bt539.1,bt539.2⟩:S62)]) x29 x30 (wrap64 (x31+1)) x517000 x517001 x517002 x517003 x517004 x517005) else (none))) else (none)) else (none)) else (impl_bodyOf.l1 k x4 x517005 (x517005.length:Int) 0 x517000 x517001 x517002 x517003 x517004 x517005)
def impl_bodyOf.l1:Nat→List (S62)→List (S71)→Int→Int→Int→ByteArray→ByteArray→Int→List ByteArray→List (S71)→Option ((List (S62)))
 | 0,_,_,_,_,_,_,_,_,_,_=>none
 | k+1,x4,x43,x44,x45,x517000,x517001,x517002,x517003,x517004,x517005=>if x45<x44 then (if 0≤x45 then (if x45<(x43.length:Int) then ((impl_lineTag.f k x517000).bind fun t548=>((impl_lineParts.f k x517000 ((rd_T71 x43 x45).f0) ((rd_T71 x43 x45).f1) ((rd_T71 x43 x45).f2) ((rd_T71 x43 x45).f3) ((rd_T71 x43 x45).f4)).bind fun t549=>((impl_plain.f k t548 t549).bind fun bt552=>(if x4.length<3518437208883 then (impl_bodyOf.l1 k (x4++[(⟨bt552.1,bt552.2⟩:S62)]) x43 x44 (wrap64 (x45+1)) x517000 x517001 x517002 x517003 x517004 x517005) else (none))))) else (none)) else (none)) else (some x4)
end
def impl_bodyOf.f (k:Nat) (a0_0:Int) (a0_1:ByteArray) (a0_2:ByteArray) (a0_3:Int) (l0_4:List ByteArray) (l0_5:List (S71)):Option ((List (S62))):=(some (([a0_1]:List ByteArray):List ByteArray)).bind fun y517=>((impl_hasTwo.f a0_0).bind fun t520=>(if t520=true then (if y517.length<8796093022208 then (impl_bodyOf.j0 k (y517++[a0_2]) a0_0 a0_1 a0_2 a0_3 l0_4 l0_5) else (none)) else (impl_bodyOf.j0 k y517 a0_0 a0_1 a0_2 a0_3 l0_4 l0_5)))
def impl_Segment.f (l0:List (S62)):Option (Bool):=some (decide ((l0.length:Int)>400))
def strings_Cut.f (a0 a1:ByteArray):Option (ByteArray × ByteArray × Bool):=if a0.size<4294967281 then some ((⟨(Lib.cut a0.data.toList a1.data.toList).1.toArray⟩:ByteArray),(⟨(Lib.cut a0.data.toList a1.data.toList).2.1.toArray⟩:ByteArray),(Lib.cut a0.data.toList a1.data.toList).2.2) else none
def strings_IndexByte.f (a0:ByteArray) (a1:Int):Option Int:=some (Lib.indexByte a0.data.toList a1.toNat.toUInt8)
def impl_longText_1.f (a0:ByteArray):Option (Bool):=some (decide ((a0.size:Int)>20000))
def slices_IndexFunc_string_string_impl_longText_1.l0:Nat→List ByteArray→Int→Int→Option (Int)
 | 0,_,_,_=>none
 | k+1,x0,x7,x8=>if x8<x7 then (if 0≤x8 then (if x8<(x0.length:Int) then ((impl_longText_1.f (rdOf ByteArray.empty x0 x8)).bind fun t560=>(if t560=true then (some x8) else (slices_IndexFunc_string_string_impl_longText_1.l0 k x0 x7 (wrap64 (x8+1))))) else (none)) else (none)) else (some (-1))
def slices_IndexFunc_string_string_impl_longText_1.f (k:Nat) (l0:List ByteArray)  : Option (Int):=slices_IndexFunc_string_string_impl_longText_1.l0 k l0 (l0.length:Int) 0
def slices_ContainsFunc_string_string_impl_longText_1.f (k:Nat) (l0:List ByteArray)  : Option (Bool):=(slices_IndexFunc_string_string_impl_longText_1.f k l0).bind fun t561=>(some (decide (t561≥0)))
def impl_longText.f (k:Nat) (l0:List ByteArray):Option (Bool):=(slices_ContainsFunc_string_string_impl_longText_1.f k l0).bind fun t562=>(some t562)
def impl_isGreat.f (a0:Int):Option (Bool):=if a0≥65 then (some (decide (a0≤90))) else (some false)
def impl_isDigit.f (a0:Int):Option (Bool):=if a0≥48 then (some (decide (a0≤57))) else (some false)
def impl_isName.l0:Nat→ByteArray→Int→Int→Option (Bool)
 | 0,_,_,_=>none
 | k+1,x0,x5,x6=>if x6<x5 then (if 0≤x6 then (if x6<(x0.size:Int) then ((impl_isGreat.f (bt x0 x6)).bind fun t564=>(if t564=true then (impl_isName.l0 k x0 x5 (wrap64 (x6+1))) else (if x6=0 then (some false) else ((impl_isDigit.f (bt x0 x6)).bind fun t565=>(if t565=true then (impl_isName.l0 k x0 x5 (wrap64 (x6+1))) else (if (bt x0 x6)=45 then (impl_isName.l0 k x0 x5 (wrap64 (x6+1))) else (some false))))))) else (none)) else (none)) else ((impl_within.f (x0.size:Int) 1 12).bind fun t563=>(some t563))
def impl_isName.f (k:Nat) (a0:ByteArray):Option (Bool):=impl_isName.l0 k a0 (a0.size:Int) 0
mutual
def impl_isNumber.j0:Nat→ByteArray→ByteArray→Bool→Option (Bool)
 | 0,_,_,_=>none
 | k+1,x0,x3,x12=>if x12=true then (if 1≤(x0.size:Int) then (impl_isNumber.j1 k x0 (x0.extract 1 x0.size)) else (none)) else (impl_isNumber.j1 k x0 x3)
def impl_isNumber.j1:Nat→ByteArray→ByteArray→Option (Bool)
 | 0,_,_=>none
 | k+1,x0,x3=>impl_isNumber.l0 k x0 x3 (x3.size:Int) 0
def impl_isNumber.l0:Nat→ByteArray→ByteArray→Int→Int→Option (Bool)
 | 0,_,_,_,_=>none
 | k+1,x0,x3,x16,x17=>if x17<x16 then (if 0≤x17 then (if x17<(x3.size:Int) then ((impl_isDigit.f (bt x3 x17)).bind fun t566=>(if t566=true then (impl_isNumber.l0 k x0 x3 x16 (wrap64 (x17+1))) else (some false))) else (none)) else (none)) else (if x3.toList=([]:List UInt8) then (some false) else (if 0<(x3.size:Int) then (if (bt x3 0)=48 then (some (x0.toList == ([48]:List UInt8))) else (some true)) else (none)))
end
def impl_isNumber.f (k:Nat) (a0:ByteArray):Option (Bool):=if a0.toList=([]:List UInt8) then (impl_isNumber.j0 k a0 a0 false) else (if 0<(a0.size:Int) then (impl_isNumber.j0 k a0 a0 ((bt a0 0) == 45)) else (none))
def impl_numberIn.f (k:Nat) (a0:ByteArray) (a1 a2:Int):Option (Int × Bool):=if a0.size≤281474976710656 then (match Lib.parseIntB 64 a0.data.toList with | .ok v=>((impl_isNumber.f k a0).bind fun b=>if b=true then ((impl_within.f v a1 a2).bind fun c=>some (v,c)) else some (v,false)) | .«syntax»=>some (0,false) | .range=>some (Lib.intSat 64 a0.data.toList,false)) else none
def impl_isPrinted.l0:Nat→ByteArray→Int→Int→Option (Bool)
 | 0,_,_,_=>none
 | k+1,x0,x5,x6=>if x6<x5 then (if 0≤x6 then (if x6<(x0.size:Int) then (if (bt x0 x6)<32 then (some false) else (if (bt x0 x6)>126 then (some false) else (impl_isPrinted.l0 k x0 x5 (wrap64 (x6+1))))) else (none)) else (none)) else (some true)
def impl_isPrinted.f (k:Nat) (a0:ByteArray):Option (Bool):=impl_isPrinted.l0 k a0 (a0.size:Int) 0
def impl_isPart.f (k:Nat) (a0:ByteArray):Option (Bool):=if (a0.size:Int)≤40 then ((impl_isPrinted.f k a0).bind fun t567=>(some t567)) else (some false)
def impl_isOf.f (k:Nat) (a0:Int) (a1:ByteArray):Option (Bool):=if a0=114 then ((impl_isName.f k a1).bind fun t568=>(some t568)) else (if a0=110 then ((impl_numberIn.f k a1 0 1000000000).bind fun bt569=>(some bt569.2)) else (if a0=113 then ((impl_numberIn.f k a1 1 1000000).bind fun bt571=>(some bt571.2)) else (if a0=122 then ((impl_numberIn.f k a1 (-1000000) 1000000).bind fun bt573=>(if bt573.2=true then (some (a1.toList != ([48]:List UInt8))) else (some false))) else (if a0=100 then ((impl_numberIn.f k a1 0 100000).bind fun bt575=>(some bt575.2)) else (if a0=116 then (if a1.toList=([]:List UInt8) then (some false) else ((impl_isPart.f k a1).bind fun t577=>(some t577))) else (some false))))))
mutual
def impl_FormRight.l0:Nat→ByteArray→ByteArray→ByteArray→Int→Int→ByteArray→List (S103)→Option (Int)
 | 0,_,_,_,_,_,_,_=>none
 | k+1,x0,x5,x8,x22,x23,x579000,x579001=>if x23<x22 then (if 0≤x23 then (if x23<(x8.size:Int) then ((strings_IndexByte.f (⟨#[114,110,113,122,100,116]⟩:ByteArray) (bt x8 x23)).bind fun t582=>(if t582<0 then (some 0) else (impl_FormRight.l0 k x0 x5 x8 x22 (wrap64 (x23+1)) x579000 x579001))) else (none)) else (none)) else ((impl_longText.f k (([x0]:List ByteArray))).bind fun t586=>(if t586=true then (some 0) else (impl_FormRight.l1 k x5 x8 x579001 (x579001.length:Int) 0 x579000 x579001)))
def impl_FormRight.l1:Nat→ByteArray→ByteArray→List (S103)→Int→Int→ByteArray→List (S103)→Option (Int)
 | 0,_,_,_,_,_,_,_=>none
 | k+1,x5,x8,x36,x37,x38,x579000,x579001=>if x38<x37 then (if 0≤x38 then (if x38<(x36.length:Int) then (if x38=(x8.size:Int) then (some x38) else (if (((rd_T103 x36 x38).f0).length:Int)=1 then (if x38<(x8.size:Int) then (if 0<(((rd_T103 x36 x38).f0).length:Int) then ((impl_isOf.f k (bt x8 x38) (rdOf ByteArray.empty ((rd_T103 x36 x38).f0) 0)).bind fun t590=>(if t590=true then (impl_FormRight.l1 k x5 x8 x36 x37 (wrap64 (x38+1)) x579000 x579001) else (some x38))) else (none)) else (none)) else (some x38))) else (none)) else (none)) else (if (x579001.length:Int)<(x5.size:Int) then (some (x579001.length:Int)) else (some (-1)))
end
def impl_FormRight.f (k:Nat) (a0:ByteArray) (a1_0:ByteArray) (l1_1:List (S103)):Option (Int):=(strings_Cut.f a0 (⟨#[63]⟩:ByteArray)).bind fun bt579=>(if bt579.1.size+bt579.2.1.size≤9223372036854775807 then (impl_FormRight.l0 k a0 bt579.1 (bt579.1++bt579.2.1) ((bt579.1++bt579.2.1).size:Int) 0 a1_0 l1_1) else (none))
end Go.Proofs.YtogkcllenfkdmaaGreatDoor.QR
