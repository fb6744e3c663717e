-- Merged by a program of this session (wip/tool/pack.py) out of its own texts for this claim.
import Derived.Test.YtogkcllenfkdmaaGreatDoorKFnExactPaperRight0
import Derived.Test.YtogkcllenfkdmaaGreatDoorKFnExactPaperRight1
import Derived.Test.YtogkcllenfkdmaaGreatDoorKFnExactPaperRight2
import Derived.Test.YtogkcllenfkdmaaGreatDoorKFnExactPaperRight3
import Derived.Test.YtogkcllenfkdmaaGreatDoorKFnExactPaperRight4
namespace Go.Proofs.YtogkcllenfkdmaaGreatDoor.QR
open Go.RowKit Go.Proofs.YtogkcllenfkdmaaGreatDoorW.PrintWords Go.Proofs.YtogkcllenfkdmaaGreatDoorW.PrintLast Go.Proofs.YtogkcllenfkdmaaGreatDoorW.PrintMore
attribute [local go_sem] max2_int min2_int max_two min_two max_three min_three max_four min_four   -- for this text's walks alone
set_option linter.unusedVariables false
set_option linter.unusedSimpArgs false
mutual
def impl_TableCheck.l0:Nat→List (S62)→Int→ByteArray→List (S94)→Int→Int→Option (Int × Int × Int)
 | 0,_,_,_,_,_,_=>none
 | k+1,x1,x5,x6,x21,x22,x23=>if x23<x22 then (if 0≤x23 then (if x23<(x21.length:Int) then (impl_TableCheck.l1 k x1 x5 0 x21 x22 x23 ((rd_T94 x21 x23).f0) ((rd_T94 x21 x23).f1) ((rd_T94 x21 x23).f2) ((rd_T94 x21 x23).f3)) else (none)) else (none)) else (if x5=(x1.length:Int) then (some (0,0,0)) else (if 0≤x5 then (if x5<(x1.length:Int) then (if ((rd_T62 x1 x5).f0).toList=x6.toList then (some (x5,0,7)) else (some (x5,0,3))) else (none)) else (none)))
def impl_TableCheck.l1:Nat→List (S62)→Int→Int→List (S94)→Int→Int→ByteArray→Int→Int→ByteArray→Option (Int × Int × Int)
 | 0,_,_,_,_,_,_,_,_,_,_=>none
 | k+1,x1,x5,x9,x21,x22,x23,x599000,x599001,x599002,x599003=>if x9<x599002 then (if x5<(x1.length:Int) then (if 0≤x5 then (impl_TableCheck.j2 k x1 x5 x9 x21 x22 x23 (((rd_T62 x1 x5).f0).toList == x599000.toList) x599000 x599001 x599002 x599003) else (none)) else (impl_TableCheck.j2 k x1 x5 x9 x21 x22 x23 false x599000 x599001 x599002 x599003)) else (impl_TableCheck.j2 k x1 x5 x9 x21 x22 x23 false x599000 x599001 x599002 x599003)
def impl_TableCheck.j2:Nat→List (S62)→Int→Int→List (S94)→Int→Int→Bool→ByteArray→Int→Int→ByteArray→Option (Int × Int × Int)
 | 0,_,_,_,_,_,_,_,_,_,_,_=>none
 | k+1,x1,x5,x9,x21,x22,x23,x46,x599000,x599001,x599002,x599003=>if x46=true then (if 0≤x5 then (if x5<(x1.length:Int) then ((impl_FormRight.f k x599003 ((rd_T62 x1 x5).f0) ((rd_T62 x1 x5).f1)).bind fun t601=>(if t601≥0 then (some (x5,t601,3)) else (impl_TableCheck.l1 k x1 (wrap64 (x5+1)) (wrap64 (x9+1)) x21 x22 x23 x599000 x599001 x599002 x599003))) else (none)) else (none)) else (if x9<x599001 then (some (x5,0,4)) else (impl_TableCheck.l0 k x1 x5 x599000 x21 x22 (wrap64 (x23+1))))
end
def impl_TableCheck.f (k:Nat) (a0:Int) (l1:List (S62)):Option (Int × Int × Int):=(impl_Segment.f l1).bind fun t592=>(if t592=true then (some (0,0,2)) else ((impl_within.f a0 1 7).bind fun t593=>(if t593=true then ((impl_tableOf.f k a0).bind fun t594=>(impl_TableCheck.l0 k l1 0 (⟨#[]⟩:ByteArray) t594 (t594.length:Int) 0)) else (some (0,0,1)))))
def impl_lineOf.l0 (k:Nat) (l1:List (S103)):List UInt8→Nat→Int→ByteArray→Int→Int→ByteArray→Option (Int × ByteArray × Int × Int × ByteArray)
 | [],_,f0,f1,f2,f3,f4=>some (f0,f1,f2,f3,f4)
 | c :: cs,i,f0,f1,f2,f3,f4=>if c.toNat<128 then (if i=l1.length then some (f0,f1,f2,f3,f4) else if (i:Int)<(l1.length:Int) then
   (if 0<(((rd_T103 l1 i).f0).length:Int) then
    (if c=77 then ((impl_numberIn.f k (rdOf ByteArray.empty ((rd_T103 l1 i).f0) 0) (-1000000) 1000000000).bind fun v=>impl_lineOf.l0 k l1 cs (i+1) f0 f1 f2 v.1 f4)
    else if c=84 then impl_lineOf.l0 k l1 cs (i+1) f0 f1 f2 f3 (rdOf ByteArray.empty ((rd_T103 l1 i).f0) 0)
    else if c=73 then impl_lineOf.l0 k l1 cs (i+1) f0 (rdOf ByteArray.empty ((rd_T103 l1 i).f0) 0) f2 f3 f4
    else if c=78 then ((impl_numberIn.f k (rdOf ByteArray.empty ((rd_T103 l1 i).f0) 0) (-1000000) 1000000000).bind fun v=>impl_lineOf.l0 k l1 cs (i+1) v.1 f1 f2 f3 f4)
    else if c=81 then ((impl_numberIn.f k (rdOf ByteArray.empty ((rd_T103 l1 i).f0) 0) (-1000000) 1000000000).bind fun v=>impl_lineOf.l0 k l1 cs (i+1) f0 f1 v.1 f3 f4)
    else none) else none) else none) else none
def impl_lineOf.f (k:Nat) (a0:Int) (a1:ByteArray) (l1:List (S103)):Option (Int × ByteArray × Int × Int × ByteArray):=(impl_fields.f k a0).bind fun s=>impl_lineOf.l0 k l1 s.data.toList 0 0 (⟨#[]⟩:ByteArray) 0 0 (⟨#[]⟩:ByteArray)
mutual
def impl_paperOf.j0:Nat→Int→List (S62)→Int→ByteArray→ByteArray→Int→Option (Int × ByteArray × ByteArray × Int × List ByteArray × (List (S71)))
 | 0,_,_,_,_,_,_=>none
 | k+1,x0,x1,x608000,x608001,x608002,x608003=>if 0<(x1.length:Int) then (if 0≤(wrap64 ((((rd_T62 x1 0).f1).length:Int) - 1)) then (if (wrap64 ((((rd_T62 x1 0).f1).length:Int) - 1))<(((rd_T62 x1 0).f1).length:Int) then (if 0<(((rd_T103 ((rd_T62 x1 0).f1) (wrap64 ((((rd_T62 x1 0).f1).length:Int) - 1))).f0).length:Int) then ((impl_numberIn.f k (rdOf ByteArray.empty ((rd_T103 ((rd_T62 x1 0).f1) (wrap64 ((((rd_T62 x1 0).f1).length:Int) - 1))).f0) 0) 0 100000).bind fun bt617=>(if 1≤(x1.length:Int) then ((some (x1.drop 1:List (S62))).bind fun y619=>(impl_paperOf.l0 k x0 y619 (y619.length:Int) 0 x608000 x608001 x608002 bt617.1 ([]:List ByteArray) ([]:List (S71)))) else (none))) else (none)) else (none)) else (none)) else (none)
def impl_paperOf.l0:Nat→Int→List (S62)→Int→Int→Int→ByteArray→ByteArray→Int→List ByteArray→List (S71)→Option (Int × ByteArray × ByteArray × Int × List ByteArray × (List (S71)))
 | 0,_,_,_,_,_,_,_,_,_,_=>none
 | k+1,x0,x57,x58,x59,x608000,x608001,x608002,x608003,x608004,x608005=>if x59<x58 then (if 0≤x59 then (if x59<(x57.length:Int) then (if ((rd_T62 x57 x59).f0).toList=([78,79,84]:List UInt8) then (if 0<(((rd_T62 x57 x59).f1).length:Int) then (if 0<(((rd_T103 ((rd_T62 x57 x59).f1) 0).f0).length:Int) then (if x608004.length<8796093022208 then (impl_paperOf.l0 k x0 x57 x58 (wrap64 (x59+1)) x608000 x608001 x608002 x608003 (x608004++[rdOf ByteArray.empty ((rd_T103 ((rd_T62 x57 x59).f1) 0).f0) 0]) x608005) else (none)) else (none)) else (none)) else ((impl_lineOf.f k x0 ((rd_T62 x57 x59).f0) ((rd_T62 x57 x59).f1)).bind fun bt630=>(if x608005.length<2513169434916 then (impl_paperOf.l0 k x0 x57 x58 (wrap64 (x59+1)) x608000 x608001 x608002 x608003 x608004 (x608005++[(⟨bt630.1,bt630.2.1,bt630.2.2.1,bt630.2.2.2.1,bt630.2.2.2.2⟩:S71)])) else (none)))) else (none)) else (none)) else (some (x608000,x608001,x608002,x608003,x608004,x608005))
end
def impl_paperOf.f (k:Nat) (a0:Int) (l1:List (S62)):Option (Int × ByteArray × ByteArray × Int × List ByteArray × (List (S71))):=if 0<(l1.length:Int) then (if 0<(((rd_T62 l1 0).f1).length:Int) then (if 0<(((rd_T103 ((rd_T62 l1 0).f1) 0).f0).length:Int) then ((impl_hasTwo.f a0).bind fun t608=>(if t608=true then (if 1<(((rd_T62 l1 0).f1).length:Int) then (if 0<(((rd_T103 ((rd_T62 l1 0).f1) 1).f0).length:Int) then (impl_paperOf.j0 k a0 l1 a0 (rdOf ByteArray.empty ((rd_T103 ((rd_T62 l1 0).f1) 0).f0) 0) (rdOf ByteArray.empty ((rd_T103 ((rd_T62 l1 0).f1) 1).f0) 0) 0) else (none)) else (none)) else (impl_paperOf.j0 k a0 l1 a0 (rdOf ByteArray.empty ((rd_T103 ((rd_T62 l1 0).f1) 0).f0) 0) (⟨#[]⟩:ByteArray) 0))) else (none)) else (none)) else (none)
def slices_Equal_string_string.l0:Nat→List ByteArray→List ByteArray→Int→Int→Option (Bool)
 | 0,_,_,_,_=>none
 | k+1,x0,x1,x12,x13=>if x13<x12 then (if 0≤x13 then (if x13<(x0.length:Int) then (if x13<(x1.length:Int) then (if (rdOf ByteArray.empty x0 x13).toList=(rdOf ByteArray.empty x1 x13).toList then (slices_Equal_string_string.l0 k x0 x1 x12 (wrap64 (x13+1))) else (some false)) else (none)) else (none)) else (none)) else (some true)
def slices_Equal_string_string.f (k:Nat) (l0:List ByteArray) (l1:List ByteArray):Option (Bool):=if (l0.length:Int)=(l1.length:Int) then (slices_Equal_string_string.l0 k l0 l1 (l0.length:Int) 0) else (some false)
def impl_Line.l0:Nat→List (S71)→List (S71)→Int→Int→Option (Bool)
 | 0,_,_,_,_=>none
 | k+1,x0,x1,x12,x13=>if x13<x12 then (if 0≤x13 then (if x13<(x0.length:Int) then (if x13<(x1.length:Int) then (if (!(((rd_T71 x0 x13).f0) == ((rd_T71 x1 x13).f0)) || (!((((rd_T71 x0 x13).f1).toList) == (((rd_T71 x1 x13).f1).toList)) || (!(((rd_T71 x0 x13).f2) == ((rd_T71 x1 x13).f2)) || (!(((rd_T71 x0 x13).f3) == ((rd_T71 x1 x13).f3)) || (!((((rd_T71 x0 x13).f4).toList) == (((rd_T71 x1 x13).f4).toList)))))))=true then (some false) else (impl_Line.l0 k x0 x1 x12 (wrap64 (x13+1)))) else (none)) else (none)) else (none)) else (some true)
def impl_Line.f (k:Nat) (l0:List (S71)) (l1:List (S71)):Option (Bool):=if (l0.length:Int)=(l1.length:Int) then (impl_Line.l0 k l0 l1 (l0.length:Int) 0) else (some false)
def impl_same.f (k:Nat) (a0_0:Int) (a0_1:ByteArray) (a0_2:ByteArray) (a0_3:Int) (l0_4:List ByteArray) (l0_5:List (S71)) (a1_0:Int) (a1_1:ByteArray) (a1_2:ByteArray) (a1_3:Int) (l1_4:List ByteArray) (l1_5:List (S71)):Option (Bool):=if a0_0=a1_0 then (if a0_1.toList=a1_1.toList then (if a0_2.toList=a1_2.toList then (if a0_3=a1_3 then ((slices_Equal_string_string.f k l0_4 l1_4).bind fun t644=>(if t644=true then ((impl_Line.f k l0_5 l1_5).bind fun t645=>(some t645)) else (some false))) else (some false)) else (some false)) else (some false)) else (some false)
def impl_counts.f (a0:Int):Option (Bool):=(impl_within.f a0 1 4).bind fun t646=>(some t646)
def impl_namesItems.f (a0:Int):Option (Bool):=if a0=1 then (some true) else (if a0=5 then (some true) else (some (a0 == 6)))
def impl_wrongLine_1.f (a0_0:Int) (a0_1:ByteArray) (a0_2:Int) (a0_3:Int) (a0_4:ByteArray) (s1_0:Int) (s1_1:ByteArray) (s1_2:Int) (s1_3:Int) (s1_4:ByteArray):Option (Bool × Int × ByteArray × Int × Int × ByteArray):=some ((a0_1.toList == s1_1.toList),s1_0,s1_1,s1_2,s1_3,s1_4)
def impl_Line_impl_wrongLine_1_121.l0:Nat→List (S71)→Int→Int→Int→ByteArray→Int→Int→ByteArray→Option (Int × Int × ByteArray × Int × Int × ByteArray)
 | 0,_,_,_,_,_,_,_,_=>none
 | k+1,x0,x7,x8,x2000,x2001,x2002,x2003,x2004=>if x8<x7 then (if 0≤x8 then (if x8<(x0.length:Int) then ((impl_wrongLine_1.f ((rd_T71 x0 x8).f0) ((rd_T71 x0 x8).f1) ((rd_T71 x0 x8).f2) ((rd_T71 x0 x8).f3) ((rd_T71 x0 x8).f4) x2000 x2001 x2002 x2003 x2004).bind fun bt649=>(if bt649.1=true then (some (x8,bt649.2.1,bt649.2.2.1,bt649.2.2.2.1,bt649.2.2.2.2.1,bt649.2.2.2.2.2)) else (impl_Line_impl_wrongLine_1_121.l0 k x0 x7 (wrap64 (x8+1)) bt649.2.1 bt649.2.2.1 bt649.2.2.2.1 bt649.2.2.2.2.1 bt649.2.2.2.2.2))) else (none)) else (none)) else (some ((-1),x2000,x2001,x2002,x2003,x2004))
def impl_Line_impl_wrongLine_1_121.f (k:Nat) (l0:List (S71)) (s1_0:Int) (s1_1:ByteArray) (s1_2:Int) (s1_3:Int) (s1_4:ByteArray):Option (Int × Int × ByteArray × Int × Int × ByteArray):=impl_Line_impl_wrongLine_1_121.l0 k l0 (l0.length:Int) 0 s1_0 s1_1 s1_2 s1_3 s1_4
def impl_Line_impl_wrongLine_1_91.f (k:Nat) (l0:List (S71)) (s1_0:Int) (s1_1:ByteArray) (s1_2:Int) (s1_3:Int) (s1_4:ByteArray):Option (Bool × Int × ByteArray × Int × Int × ByteArray):=(impl_Line_impl_wrongLine_1_121.f k l0 s1_0 s1_1 s1_2 s1_3 s1_4).bind fun bt655=>(some (decide (bt655.1≥0),bt655.2.1,bt655.2.2.1,bt655.2.2.2.1,bt655.2.2.2.2.1,bt655.2.2.2.2.2))
mutual
def impl_wrongLine.l0:Nat→List (S71)→Int→Int→Int→ByteArray→ByteArray→Int→List ByteArray→List (S71)→Option (Int)
 | 0,_,_,_,_,_,_,_,_,_=>none
 | k+1,x6,x7,x8,x662000,x662001,x662002,x662003,x662004,x662005=>if x8<x7 then (if 0≤x8 then (if x8<(x6.length:Int) then ((impl_counts.f x662000).bind fun t664=>(if t664=true then ((impl_within.f ((rd_T71 x6 x8).f0) 1 999).bind fun t665=>(if t665=true then (if x8>0 then (if 0≤(wrap64 (x8 - 1)) then (if (wrap64 (x8 - 1))<(x662005.length:Int) then (impl_wrongLine.j1 k x8 x6 x7 x8 (decide (((rd_T71 x6 x8).f0)≤((rd_T71 x662005 (wrap64 (x8 - 1))).f0))) x662000 x662001 x662002 x662003 x662004 x662005 ((rd_T71 x6 x8).f0) ((rd_T71 x6 x8).f1) ((rd_T71 x6 x8).f2) ((rd_T71 x6 x8).f3) ((rd_T71 x6 x8).f4)) else (none)) else (none)) else (impl_wrongLine.j1 k x8 x6 x7 x8 false x662000 x662001 x662002 x662003 x662004 x662005 ((rd_T71 x6 x8).f0) ((rd_T71 x6 x8).f1) ((rd_T71 x6 x8).f2) ((rd_T71 x6 x8).f3) ((rd_T71 x6 x8).f4))) else (impl_wrongLine.j1 k x8 x6 x7 x8 true x662000 x662001 x662002 x662003 x662004 x662005 ((rd_T71 x6 x8).f0) ((rd_T71 x6 x8).f1) ((rd_T71 x6 x8).f2) ((rd_T71 x6 x8).f3) ((rd_T71 x6 x8).f4)))) else (impl_wrongLine.j1 k x8 x6 x7 x8 false x662000 x662001 x662002 x662003 x662004 x662005 ((rd_T71 x6 x8).f0) ((rd_T71 x6 x8).f1) ((rd_T71 x6 x8).f2) ((rd_T71 x6 x8).f3) ((rd_T71 x6 x8).f4)))) else (none)) else (none)) else (some (-1))
def impl_wrongLine.j1:Nat→Int→List (S71)→Int→Int→Bool→Int→ByteArray→ByteArray→Int→List ByteArray→List (S71)→Int→ByteArray→Int→Int→ByteArray→Option (Int)
 | 0,_,_,_,_,_,_,_,_,_,_,_,_,_,_,_,_=>none
 | k+1,x3,x6,x7,x8,x37,x662000,x662001,x662002,x662003,x662004,x662005,x664000,x664001,x664002,x664003,x664004=>if x37=true then (some x3) else ((impl_namesItems.f x662000).bind fun t667=>(if t667=true then (if 0≤x3 then (if x3≤(x662005.length:Int) then ((impl_Line_impl_wrongLine_1_91.f k (x662005.take (x3:Int).toNat) x664000 x664001 x664002 x664003 x664004).bind fun bt672=>(if bt672.1=true then (some x3) else (impl_wrongLine.l0 k x6 x7 (wrap64 (x8+1)) x662000 x662001 x662002 x662003 x662004 x662005))) else (none)) else (none)) else (impl_wrongLine.l0 k x6 x7 (wrap64 (x8+1)) x662000 x662001 x662002 x662003 x662004 x662005)))
end
def impl_wrongLine.f (k:Nat) (a0_0:Int) (a0_1:ByteArray) (a0_2:ByteArray) (a0_3:Int) (l0_4:List ByteArray) (l0_5:List (S71)):Option (Int):=impl_wrongLine.l0 k l0_5 (l0_5.length:Int) 0 a0_0 a0_1 a0_2 a0_3 l0_4 l0_5
def impl_PaperRight.j0:Nat→Bool→Int→ByteArray→ByteArray→Int→List ByteArray→List (S71)→Option (Bool)
 | 0,_,_,_,_,_,_,_=>none
 | k+1,x19,x679000,x679001,x679002,x679003,x679004,x679005=>if x19=true then (some false) else ((impl_bodyOf.f k x679000 x679001 x679002 x679003 x679004 x679005).bind fun t680=>((impl_TableCheck.f k x679000 t680).bind fun bt683=>(if bt683.2.2=0 then ((impl_paperOf.f k x679000 t680).bind fun bt686=>((impl_same.f k bt686.1 bt686.2.1 bt686.2.2.1 bt686.2.2.2.1 bt686.2.2.2.2.1 bt686.2.2.2.2.2 x679000 x679001 x679002 x679003 x679004 x679005).bind fun t696=>(if t696=true then ((impl_wrongLine.f k x679000 x679001 x679002 x679003 x679004 x679005).bind fun t697=>(some (decide (t697<0)))) else (some false)))) else (some false))))
def impl_PaperRight.f (k:Nat) (a0_0:Int) (a0_1:ByteArray) (a0_2:ByteArray) (a0_3:Int) (l0_4:List ByteArray) (l0_5:List (S71)):Option (Bool):=(impl_within.f a0_0 1 7).bind fun t679=>(if t679=true then (if (l0_4.length:Int)>2 then (impl_PaperRight.j0 k true a0_0 a0_1 a0_2 a0_3 l0_4 l0_5) else (impl_PaperRight.j0 k (decide ((l0_5.length:Int)>20)) a0_0 a0_1 a0_2 a0_3 l0_4 l0_5)) else (impl_PaperRight.j0 k true a0_0 a0_1 a0_2 a0_3 l0_4 l0_5))
def laws_eqStringS.l0:Nat→List ByteArray→List ByteArray→Int→Option (Bool)
 | 0,_,_,_=>none
 | k+1,x0,x1,x5=>if x5<(x0.length:Int) then (if 0≤x5 then (if x5<(x1.length:Int) then (if (rdOf ByteArray.empty x0 x5).toList=(rdOf ByteArray.empty x1 x5).toList then (laws_eqStringS.l0 k x0 x1 (wrap64 (x5+1))) else (some false)) else (none)) else (none)) else (some true)
def laws_eqStringS.f (k:Nat) (l0:List ByteArray) (l1:List ByteArray):Option (Bool):=if (l0.length:Int)=(l1.length:Int) then (laws_eqStringS.l0 k l0 l1 0) else (some false)
def laws_eqLine.f (a0_0:Int) (a0_1:ByteArray) (a0_2:Int) (a0_3:Int) (a0_4:ByteArray) (a1_0:Int) (a1_1:ByteArray) (a1_2:Int) (a1_3:Int) (a1_4:ByteArray):Option (Bool):=if a0_0=a1_0 then (if a0_1.toList=a1_1.toList then (if a0_2=a1_2 then (if a0_3=a1_3 then (if a0_4.toList=a1_4.toList then (some true) else (some false)) else (some false)) else (some false)) else (some false)) else (some false)
def laws_eqLineS.l0:Nat→List (S71)→List (S71)→Int→Option (Bool)
 | 0,_,_,_=>none
 | k+1,x0,x1,x5=>if x5<(x0.length:Int) then (if 0≤x5 then (if x5<(x1.length:Int) then ((laws_eqLine.f ((rd_T71 x0 x5).f0) ((rd_T71 x0 x5).f1) ((rd_T71 x0 x5).f2) ((rd_T71 x0 x5).f3) ((rd_T71 x0 x5).f4) ((rd_T71 x1 x5).f0) ((rd_T71 x1 x5).f1) ((rd_T71 x1 x5).f2) ((rd_T71 x1 x5).f3) ((rd_T71 x1 x5).f4)).bind fun t704=>(if t704=true then (laws_eqLineS.l0 k x0 x1 (wrap64 (x5+1))) else (some false))) else (none)) else (none)) else (some true)
def laws_eqLineS.f (k:Nat) (l0:List (S71)) (l1:List (S71)):Option (Bool):=if (l0.length:Int)=(l1.length:Int) then (laws_eqLineS.l0 k l0 l1 0) else (some false)
def laws_eqPaper.f (k:Nat) (a0_0:Int) (a0_1:ByteArray) (a0_2:ByteArray) (a0_3:Int) (l0_4:List ByteArray) (l0_5:List (S71)) (a1_0:Int) (a1_1:ByteArray) (a1_2:ByteArray) (a1_3:Int) (l1_4:List ByteArray) (l1_5:List (S71)):Option (Bool):=if a0_0=a1_0 then (if a0_1.toList=a1_1.toList then (if a0_2.toList=a1_2.toList then (if a0_3=a1_3 then ((laws_eqStringS.f k l0_4 l1_4).bind fun t707=>(if t707=true then ((laws_eqLineS.f k l0_5 l1_5).bind fun t708=>(if t708=true then (some true) else (some false))) else (some false))) else (some false)) else (some false)) else (some false)) else (some false)
def laws_FnExactPaperRight.f (k:Nat) (a0_0:Int) (a0_1:ByteArray) (a0_2:ByteArray) (a0_3:Int) (l0_4:List ByteArray) (l0_5:List (S98)):Option (Bool):=(laws_szPaper.f k a0_0 a0_1 a0_2 a0_3 l0_4 l0_5 1048576).bind fun t710=>(if t710<0 then (some true) else ((laws_toPaper.f k a0_0 a0_1 a0_2 a0_3 l0_4 l0_5).bind fun bt711=>((spec_PaperRight.f k bt711.1 bt711.2.1 bt711.2.2.1 bt711.2.2.2.1 bt711.2.2.2.2.1 bt711.2.2.2.2.2).bind fun t721=>((laws_toPaper.f k a0_0 a0_1 a0_2 a0_3 l0_4 l0_5).bind fun bt722=>((impl_PaperRight.f k bt722.1 bt722.2.1 bt722.2.2.1 bt722.2.2.2.1 bt722.2.2.2.2.1 bt722.2.2.2.2.2).bind fun t733=>(if (t733 != t721)=true then (some false) else ((laws_toPaper.f k a0_0 a0_1 a0_2 a0_3 l0_4 l0_5).bind fun bt734=>((laws_eqPaper.f k bt722.1 bt722.2.1 bt722.2.2.1 bt722.2.2.2.1 bt722.2.2.2.2.1 bt722.2.2.2.2.2 bt734.1 bt734.2.1 bt734.2.2.1 bt734.2.2.2.1 bt734.2.2.2.2.1 bt734.2.2.2.2.2).bind fun t744=>(if t744=true then (some true) else (some false))))))))))
set_option maxHeartbeats 8000000 in
set_option maxRecDepth 100000 in
theorem laws_szStringS.calls (k:Nat) (A0:Option Addr) (c0:Nat) (l0:List ByteArray) (a1:Int) (r:Int) (w:World) (hr0:Kd.C Kd.string w A0 l0.length l0) (hc0:l0.length≤c0) (H:laws_szStringS.f k l0 a1=some r) :
  Calls Tryz.prog 34 #[.slice A0 l0.length c0,.int .i64 a1] w fun e w'=>e=.returned (.int .i64 r)∧Drawn0 w w':=by
 have HR0:=am hr0;have HC0:=am hc0;clear hr0 hc0;unfold laws_szStringS.f at H
 revert H;refine id2 ?_ ?_
 ·intro c3b0 H;obtain rfl:=si H
  go_in
  go_wp2
  go_ret
  exact ⟨fg,by repeat (first|exact Drawn0.refl _|apply Drawn0.step)⟩
 ·intro c3b0 H;have H':=am H;clear H
  go_in
  go_wp2
  go_loopg [1,5] k (fun kq v1 v5 w'=>∃ (x1_1:Int) (x5_1:Int),v1=.int .i64 x1_1∧v5=.int .i64 x5_1∧Aside0 (laws_szStringS.l0 kq l0 x1_1 x5_1=some r)∧Aside0 (kq≤k)∧Drawn0 w w')
  case atStart=>exact ⟨(wrap64 (a1 - (l0.length:Int))),(0),fg,fg,H',⟨Nat.le_refl _⟩,by repeat (first|exact Drawn0.refl _|apply Drawn0.step)⟩
  case round =>
   clear H'
   try clear c3b0
   obtain ⟨x1_1,x5_1,rfl,rfl,HA,HK1,⟨m1,rfl⟩⟩:=hrel
   cases gk with
   | zero=>exact absurd HA.out (by simp [laws_szStringS.l0])
   | succ k1 =>
    have H:=HA.out;clear HA;simp only [laws_szStringS.l0] at H
    revert H;refine id2 ?_ ?_
    ·intro c4b0 H
     revert H;refine id1 ?_
     intro c5b0 H
     revert H;refine id2 ?_ ?_
     ·intro c6b0 H;obtain rfl:=si H;have p101:0≤(x5_1:Int):=oa;have q101:x5_1<(l0.length:Int):=oa;obtain ⟨ad101,e101,hx101_0⟩:=Kd.at_string HR0.out x5_1 p101 q101
      cases e101
      replace p101:=eq_true p101;replace q101:=eq_true q101
      go_wp2
      go_ret
      exact ⟨fg,by repeat (first|exact Drawn0.refl _|apply Drawn0.step)⟩
     ·intro c6b0 H;have H':=am H;clear H;have p101:0≤(x5_1:Int):=oa;have q101:x5_1<(l0.length:Int):=oa;obtain ⟨ad101,e101,hx101_0⟩:=Kd.at_string HR0.out x5_1 p101 q101
      cases e101
      replace p101:=eq_true p101;replace q101:=eq_true q101
      go_wp2
      go_roundg k1
      case measure=>have:=HK1.out;omega
      case rel=>exact ⟨(wrap64 (x1_1 - ((rdOf ByteArray.empty l0 x5_1).size:Int))),(wrap64 (x5_1+1)),fg,fg,H',⟨by have:=HK1.out;omega⟩,by repeat (first|exact Drawn0.refl _|apply Drawn0.step)⟩
    ·intro c4b0 H;obtain rfl:=si H
     go_wp2
     go_ret
     exact ⟨fg,by repeat (first|exact Drawn0.refl _|apply Drawn0.step)⟩
set_option maxHeartbeats 8000000 in
set_option maxRecDepth 100000 in
theorem laws_szLine.calls (a0_0:Int) (a0_1:ByteArray) (a0_2:Int) (a0_3:Int) (a0_4:ByteArray) (a1:Int) (r:Int) (w:World) (H:laws_szLine.f a0_0 a0_1 a0_2 a0_3 a0_4 a1=some r) :
  Calls Tryz.prog 74 #[.agg #[.int .i64 a0_0,.string a0_1,.int .i64 a0_2,.int .i64 a0_3,.string a0_4],.int .i64 a1] w fun e w'=>e=.returned (.int .i64 r)∧Below w.heap.size w w':=by
 have hu98:=Tryz.underlying98;have HB:=am (Below.refl w.heap.size w);unfold laws_szLine.f at H
 revert H;refine id2 ?_ ?_
 ·intro c3b0 H;obtain rfl:=si H
  go_in
  go_wp2_with (first|((with_reducible refine gate_dst (N:=2) rfl ?_);refine bx 2 (cs:=#[.int .i64 a0_0,.string a0_1,.int .i64 a0_2,.int .i64 a0_3,.string a0_4]) (t:=98) ?_;intro gb102 hg w4 hbox hb;have BK102:=am (hbox);have GW102:=am ((gs hg (bs HB)));have GE102:=am ((gs hg (bs HB)));replace HB:=am (below_step (bs HB) hb);clear hb hbox hg;have hcz5:=cf5 BK102))
  go_ret
  exact ⟨ff,bs HB⟩
 ·intro c3b0 H
  revert H;refine id2 ?_ ?_
  ·intro c6b0 H;obtain rfl:=si H
   go_in
   go_wp2_with (first|((with_reducible refine gate_dst (N:=2) rfl ?_);refine bx 2 (cs:=#[.int .i64 a0_0,.string a0_1,.int .i64 a0_2,.int .i64 a0_3,.string a0_4]) (t:=98) ?_;intro gb102 hg w7 hbox hb;have BK102:=am (hbox);have GW102:=am ((gs hg (bs HB)));have GE102:=am ((gs hg (bs HB)));replace HB:=am (below_step (bs HB) hb);clear hb hbox hg;have hcz8:=cf5 BK102))
   go_ret
   exact ⟨ff,bs HB⟩
  ·intro c6b0 H;obtain rfl:=si H
   go_in
   go_wp2_with (first|((with_reducible refine gate_dst (N:=2) rfl ?_);refine bx 2 (cs:=#[.int .i64 a0_0,.string a0_1,.int .i64 a0_2,.int .i64 a0_3,.string a0_4]) (t:=98) ?_;intro gb102 hg w9 hbox hb;have BK102:=am (hbox);have GW102:=am ((gs hg (bs HB)));have GE102:=am ((gs hg (bs HB)));replace HB:=am (below_step (bs HB) hb);clear hb hbox hg;have hcz10:=cf5 BK102))
   go_ret
   exact ⟨ff,bs HB⟩
set_option maxHeartbeats 8000000 in
set_option maxRecDepth 100000 in
theorem laws_szLineS.calls (k:Nat) (A0:Option Addr) (c0:Nat) (l0:List (S98)) (a1:Int) (r:Int) (w:World) (hr0:Kd.C k98 w A0 l0.length l0) (hc0:l0.length≤c0) (H:laws_szLineS.f k l0 a1=some r) :
  Calls Tryz.prog 35 #[.slice A0 l0.length c0,.int .i64 a1] w fun e w'=>e=.returned (.int .i64 r)∧Below w.heap.size w w':=by
 have hu98:=Tryz.underlying98;have HR0:=am hr0;have HC0:=am hc0;clear hr0 hc0;have HB:=am (Below.refl w.heap.size w);unfold laws_szLineS.f at H
 revert H;refine id2 ?_ ?_
 ·intro c3b0 H;obtain rfl:=si H
  go_in
  go_wp2
  go_ret
  exact ⟨ff,bs HB⟩
 ·intro c3b0 H;have H':=am H;clear H
  go_in
  go_wp2
  go_loopg [1,5] k (fun kq v1 v5 w'=>∃ (x1_1:Int) (x5_1:Int),v1=.int .i64 x1_1∧v5=.int .i64 x5_1∧Aside0 (laws_szLineS.l0 kq l0 x1_1 x5_1=some r)∧Aside0 (kq≤k)∧Aside0 (Below w.heap.size w w'))
  case atStart=>exact ⟨(wrap64 (a1 - (l0.length:Int))),(0),fg,fg,H',⟨Nat.le_refl _⟩,⟨bs HB⟩⟩
  case round =>
   clear H'
   try clear c3b0
   obtain ⟨x1_1,x5_1,rfl,rfl,HA,HK1,HB⟩:=hrel
   cases gk with
   | zero=>exact absurd HA.out (by simp [laws_szLineS.l0])
   | succ k1 =>
    have H:=HA.out;clear HA;simp only [laws_szLineS.l0] at H
    revert H;refine id2 ?_ ?_
    ·intro c4b0 H
     revert H;refine id1 ?_
     intro c5b0 H;replace H:=bo H;obtain ⟨t104,A6,H⟩:=H;have p103:0≤(x5_1:Int):=oa;have q103:x5_1<(l0.length:Int):=oa;obtain ⟨ad103,e103,hx103_0,hx103_1,hx103_2,hx103_3,hx103_4⟩:=at_T98 HR0.out x5_1 p103 q103
     cases e103
     replace hx103_0:=cb HB hx103_0;replace hx103_1:=cb HB hx103_1;replace hx103_2:=cb HB hx103_2;replace hx103_3:=cb HB hx103_3;replace hx103_4:=cb HB hx103_4;replace p103:=eq_true p103;replace q103:=eq_true q103
     try go_wp2_with (fail)
     go_at_call 74;(with_reducible refine (laws_szLine.calls ((rd_T98 l0 x5_1).f0) ((rd_T98 l0 x5_1).f1) ((rd_T98 l0 x5_1).f2) ((rd_T98 l0 x5_1).f3) ((rd_T98 l0 x5_1).f4) x1_1 t104 _ A6.out).mono ?_);rintro e w7 ⟨rfl,hb⟩;replace HB:=am (below_step (bs HB) hb);(try clear hb);(try clear hb2);(try clear hk);(try clear hi)
     revert H;refine id2 ?_ ?_
     ·intro c8b0 H;obtain rfl:=si H
      go_wp2
      go_ret
      exact ⟨ff,bs HB⟩
     ·intro c8b0 H;have H':=am H;clear H
      go_wp2
      go_roundg k1
      case measure=>have:=HK1.out;omega
      case rel=>exact ⟨(t104),(wrap64 (x5_1+1)),fg,fg,H',⟨by have:=HK1.out;omega⟩,⟨bs HB⟩⟩
    ·intro c4b0 H;obtain rfl:=si H
     go_wp2
     go_ret
     exact ⟨ff,bs HB⟩
set_option maxHeartbeats 8000000 in
set_option maxRecDepth 100000 in
theorem laws_szPaper.calls (k:Nat) (a0_0:Int) (a0_1:ByteArray) (a0_2:ByteArray) (a0_3:Int) (A0_4:Option Addr) (c0_4:Nat) (l0_4:List ByteArray) (A0_5:Option Addr) (c0_5:Nat) (l0_5:List (S98)) (a1:Int) (r:Int) (w:World) (hr0_4:Kd.C Kd.string w A0_4 l0_4.length l0_4) (hc0_4:l0_4.length≤c0_4) (hr0_5:Kd.C k98 w A0_5 l0_5.length l0_5) (hc0_5:l0_5.length≤c0_5) (H:laws_szPaper.f k a0_0 a0_1 a0_2 a0_3 l0_4 l0_5 a1=some r) :
  Calls Tryz.prog 8 #[.agg #[.int .i64 a0_0,.string a0_1,.string a0_2,.int .i64 a0_3,.slice A0_4 l0_4.length c0_4,.slice A0_5 l0_5.length c0_5],.int .i64 a1] w fun e w'=>e=.returned (.int .i64 r)∧Below w.heap.size w w':=by
 have hu25:=Tryz.underlying25;have HR0_4:=am hr0_4;have HC0_4:=am hc0_4;clear hr0_4 hc0_4;have HR0_5:=am hr0_5;have HC0_5:=am hc0_5;clear hr0_5 hc0_5;have HB:=am (Below.refl w.heap.size w);unfold laws_szPaper.f at H
 revert H;refine id2 ?_ ?_
 ·intro c3b0 H;obtain rfl:=si H
  go_in
  go_wp2_with (first|((with_reducible refine gate_dst (N:=2) rfl ?_);refine bx 2 (cs:=#[.int .i64 a0_0,.string a0_1,.string a0_2,.int .i64 a0_3,.slice A0_4 l0_4.length c0_4,.slice A0_5 l0_5.length c0_5]) (t:=25) ?_;intro gb105 hg w4 hbox hb;have BK105:=am (hbox);have GW105:=am ((gs hg (bs HB)));have GE105:=am ((gs hg (bs HB)));replace HB:=am (below_step (bs HB) hb);clear hb hbox hg;have hcz5:=cf6 BK105))
  go_ret
  exact ⟨ff,bs HB⟩
 ·intro c3b0 H
  revert H;refine id2 ?_ ?_
  ·intro c6b0 H;obtain rfl:=si H
   go_in
   go_wp2_with (first|((with_reducible refine gate_dst (N:=2) rfl ?_);refine bx 2 (cs:=#[.int .i64 a0_0,.string a0_1,.string a0_2,.int .i64 a0_3,.slice A0_4 l0_4.length c0_4,.slice A0_5 l0_5.length c0_5]) (t:=25) ?_;intro gb105 hg w7 hbox hb;have BK105:=am (hbox);have GW105:=am ((gs hg (bs HB)));have GE105:=am ((gs hg (bs HB)));replace HB:=am (below_step (bs HB) hb);clear hb hbox hg;have hcz8:=cf6 BK105))
   go_ret
   exact ⟨ff,bs HB⟩
  ·intro c6b0 H;replace H:=bo H;obtain ⟨t106,A9,H⟩:=H
   go_in
   try go_wp2_with (first|((with_reducible refine gate_dst (N:=2) rfl ?_);refine bx 2 (cs:=#[.int .i64 a0_0,.string a0_1,.string a0_2,.int .i64 a0_3,.slice A0_4 l0_4.length c0_4,.slice A0_5 l0_5.length c0_5]) (t:=25) ?_;intro gb105 hg w10 hbox hb;have BK105:=am (hbox);have GW105:=am ((gs hg (bs HB)));have GE105:=am ((gs hg (bs HB)));replace HB:=am (below_step (bs HB) hb);clear hb hbox hg;have hcz11:=cf6 BK105))
   go_at_call 34;(with_reducible refine (laws_szStringS.calls k _ _ l0_4 (wrap64 ((wrap64 (a1 - (a0_1.size:Int))) - (a0_2.size:Int))) t106 _ (Kd.C_below HR0_4.out (bs HB)) HC0_4.out A9.out).mono ?_);rintro e w' ⟨rfl,⟨nd,rfl⟩⟩
   revert H;refine id2 ?_ ?_
   ·intro c12b0 H;obtain rfl:=si H
    go_wp2
    go_ret
    exact ⟨ff,bs HB⟩
   ·intro c12b0 H;replace H:=bo H;obtain ⟨t107,A13,H⟩:=H;have hcz14:=cf6 BK105
    try go_wp2_with (fail)
    go_at_call 35;(with_reducible refine (laws_szLineS.calls k _ _ l0_5 t106 t107 _ ?side1 HC0_5.out A13.out).mono ?_);(case side1=>repeat (first|exact (Kd.C_below HR0_5.out (bs HB))|(with_reducible refine Kd.C_alloc ?_ _)|(with_reducible refine Kd.C_drewN ?_ _)|(with_reducible refine Kd.C_drew ?_)));rintro e w15 ⟨rfl,hb⟩;replace BK105:=am (blk_below (ks BK105) hb);replace HB:=am (below_step (bs HB) hb);(try clear hb);(try clear hb2);(try clear hk);(try clear hi)
    revert H;refine id2 ?_ ?_
    ·intro c16b0 H;obtain rfl:=si H
     go_wp2
     go_ret
     exact ⟨ff,bs HB⟩
    ·intro c16b0 H;obtain rfl:=si H
     go_wp2
     go_ret
     exact ⟨ff,bs HB⟩
set_option maxHeartbeats 8000000 in
set_option maxRecDepth 100000 in
theorem laws_toStringS.calls (k:Nat) (A0:Option Addr) (c0:Nat) (l0:List ByteArray) (r:List ByteArray) (w:World) (hr0:Kd.C Kd.string w A0 l0.length l0) (hc0:l0.length≤c0) (H:laws_toStringS.f k l0=some r) :
  Calls Tryz.prog 38 #[.slice A0 l0.length c0] w fun e w'=>∃ v0_:Value,e=.returned (v0_)∧Kd.R Kd.string 9 w' w.heap.size (fun _=>True) v0_ r∧Below w.heap.size w w':=by
 have HR0:=am hr0;have HC0:=am hc0;clear hr0 hc0;have HB:=am (Below.refl w.heap.size w);unfold laws_toStringS.f at H
 revert H;refine ip2 ?_ ?_
 ·intro c2 H;have c2b0:=eq_true c2;have c2b1:decide (0≤(l0.length:Int))=true:=decide_eq_true c2;clear c2
  revert H;refine ip1 ?_
  intro c3 H;have c3b0:=eq_true c3;have c3b1:decide (((l0.length:Int):Int).toNat≤17592186044416)=true:=decide_eq_true c3;clear c3;obtain ⟨y108,hy108⟩:∃ y_:List ByteArray,y_=(List.replicate ((l0.length:Int):Int).toNat (⟨#[]⟩:ByteArray)):=⟨_,rfl⟩
  replace H:(laws_toStringS.l0 k l0 y108 0)=some r:=ye hy108 H
  have Ny108:=am hy108;clear hy108;have H':=am H;clear H
  go_in
  go_wp2_with (first|((with_reducible refine gate_dst (N:=7) rfl ?_);refine Kd.R_make Kd.string _ 9 rfl (N:=7) rfl 22 _ _ rfl (l0.length:Int) rfl rfl Tryz.underlying22 (.string ⟨#[]⟩) 16 info9 rfl (by decide) (by omega) (⟨#[]⟩:ByteArray) (ok:=fun _=>True) (okp:=fun _=>True) rfl (fun _ hk=>hk) trivial (oa) (Nat.le_trans (Nat.mul_le_mul_right _ (oa:(l0.length:Int).toNat≤17592186044416)) (by omega)) (Below.refl _ _) (Nat.le_refl _) ?_;intro v109 w4 ho5 hb hg_ hnew_;clear hg_ hnew_;(first|rw [← Ny108.out] at ho5|(simp only [Int.reduceToNat] at ho5;rw [← Ny108.out] at ho5));have HO110:=am (Kd.R_lower ho5 (below_size (bs HB)));replace HB:=am (below_step (bs HB) hb);clear hb ho5))
  go_loopg [4] k (fun kq v4 w'=>∃ (x3_1:List ByteArray) (x4_1:Int),v4=.int .i64 x4_1∧Aside0 (laws_toStringS.l0 kq l0 x3_1 x4_1=some r)∧Aside0 (kq≤k)∧Aside0 (Kd.R Kd.string 9 w' w.heap.size (fun _=>True) v109 x3_1)∧Aside0 (Below w.heap.size w w'))
  case atStart=>exact ⟨(y108),(0),fg,H',⟨Nat.le_refl _⟩,⟨by (with_reducible repeat (first|apply Kd.R_alloc|apply Kd.R_drewN|apply Kd.R_drew));exact HO110.out⟩,⟨bs HB⟩⟩
  case round =>
   clear H'
   try clear c2
   try clear c2b0
   try clear c2b1
   try clear c3
   try clear c3b0
   try clear c3b1
   obtain ⟨x3_1,x4_1,rfl,HA,HK1,HO_3,HB⟩:=hrel
   cases gk with
   | zero=>exact absurd HA.out (by simp [laws_toStringS.l0])
   | succ k1 =>
    have H:=HA.out;clear HA;simp only [laws_toStringS.l0] at H
    revert H;refine id2 ?_ ?_
    ·intro c6b0 H
     revert H;refine id1 ?_
     intro c7b0 H
     revert H;refine id1 ?_
     intro c8b0 H;obtain ⟨y112,hy112⟩:∃ y_:List ByteArray,y_=(x3_1.set (x4_1:Int).toNat (rdOf ByteArray.empty l0 x4_1)):=⟨_,rfl⟩
     replace H:(laws_toStringS.l0 k1 l0 y112 (wrap64 (x4_1+1)))=some r:=ye hy112 H
     have Ny112:=am hy112;clear hy112;have H':=am H;clear H;have p111:0≤(x4_1:Int):=oa;have q111:x4_1<(l0.length:Int):=oa;obtain ⟨ad111,e111,hx111_0⟩:=Kd.at_string HR0.out x4_1 p111 q111
     cases e111
     replace hx111_0:=cb HB hx111_0;replace p111:=eq_true p111;replace q111:=eq_true q111;have p9:0≤(x4_1:Int):=oa;have q9:(x4_1:Int)<((x3_1.length:Int):Int):=oa;obtain ⟨go9,co9,eo9,gb9,gl9,cl9,HG9⟩:=Kd.R_form HO_3.out (by omega)
     (first|cases eo9|(injection eo9 with ea_ en_ ec_;(first|subst ea_|(injection ea_ with ea_;subst ea_));subst ec_;clear en_))
     have GB9:=am gb9;have GG9:=am HG9;clear gb9 gl9 HG9;obtain ⟨hx9_0,hf9_0⟩:=Kd.R_celln (⟨#[]⟩:ByteArray) HO_3.out (x4_1:Int) p9 q9;replace p9:=eq_true p9;replace q9:=eq_true q9;have HP10:=Kd.R_putg HO_3.out (x4_1:Int) (rdOf ByteArray.empty l0 x4_1)
     go_wp2_with (first|((with_reducible refine gate_store (t:=9) (p:=20) rfl ?_);refine store_event (t:=9) (p:=20) (v:=?vo_w11) (w1:=(wr.setCell ⟨go9,(x4_1:Int).toNat,none⟩ (.string (rdOf ByteArray.empty l0 x4_1)))) ?hg ?ho ?hn ?hr ?_;(case ho=>rfl);(case hg=>rfl);(case hn=>rfl);(case hr=>first|(go_simp;done)|(go_simp;rfl));intro w11 hw;have hg:wr.grownBy w11 (some go9):=(by rw [hw];exact HP10.2);have hp_:Kd.R Kd.string 9 w11 w.heap.size (fun _=>True) (.slice (some ⟨go9,0,none⟩) x3_1.length co9) y112:=(by rw [hw,Ny112.out];exact HP10.1);clear HP10;have n0_:=am (hp_);have n1_:=am ((by rw [hw];exact below_set (HB.out) GB9.out:Below w.heap.size w w11));clear HO_3;clear HB;have HO_3:=n0_;have HB:=n1_;clear n0_ n1_;clear hg hw hp_))
     go_roundg k1
     case measure=>have:=HK1.out;omega
     case rel=>exact ⟨(y112),(wrap64 (x4_1+1)),fg,H',⟨by have:=HK1.out;omega⟩,⟨by (with_reducible repeat (first|apply Kd.R_alloc|apply Kd.R_drewN|apply Kd.R_drew));exact HO_3.out⟩,⟨bs HB⟩⟩
    ·intro c6b0 H;obtain rfl:=si H
     go_wp2
     go_ret
     exact ⟨_,ff,by (with_reducible repeat (first|apply Kd.R_alloc|apply Kd.R_drewN|apply Kd.R_drew));exact HO_3.out,bs HB⟩
 ·intro c2 H
  exact absurd H (by simp)
set_option maxHeartbeats 8000000 in
set_option maxRecDepth 100000 in
theorem laws_toLine.calls (a0_0:Int) (a0_1:ByteArray) (a0_2:Int) (a0_3:Int) (a0_4:ByteArray) (r1:Int) (r2:ByteArray) (r3:Int) (r4:Int) (r5:ByteArray) (w:World) (H:laws_toLine.f a0_0 a0_1 a0_2 a0_3 a0_4=some (r1,r2,r3,r4,r5)) :
  Calls Tryz.prog 80 #[.agg #[.int .i64 a0_0,.string a0_1,.int .i64 a0_2,.int .i64 a0_3,.string a0_4]] w fun e w'=>e=.returned (.agg #[.int .i64 r1,.string r2,.int .i64 r3,.int .i64 r4,.string r5])∧Below w.heap.size w w':=by
 have hu98:=Tryz.underlying98;have hu71:=Tryz.underlying71;have HB:=am (Below.refl w.heap.size w);unfold laws_toLine.f at H;replace H:=sj5 H;obtain ⟨rfl,rfl,rfl,rfl,rfl⟩:=H
 go_in
 go_wp2_with (first|((with_reducible refine gate_dst (N:=1) rfl ?_);refine bx 1 (cs:=#[.int .i64 a0_0,.string a0_1,.int .i64 a0_2,.int .i64 a0_3,.string a0_4]) (t:=98) ?_;intro gb113 hg w2 hbox hb;have BK113:=am (hbox);have GW113:=am ((gs hg (bs HB)));have GE113:=am ((gs hg (bs HB)));replace HB:=am (below_step (bs HB) hb);clear hb hbox hg)|((with_reducible refine gate_dst (N:=2) rfl ?_);refine bx 2 (cs:=#[.int .i64 0,.string (⟨#[]⟩:ByteArray),.int .i64 0,.int .i64 0,.string (⟨#[]⟩:ByteArray)]) (t:=71) ?_;intro gb114 hg w3 hbox hb;have BK114:=am (hbox);have GW114:=am ((gs hg (bs HB)));have GE114:=am ((gs hg (bs HB)));replace HB:=am (below_step (bs HB) hb);have NB113_114:=am ((gn hg (ks BK113)));have NB114_113:=am ((gm hg (ks BK113)));replace BK113:=am (blk_below (ks BK113) hb);clear hb hbox hg)|((with_reducible refine gate_dst (N:=3) rfl ?_);refine bx 3 (cs:=#[.int .i64 0,.string (⟨#[]⟩:ByteArray),.int .i64 0,.int .i64 0,.string (⟨#[]⟩:ByteArray)]) (t:=71) ?_;intro gb115 hg w4 hbox hb;have BK115:=am (hbox);have GW115:=am ((gs hg (bs HB)));have GE115:=am ((gs hg (bs HB)));replace HB:=am (below_step (bs HB) hb);have NB113_115:=am ((gn hg (ks BK113)));have NB115_113:=am ((gm hg (ks BK113)));replace BK113:=am (blk_below (ks BK113) hb);have NB114_115:=am ((gn hg (ks BK114)));have NB115_114:=am ((gm hg (ks BK114)));replace BK114:=am (blk_below (ks BK114) hb);clear hb hbox hg;have hnb5:=NB113_114.out;have hnc5:=NB114_113.out;have hnb6:=NB113_115.out;have hnc6:=NB115_113.out;have hcz7:=cf5 BK113;have hnb8:=NB115_114.out;have hnc8:=NB114_115.out;have hcz9:=cf5 BK115;have hcz10:=cf5 BK114))
 refine bodyPost_ret (results_cell_row rfl _ _ gb114 71 #[.int .i64 a0_0,.string a0_1,.int .i64 a0_2,.int .i64 a0_3,.string a0_4] (0,0) _ rfl (kp BK114) Tryz.underlying71 rfl (by kernel_rfl)) rfl ?_
 exact ⟨ff,bs HB⟩
set_option maxHeartbeats 8000000 in
set_option maxRecDepth 100000 in
theorem laws_toLineS.calls (k:Nat) (A0:Option Addr) (c0:Nat) (l0:List (S98)) (r:List (S71)) (w:World) (hr0:Kd.C k98 w A0 l0.length l0) (hc0:l0.length≤c0) (H:laws_toLineS.f k l0=some r) :
  Calls Tryz.prog 39 #[.slice A0 l0.length c0] w fun e w'=>∃ v0_:Value,e=.returned (v0_)∧Kd.R k71 71 w' w.heap.size (fun _=>True) v0_ r∧Below w.heap.size w w':=by
 have hu98:=Tryz.underlying98;have hu71:=Tryz.underlying71;have HR0:=am hr0;have HC0:=am hc0;clear hr0 hc0;have HB:=am (Below.refl w.heap.size w);unfold laws_toLineS.f at H
 revert H;refine ip2 ?_ ?_
 ·intro c2 H;have c2b0:=eq_true c2;have c2b1:decide (0≤(l0.length:Int))=true:=decide_eq_true c2;clear c2
  revert H;refine ip1 ?_
  intro c3 H;have c3b0:=eq_true c3;have c3b1:decide (((l0.length:Int):Int).toNat≤5026338869833)=true:=decide_eq_true c3;clear c3;obtain ⟨y116,hy116⟩:∃ y_:List (S71),y_=(List.replicate ((l0.length:Int):Int).toNat z71):=⟨_,rfl⟩
  replace H:(laws_toLineS.l0 k l0 y116 0)=some r:=ye hy116 H
  have Ny116:=am hy116;clear hy116;have H':=am H;clear H
  go_in
  go_wp2_with (first|((with_reducible refine gate_dst (N:=7) rfl ?_);refine Kd.R_make k71 _ 71 rfl (N:=7) rfl 28 _ _ rfl (l0.length:Int) rfl rfl Tryz.underlying28 (.agg #[(.int .i64 0),(.string ⟨#[]⟩),(.int .i64 0),(.int .i64 0),(.string ⟨#[]⟩)]) 56 info71 rfl (by decide) (by omega) z71 (ok:=fun _=>True) (okp:=fun _=>True) (k71_mkM _ _ _ z71 ) (fun _ hk=>hk) trivial (oa) (Nat.le_trans (Nat.mul_le_mul_right _ (oa:(l0.length:Int).toNat≤5026338869833)) (by omega)) (Below.refl _ _) (Nat.le_refl _) ?_;intro v117 w4 ho5 hb hg_ hnew_;clear hg_ hnew_;(first|rw [← Ny116.out] at ho5|(simp only [Int.reduceToNat] at ho5;rw [← Ny116.out] at ho5));have HO118:=am (Kd.R_lower ho5 (below_size (bs HB)));replace HB:=am (below_step (bs HB) hb);clear hb ho5))
  go_loopg [4] k (fun kq v4 w'=>∃ (x3_1:List (S71)) (x4_1:Int),v4=.int .i64 x4_1∧Aside0 (laws_toLineS.l0 kq l0 x3_1 x4_1=some r)∧Aside0 (kq≤k)∧Aside0 (Kd.R k71 71 w' w.heap.size (fun _=>True) v117 x3_1)∧Aside0 (Below w.heap.size w w'))
  case atStart=>exact ⟨(y116),(0),fg,H',⟨Nat.le_refl _⟩,⟨by (with_reducible repeat (first|apply Kd.R_alloc|apply Kd.R_drewN|apply Kd.R_drew));exact HO118.out⟩,⟨bs HB⟩⟩
  case round =>
   clear H'
   try clear c2
   try clear c2b0
   try clear c2b1
   try clear c3
   try clear c3b0
   try clear c3b1
   obtain ⟨x3_1,x4_1,rfl,HA,HK1,HO_3,HB⟩:=hrel
   cases gk with
   | zero=>exact absurd HA.out (by simp [laws_toLineS.l0])
   | succ k1 =>
    have H:=HA.out;clear HA;simp only [laws_toLineS.l0] at H
    revert H;refine id2 ?_ ?_
    ·intro c6b0 H
     revert H;refine id1 ?_
     intro c7b0 H;replace H:=bo H;obtain ⟨⟨t120,t121,t122,t123,t124⟩,A8,H⟩:=H;(try dsimp only at H)
     revert H;refine id1 ?_
     intro c9b0 H;obtain ⟨y125,hy125⟩:∃ y_:List (S71),y_=(x3_1.set (x4_1:Int).toNat (⟨t120,t121,t122,t123,t124⟩:S71)):=⟨_,rfl⟩
     replace H:(laws_toLineS.l0 k1 l0 y125 (wrap64 (x4_1+1)))=some r:=ye hy125 H
     have Ny125:=am hy125;clear hy125;have H':=am H;clear H;have p119:0≤(x4_1:Int):=oa;have q119:x4_1<(l0.length:Int):=oa;obtain ⟨ad119,e119,hx119_0,hx119_1,hx119_2,hx119_3,hx119_4⟩:=at_T98 HR0.out x4_1 p119 q119
     cases e119
     replace hx119_0:=cb HB hx119_0;replace hx119_1:=cb HB hx119_1;replace hx119_2:=cb HB hx119_2;replace hx119_3:=cb HB hx119_3;replace hx119_4:=cb HB hx119_4;replace p119:=eq_true p119;replace q119:=eq_true q119
     go_wp2_with (first|((first|((with_reducible refine gate_callee (f:=80) rfl ?_);refine goesL_ (some 20) rfl rfl Tryz.func80 (by kernel_rfl) rfl #[.agg #[.int .i64 ((rd_T98 l0 x4_1).f0),.string ((rd_T98 l0 x4_1).f1),.int .i64 ((rd_T98 l0 x4_1).f2),.int .i64 ((rd_T98 l0 x4_1).f3),.string ((rd_T98 l0 x4_1).f4)]] rfl (by (try simp only [List.map_toArray,List.map_cons,List.map_nil]);first|done|rfl|(simp only [List.length_drop,List.length_take];rfl)) ?_;(with_reducible refine (laws_toLine.calls ((rd_T98 l0 x4_1).f0) ((rd_T98 l0 x4_1).f1) ((rd_T98 l0 x4_1).f2) ((rd_T98 l0 x4_1).f3) ((rd_T98 l0 x4_1).f4) t120 t121 t122 t123 t124 _ A8.out).mono ?_);rintro e w11 ⟨rfl,hb⟩;refine ⟨_,rfl,?_⟩)|(go_at_call 80;(with_reducible refine (laws_toLine.calls ((rd_T98 l0 x4_1).f0) ((rd_T98 l0 x4_1).f1) ((rd_T98 l0 x4_1).f2) ((rd_T98 l0 x4_1).f3) ((rd_T98 l0 x4_1).f4) t120 t121 t122 t123 t124 _ A8.out).mono ?_);rintro e w11 ⟨rfl,hb⟩));replace HO_3:=am (Kd.R_below (rs HO_3) hb);replace HB:=am (below_step (bs HB) hb);(try clear hb);(try clear hb2);(try clear hk);(try clear hi);have p10:0≤(x4_1:Int):=oa;have q10:(x4_1:Int)<((x3_1.length:Int):Int):=oa;obtain ⟨go10,co10,eo10,gb10,gl10,cl10,HG10⟩:=Kd.R_form HO_3.out (by omega);(first|cases eo10|(injection eo10 with ea_ en_ ec_;(first|subst ea_|(injection ea_ with ea_;subst ea_));subst ec_;clear en_));have GB10:=am gb10;have GG10:=am HG10;clear gb10 gl10 HG10;obtain ⟨ce10,hcl10,hM10,hcc10,hfr10⟩:=Kd.R_elem HO_3.out z71 (x4_1:Int) p10 q10;obtain rfl:=k71_openM hM10;have hx10_0:w11.cell? ⟨go10,(x4_1:Int).toNat * 5,none⟩=some (.int .i64 ((rd_T71 x3_1 x4_1).f0)):=hcc10 0 _ rfl;have hx10_1:w11.cell? ⟨go10,(x4_1:Int).toNat * 5+1,none⟩=some (.string ((rd_T71 x3_1 x4_1).f1)):=hcc10 1 _ rfl;have hx10_2:w11.cell? ⟨go10,(x4_1:Int).toNat * 5+2,none⟩=some (.int .i64 ((rd_T71 x3_1 x4_1).f2)):=hcc10 2 _ rfl;have hx10_3:w11.cell? ⟨go10,(x4_1:Int).toNat * 5+3,none⟩=some (.int .i64 ((rd_T71 x3_1 x4_1).f3)):=hcc10 3 _ rfl;have hx10_4:w11.cell? ⟨go10,(x4_1:Int).toNat * 5+4,none⟩=some (.string ((rd_T71 x3_1 x4_1).f4)):=hcc10 4 _ rfl;have hf10_0:w11.frozen? ⟨go10,(x4_1:Int).toNat * 5,none⟩=false:=hfr10 0;have hf10_1:w11.frozen? ⟨go10,(x4_1:Int).toNat * 5+1,none⟩=false:=hfr10 1;have hf10_2:w11.frozen? ⟨go10,(x4_1:Int).toNat * 5+2,none⟩=false:=hfr10 2;have hf10_3:w11.frozen? ⟨go10,(x4_1:Int).toNat * 5+3,none⟩=false:=hfr10 3;have hf10_4:w11.frozen? ⟨go10,(x4_1:Int).toNat * 5+4,none⟩=false:=hfr10 4;clear hcl10 hcc10 hfr10 hM10;replace p10:=eq_true p10;replace q10:=eq_true q10;have HX12:=am (show Kd.R k71 71 w11 w.heap.size (fun _=>True) (.slice (some ⟨go10,0,none⟩) x3_1.length co10) x3_1 from (rs HO_3));obtain ⟨ce12,hcl12,hM12,hcc12,hfr12⟩:=Kd.R_elem HX12.out z71 (x4_1:Int) (oa) (by have h_:(x4_1:Int)<((x3_1.length:Int):Int):=oa;first|exact h_|(have e_:=(Kd.R_reads' HO_3.out).1;omega)|simpa using h_);obtain rfl:=k71_openM hM12;have HP12:=Kd.R_seg HX12.out (x4_1:Int) (oa) (by have h_:(x4_1:Int)<((x3_1.length:Int):Int):=oa;first|exact h_|(have e_:=(Kd.R_reads' HO_3.out).1;omega)|simpa using h_) (seg:=[.int .i64 t120,.string t121,.int .i64 t122,.int .i64 t123,.string t124]) (j:=0) hcl12 hcc12 (show 5≤5 from by decide) (x':=(⟨t120,t121,t122,t123,t124⟩:S71)) (k71_mkM _ _ _ (⟨t120,t121,t122,t123,t124⟩:S71) ) (fun _ hk=>hk);have hx12_0:=hcc12 0 _ rfl;(try simp only [show (k71).sz=5 from rfl,Nat.mul_one,Nat.add_zero] at hx12_0);have hf12_0:=hfr12 0;(try simp only [show (k71).sz=5 from rfl,Nat.mul_one,Nat.add_zero] at hf12_0);have hx12_1:=hcc12 1 _ rfl;(try simp only [show (k71).sz=5 from rfl,Nat.mul_one,Nat.add_zero] at hx12_1);have hf12_1:=hfr12 1;(try simp only [show (k71).sz=5 from rfl,Nat.mul_one,Nat.add_zero] at hf12_1);have hx12_2:=hcc12 2 _ rfl;(try simp only [show (k71).sz=5 from rfl,Nat.mul_one,Nat.add_zero] at hx12_2);have hf12_2:=hfr12 2;(try simp only [show (k71).sz=5 from rfl,Nat.mul_one,Nat.add_zero] at hf12_2);have hx12_3:=hcc12 3 _ rfl;(try simp only [show (k71).sz=5 from rfl,Nat.mul_one,Nat.add_zero] at hx12_3);have hf12_3:=hfr12 3;(try simp only [show (k71).sz=5 from rfl,Nat.mul_one,Nat.add_zero] at hf12_3);have hx12_4:=hcc12 4 _ rfl;(try simp only [show (k71).sz=5 from rfl,Nat.mul_one,Nat.add_zero] at hx12_4);have hf12_4:=hfr12 4;(try simp only [show (k71).sz=5 from rfl,Nat.mul_one,Nat.add_zero] at hf12_4);clear hcl12 hcc12 hfr12 hM12)|((with_reducible refine gate_store (t:=71) (p:=21) rfl ?_);refine store_event (t:=71) (p:=21) (v:=?vo_w13) (w1:=(((((w11.setCell ⟨go10,(x4_1:Int).toNat * 5,none⟩ (.int .i64 t120)).setCell ⟨go10,(x4_1:Int).toNat * 5+1,none⟩ (.string t121)).setCell ⟨go10,(x4_1:Int).toNat * 5+2,none⟩ (.int .i64 t122)).setCell ⟨go10,(x4_1:Int).toNat * 5+3,none⟩ (.int .i64 t123)).setCell ⟨go10,(x4_1:Int).toNat * 5+4,none⟩ (.string t124))) ?hg ?ho ?hn ?hr ?_;(case ho=>rfl);(case hg=>rfl);(case hn=>rfl);(case hr=>first|(go_simp;done)|(go_simp;rfl));intro w13 hw;have hg:w11.grownBy w13 (some go10):=(by rw [hw];exact HP12.2);have hp_:Kd.R k71 71 w13 w.heap.size (fun _=>True) (.slice (some ⟨go10,0,none⟩) x3_1.length co10) y125:=(by rw [hw,Ny125.out];exact HP12.1);clear HP12;have n0_:=am (hp_);have n1_:=am ((by rw [hw];exact below_set (below_set (below_set (below_set (below_set (HB.out) GB10.out) GB10.out) GB10.out) GB10.out) GB10.out:Below w.heap.size w w13));clear HO_3;clear HB;have HO_3:=n0_;have HB:=n1_;clear n0_ n1_;clear hg hw hp_))
     go_roundg k1
     case measure=>have:=HK1.out;omega
     case rel=>exact ⟨(y125),(wrap64 (x4_1+1)),fg,H',⟨by have:=HK1.out;omega⟩,⟨by (with_reducible repeat (first|apply Kd.R_alloc|apply Kd.R_drewN|apply Kd.R_drew));exact HO_3.out⟩,⟨bs HB⟩⟩
    ·intro c6b0 H;obtain rfl:=si H
     go_wp2
     go_ret
     exact ⟨_,ff,by (with_reducible repeat (first|apply Kd.R_alloc|apply Kd.R_drewN|apply Kd.R_drew));exact HO_3.out,bs HB⟩
 ·intro c2 H
  exact absurd H (by simp)
set_option maxHeartbeats 8000000 in
set_option maxRecDepth 100000 in
theorem laws_toPaper.calls (k:Nat) (a0_0:Int) (a0_1:ByteArray) (a0_2:ByteArray) (a0_3:Int) (A0_4:Option Addr) (c0_4:Nat) (l0_4:List ByteArray) (A0_5:Option Addr) (c0_5:Nat) (l0_5:List (S98)) (r1:Int) (r2:ByteArray) (r3:ByteArray) (r4:Int) (r5:List ByteArray) (r6:List (S71)) (w:World) (hr0_4:Kd.C Kd.string w A0_4 l0_4.length l0_4) (hc0_4:l0_4.length≤c0_4) (hr0_5:Kd.C k98 w A0_5 l0_5.length l0_5) (hc0_5:l0_5.length≤c0_5) (H:laws_toPaper.f k a0_0 a0_1 a0_2 a0_3 l0_4 l0_5=some (r1,r2,r3,r4,r5,r6)) :
  Calls Tryz.prog 10 #[.agg #[.int .i64 a0_0,.string a0_1,.string a0_2,.int .i64 a0_3,.slice A0_4 l0_4.length c0_4,.slice A0_5 l0_5.length c0_5]] w fun e w'=>∃ v4_ v5_:Value,e=.returned (.agg #[.int .i64 r1,.string r2,.string r3,.int .i64 r4,v4_,v5_])∧Kd.R Kd.string 9 w' w.heap.size (fun _=>True) v4_ r5∧Kd.R k71 71 w' w.heap.size (fun _=>True) v5_ r6∧Below w.heap.size w w':=by
 have hu25:=Tryz.underlying25;have hu30:=Tryz.underlying30;have HR0_4:=am hr0_4;have HC0_4:=am hc0_4;clear hr0_4 hc0_4;have HR0_5:=am hr0_5;have HC0_5:=am hc0_5;clear hr0_5 hc0_5;have HB:=am (Below.refl w.heap.size w);unfold laws_toPaper.f at H;replace H:=bo H;obtain ⟨t129,A2,H⟩:=H;replace H:=bo H;obtain ⟨t132,A3,H⟩:=H;replace H:=sj6 H;obtain ⟨rfl,rfl,rfl,rfl,rfl,rfl⟩:=H
 go_in
 go_wp2_with (first|((with_reducible refine gate_dst (N:=1) rfl ?_);refine bx 1 (cs:=#[.int .i64 a0_0,.string a0_1,.string a0_2,.int .i64 a0_3,.slice A0_4 l0_4.length c0_4,.slice A0_5 l0_5.length c0_5]) (t:=25) ?_;intro gb126 hg w4 hbox hb;have BK126:=am (hbox);have GW126:=am ((gs hg (bs HB)));have GE126:=am ((gs hg (bs HB)));replace HB:=am (below_step (bs HB) hb);clear hb hbox hg)|((with_reducible refine gate_dst (N:=2) rfl ?_);refine bx 2 (cs:=#[.int .i64 0,.string (⟨#[]⟩:ByteArray),.string (⟨#[]⟩:ByteArray),.int .i64 0,.slice none 0 0,.slice none 0 0]) (t:=30) ?_;intro gb127 hg w5 hbox hb;have BK127:=am (hbox);have GW127:=am ((gs hg (bs HB)));have GE127:=am ((gs hg (bs HB)));replace HB:=am (below_step (bs HB) hb);have NB126_127:=am ((gn hg (ks BK126)));have NB127_126:=am ((gm hg (ks BK126)));replace BK126:=am (blk_below (ks BK126) hb);clear hb hbox hg)|((with_reducible refine gate_dst (N:=3) rfl ?_);refine bx 3 (cs:=#[.int .i64 0,.string (⟨#[]⟩:ByteArray),.string (⟨#[]⟩:ByteArray),.int .i64 0,.slice none 0 0,.slice none 0 0]) (t:=30) ?_;intro gb128 hg w6 hbox hb;have BK128:=am (hbox);have GW128:=am ((gs hg (bs HB)));have GE128:=am ((gs hg (bs HB)));replace HB:=am (below_step (bs HB) hb);have NB126_128:=am ((gn hg (ks BK126)));have NB128_126:=am ((gm hg (ks BK126)));replace BK126:=am (blk_below (ks BK126) hb);have NB127_128:=am ((gn hg (ks BK127)));have NB128_127:=am ((gm hg (ks BK127)));replace BK127:=am (blk_below (ks BK127) hb);clear hb hbox hg;have hnb7:=NB126_127.out;have hnc7:=NB127_126.out;have hnb8:=NB126_128.out;have hnc8:=NB128_126.out;have hcz9:=cf6 BK126;have hnb10:=NB128_127.out;have hnc10:=NB127_128.out;have hcz11_0:w6.cell? ⟨gb128,0,none⟩=some (.int .i64 0):=(blk_cell BK128.out 0).trans rfl;have hcz11_1:w6.cell? ⟨gb128,1,none⟩=some (.string (⟨#[]⟩:ByteArray)):=(blk_cell BK128.out 1).trans rfl;have hcz11_2:w6.cell? ⟨gb128,2,none⟩=some (.string (⟨#[]⟩:ByteArray)):=(blk_cell BK128.out 2).trans rfl;have hcz11_3:w6.cell? ⟨gb128,3,none⟩=some (.int .i64 0):=(blk_cell BK128.out 3).trans rfl;have hcz11_4:w6.cell? ⟨gb128,4,none⟩=some (.slice none 0 0):=(blk_cell BK128.out 4).trans rfl;have hcz11_5:w6.cell? ⟨gb128,5,none⟩=some (.slice none 0 0):=(blk_cell BK128.out 5).trans rfl;have hfz11_0:=blk_frozen BK128.out 0;have hfz11_1:=blk_frozen BK128.out 1;have hfz11_2:=blk_frozen BK128.out 2;have hfz11_3:=blk_frozen BK128.out 3;have hfz11_4:=blk_frozen BK128.out 4;have hfz11_5:=blk_frozen BK128.out 5)|((first|((with_reducible refine gate_callee (f:=38) rfl ?_);refine goesL_ (some 18) rfl rfl Tryz.func38 (by kernel_rfl) rfl #[.slice A0_4 l0_4.length c0_4] rfl (by (try simp only [List.map_toArray,List.map_cons,List.map_nil]);first|done|rfl|(simp only [List.length_drop,List.length_take];rfl)) ?_;(with_reducible refine (laws_toStringS.calls k _ _ l0_4 t129 _ ?side1 HC0_4.out A2.out).mono ?_);(case side1=>exact Kd.C_below HR0_4.out (bs HB));rintro e w12 ⟨v130,rfl,ho0,hb⟩;refine ⟨_,rfl,?_⟩)|(go_at_call 38;(with_reducible refine (laws_toStringS.calls k _ _ l0_4 t129 _ ?side1 HC0_4.out A2.out).mono ?_);(case side1=>exact Kd.C_below HR0_4.out (bs HB));rintro e w12 ⟨v130,rfl,ho0,hb⟩));have HO131:=am (Kd.R_lower ho0 (below_size (bs HB)));replace BK126:=am (blk_below (ks BK126) hb);replace BK127:=am (blk_below (ks BK127) hb);replace BK128:=am (blk_below (g:=gb128) (o:=.cells #[.int .i64 a0_0,.string a0_1,.string a0_2,.int .i64 a0_3,.slice none 0 0,.slice none 0 0] 30 (0,0)) (kp BK128) hb);replace HB:=am (below_step (bs HB) hb);(try clear hb);(try clear hb2);(try clear hk);(try clear hi);(try clear ho0);obtain ⟨Ao13,co13,eo13⟩:=Kd.R_slice HO131.out;subst eo13;have hcz14:=cf6 BK128;have hcz15_0:w12.cell? ⟨gb126,0,none⟩=some (.int .i64 a0_0):=(blk_cell BK126.out 0).trans rfl;have hcz15_1:w12.cell? ⟨gb126,1,none⟩=some (.string a0_1):=(blk_cell BK126.out 1).trans rfl;have hcz15_2:w12.cell? ⟨gb126,2,none⟩=some (.string a0_2):=(blk_cell BK126.out 2).trans rfl;have hcz15_3:w12.cell? ⟨gb126,3,none⟩=some (.int .i64 a0_3):=(blk_cell BK126.out 3).trans rfl;have hcz15_4:w12.cell? ⟨gb126,4,none⟩=some (.slice A0_4 l0_4.length c0_4):=(blk_cell BK126.out 4).trans rfl;have hcz15_5:w12.cell? ⟨gb126,5,none⟩=some (.slice A0_5 l0_5.length c0_5):=(blk_cell BK126.out 5).trans rfl;have hfz15_0:=blk_frozen BK126.out 0;have hfz15_1:=blk_frozen BK126.out 1;have hfz15_2:=blk_frozen BK126.out 2;have hfz15_3:=blk_frozen BK126.out 3;have hfz15_4:=blk_frozen BK126.out 4;have hfz15_5:=blk_frozen BK126.out 5)|((first|((with_reducible refine gate_callee (f:=39) rfl ?_);refine goesL_ (some 22) rfl rfl Tryz.func39 (by kernel_rfl) rfl #[.slice A0_5 l0_5.length c0_5] rfl (by (try simp only [List.map_toArray,List.map_cons,List.map_nil]);first|done|rfl|(simp only [List.length_drop,List.length_take];rfl)) ?_;(with_reducible refine (laws_toLineS.calls k _ _ l0_5 t132 _ ?side1 HC0_5.out A3.out).mono ?_);(case side1=>exact Kd.C_below HR0_5.out (bs HB));rintro e w16 ⟨v133,rfl,ho0,hb⟩;refine ⟨_,rfl,?_⟩)|(go_at_call 39;(with_reducible refine (laws_toLineS.calls k _ _ l0_5 t132 _ ?side1 HC0_5.out A3.out).mono ?_);(case side1=>exact Kd.C_below HR0_5.out (bs HB));rintro e w16 ⟨v133,rfl,ho0,hb⟩));have n0_:=am (Kd.R_below (by (with_reducible repeat (first|apply Kd.R_alloc|apply Kd.R_drewN|apply Kd.R_drew));exact (Kd.R_mono (rf (Kd.R_types HO131.out BK128.out (by decide))) (fun _ h_=>h_.1))) hb);have n1_:=am (Kd.R_lower ho0 (below_size (bs HB)));have n2_:=am (blk_below (ks BK126) hb);have n3_:=am (blk_below (ks BK127) hb);have n4_:=am (blk_below (g:=gb128) (o:=.cells #[.int .i64 a0_0,.string a0_1,.string a0_2,.int .i64 a0_3,.slice Ao13 t129.length co13,.slice none 0 0] 30 (0,0)) (kp BK128) hb);have n5_:=am (below_step (bs HB) hb);clear HO131;clear BK126;clear BK127;clear BK128;clear HB;have HO131:=n0_;have HO134:=n1_;have BK126:=n2_;have BK127:=n3_;have BK128:=n4_;have HB:=n5_;clear n0_ n1_ n2_ n3_ n4_ n5_;(try clear hb);(try clear hb2);(try clear hk);(try clear hi);(try clear ho0);obtain ⟨Ao17,co17,eo17⟩:=Kd.R_slice HO134.out;subst eo17;have hcz18:=cf6 BK128;have hcz19:=cf6 BK127))
 refine bodyPost_ret (results_cell_row rfl _ _ gb127 30 #[.int .i64 a0_0,.string a0_1,.string a0_2,.int .i64 a0_3,.slice Ao13 t129.length co13,.slice Ao17 t132.length co17] (0,0) _ rfl (kp BK127) Tryz.underlying30 rfl (by kernel_rfl)) rfl ?_
 exact ⟨_,_,ff,by (with_reducible repeat (first|apply Kd.R_alloc|apply Kd.R_drewN|apply Kd.R_drew));exact Kd.R_mono (Kd.R_far (p:=⟨gb127,5,none⟩) (Kd.R_far (p:=⟨gb127,4,none⟩) (Kd.R_far (p:=⟨gb127,3,none⟩) (Kd.R_far (p:=⟨gb127,2,none⟩) (Kd.R_far (p:=⟨gb127,1,none⟩) (Kd.R_far (p:=⟨gb127,0,none⟩) (Kd.R_far (p:=⟨gb128,5,none⟩) (Kd.R_types (Kd.R_types HO131.out BK128.out (by decide)) BK127.out (by decide)) (fun _ hk=>hk.1.2) (.slice Ao17 t132.length co17)) (fun _ hk=>hk.2) (.int .i64 a0_0)) (fun _ hk=>hk.2) (.string a0_1)) (fun _ hk=>hk.2) (.string a0_2)) (fun _ hk=>hk.2) (.int .i64 a0_3)) (fun _ hk=>hk.2) (.slice Ao13 t129.length co13)) (fun _ hk=>hk.2) (.slice Ao17 t132.length co17)) (fun _ hk=>trivial),by (with_reducible repeat (first|apply Kd.R_alloc|apply Kd.R_drewN|apply Kd.R_drew));exact Kd.R_mono (Kd.R_far (p:=⟨gb127,5,none⟩) (Kd.R_far (p:=⟨gb127,4,none⟩) (Kd.R_far (p:=⟨gb127,3,none⟩) (Kd.R_far (p:=⟨gb127,2,none⟩) (Kd.R_far (p:=⟨gb127,1,none⟩) (Kd.R_far (p:=⟨gb127,0,none⟩) (Kd.R_far (p:=⟨gb128,5,none⟩) (Kd.R_types (Kd.R_types HO134.out BK128.out (by decide)) BK127.out (by decide)) (fun _ hk=>hk.1.2) (.slice Ao17 t132.length co17)) (fun _ hk=>hk.2) (.int .i64 a0_0)) (fun _ hk=>hk.2) (.string a0_1)) (fun _ hk=>hk.2) (.string a0_2)) (fun _ hk=>hk.2) (.int .i64 a0_3)) (fun _ hk=>hk.2) (.slice Ao13 t129.length co13)) (fun _ hk=>hk.2) (.slice Ao17 t132.length co17)) (fun _ hk=>trivial),bs HB⟩
set_option maxHeartbeats 8000000 in
set_option maxRecDepth 100000 in
theorem spec_l01Dec.calls (k:Nat) (a0:Int) (r:ByteArray) (w:World) (H:spec_l01Dec.f k a0=some r) :
  Calls Tryz.prog 75 #[.int .i64 a0] w fun e w'=>e=.returned (.string r)∧Below w.heap.size w w':=by
 have HB:=am (Below.refl w.heap.size w);unfold spec_l01Dec.f at H
 revert H;refine ie2 ?_ ?_
 ·intro c2b0 c2b1 H;obtain rfl:=si H
  go_in
  go_wp2
  go_ret
  exact ⟨ff,bs HB⟩
 ·intro c2 c2b0 c2b1 H;have H':=am H;clear H
  go_in
  go_wp2
  go_loopg [0,4] k (fun kq v0 v4 w'=>∃ (x0_1:Int) (x4_1:ByteArray),v0=.int .i64 x0_1∧v4=.string x4_1∧Aside0 (spec_l01Dec.l0 kq x0_1 (decide (a0<0)) x4_1=some r)∧Aside0 (kq≤k)∧Aside0 (Below w.heap.size w w'))
  case atStart=>exact ⟨(a0),((⟨#[]⟩:ByteArray)),fg,fg,H',⟨Nat.le_refl _⟩,⟨bs HB⟩⟩
  case round =>
   clear H'
   try clear c2
   try clear c2b0
   try clear c2b1
   obtain ⟨x0_1,x4_1,rfl,rfl,HA,HK1,HB⟩:=hrel
   cases gk with
   | zero=>exact absurd HA.out (by simp [spec_l01Dec.l0])
   | succ k1 =>
    have H:=HA.out;clear HA;simp only [spec_l01Dec.l0] at H
    revert H;refine ie2 ?_ ?_
    ·intro c3b0 c3b1 H
     revert H;refine ip2 ?_ ?_
     ·intro c4 H;have c4b0:(decide (a0<0))=true:=c4
      (first|rw [c4b0]|skip)
      clear c4
      revert H;refine ip1 ?_
      intro c5 H;have c5b0:=eq_true c5;have c5b1:decide (1+x4_1.size≤9223372036854775807)=true:=decide_eq_true c5
      try have c5b2:(9223372036854775807<1+x4_1.size)=False:=eq_false (Nat.not_lt.2 c5)
      obtain rfl:=si H
      go_wp2
      go_ret
      exact ⟨ff,bs HB⟩
     ·intro c4 H
      have c4b0:(decide (a0<0))=false:=by simpa using c4
      (first|rw [c4b0]|skip)
      clear c4;obtain rfl:=si H
      go_wp2
      go_ret
      exact ⟨ff,bs HB⟩
    ·intro c3 c3b0 c3b1 H
     revert H;refine id2 ?_ ?_
     ·intro c6b0 H;obtain ⟨y135,hy135⟩:∃ y_:List Int,y_=(([(wrap64 (48+(wrap64 (-(Int.tmod x0_1 10))))) % 256]:List Int)):=⟨_,rfl⟩
      replace H:(if (strOfNums y135).size+x4_1.size≤9223372036854775807 then (spec_l01Dec.l0 k1 (wrap64 (Int.tdiv x0_1 10)) (decide (a0<0)) ((strOfNums y135)++x4_1)) else (none))=some r:=ye hy135 H
      have Ny135:=am hy135;clear hy135
      revert H;refine ip1 ?_
      intro c7 H;have c7b0:=eq_true c7;have c7b1:decide ((strOfNums y135).size+x4_1.size≤9223372036854775807)=true:=decide_eq_true c7
      try have c7b2:(9223372036854775807<(strOfNums y135).size+x4_1.size)=False:=eq_false (Nat.not_lt.2 c7)
      have H':=am H;clear H
      go_wp2_with (first|((with_reducible refine gate_dst (N:=21) rfl ?_);refine Kd.R_lit (Kd.int .u8) _ 5 ?hg (N:=21) ?hd (xs:=([(wrap64 (48+(wrap64 (-(Int.tmod x0_1 10))))) % 256]:List Int)) (inner:=[.int .u8 ((wrap64 (48+(wrap64 (-(Int.tmod x0_1 10))))) % 256)]) (ok:=fun _=>True) (okp:=fun _=>True) ?hr ?hp (fun _ hk=>hk) trivial (Below.refl _ _) (Nat.le_refl _) (by simp) ?_;(case hd=>rfl);(case hg=>rfl);(case hr=>first|(go_simp;done)|(go_simp;rfl));(case hp=>exact (Reps.one (show Kd.M (Kd.int .u8) _ _ _ ((wrap64 (48+(wrap64 (-(Int.tmod x0_1 10))))) % 256) [.int .u8 ((wrap64 (48+(wrap64 (-(Int.tmod x0_1 10))))) % 256)] from rfl) (Reps.none _ _)));intro v136 w8 ho9 hb hg_ hnew_;clear hg_ hnew_;(first|rw [← Ny135.out] at ho9|(simp only [Int.reduceToNat] at ho9;rw [← Ny135.out] at ho9));have HO137:=am (Kd.R_lower ho9 (below_size (bs HB)));replace HB:=am (below_step (bs HB) hb);clear hb ho9;have hcv10:=own_string (P:=Tryz.prog) Tryz.underlying49 Tryz.underlying5 Tryz.underlying9 (Kd.own_of_R HO137.out)))
      go_roundg k1
      case measure=>have:=HK1.out;omega
      case rel=>exact ⟨(wrap64 (Int.tdiv x0_1 10)),((strOfNums y135)++x4_1),fg,fg,H',⟨by have:=HK1.out;omega⟩,⟨bs HB⟩⟩
     ·intro c6b0 H;obtain ⟨y138,hy138⟩:∃ y_:List Int,y_=(([(wrap64 (48+(Int.tmod x0_1 10))) % 256]:List Int)):=⟨_,rfl⟩
      replace H:(if (strOfNums y138).size+x4_1.size≤9223372036854775807 then (spec_l01Dec.l0 k1 (wrap64 (Int.tdiv x0_1 10)) (decide (a0<0)) ((strOfNums y138)++x4_1)) else (none))=some r:=ye hy138 H
      have Ny138:=am hy138;clear hy138
      revert H;refine ip2 ?_ ?_
      ·intro c11 H;have c11b0:=eq_true c11;have c11b1:decide ((strOfNums y138).size+x4_1.size≤9223372036854775807)=true:=decide_eq_true c11
       try have c11b2:(9223372036854775807<(strOfNums y138).size+x4_1.size)=False:=eq_false (Nat.not_lt.2 c11)
       have H':=am H;clear H
       go_wp2_with (first|((with_reducible refine gate_dst (N:=21) rfl ?_);refine Kd.R_lit (Kd.int .u8) _ 5 ?hg (N:=21) ?hd (xs:=([(wrap64 (48+(Int.tmod x0_1 10))) % 256]:List Int)) (inner:=[.int .u8 ((wrap64 (48+(Int.tmod x0_1 10))) % 256)]) (ok:=fun _=>True) (okp:=fun _=>True) ?hr ?hp (fun _ hk=>hk) trivial (Below.refl _ _) (Nat.le_refl _) (by simp) ?_;(case hd=>rfl);(case hg=>rfl);(case hr=>first|(go_simp;done)|(go_simp;rfl));(case hp=>exact (Reps.one (show Kd.M (Kd.int .u8) _ _ _ ((wrap64 (48+(Int.tmod x0_1 10))) % 256) [.int .u8 ((wrap64 (48+(Int.tmod x0_1 10))) % 256)] from rfl) (Reps.none _ _)));intro v139 w12 ho13 hb hg_ hnew_;clear hg_ hnew_;(first|rw [← Ny138.out] at ho13|(simp only [Int.reduceToNat] at ho13;rw [← Ny138.out] at ho13));have HO140:=am (Kd.R_lower ho13 (below_size (bs HB)));replace HB:=am (below_step (bs HB) hb);clear hb ho13;have hcv14:=own_string (P:=Tryz.prog) Tryz.underlying49 Tryz.underlying5 Tryz.underlying9 (Kd.own_of_R HO140.out)))
       go_roundg k1
       case measure=>have:=HK1.out;omega
       case rel=>exact ⟨(wrap64 (Int.tdiv x0_1 10)),((strOfNums y138)++x4_1),fg,fg,H',⟨by have:=HK1.out;omega⟩,⟨bs HB⟩⟩
      ·intro c11 H
       exact absurd H (by simp)
set_option maxHeartbeats 8000000 in
set_option maxRecDepth 100000 in
theorem spec_l05Has.calls (a0:Int) (r:Bool) (w:World) (H:spec_l05Has.f a0=some r) :
  Calls Tryz.prog 51 #[.int .i64 a0] w fun e w'=>e=.returned (.bool r)∧Drawn0 w w':=by
 unfold spec_l05Has.f at H
 revert H;refine ie2 ?_ ?_
 ·intro c2b0 c2b1 H;obtain rfl:=si H
  go_in
  go_wp2
  go_ret
  exact ⟨fg,by repeat (first|exact Drawn0.refl _|apply Drawn0.step)⟩
 ·intro c2 c2b0 c2b1 H
  revert H;refine ie2 ?_ ?_
  ·intro c3b0 c3b1 H;obtain rfl:=si H
   go_in
   go_wp2
   go_ret
   exact ⟨fg,by repeat (first|exact Drawn0.refl _|apply Drawn0.step)⟩
  ·intro c3 c3b0 c3b1 H;obtain rfl:=si H
   go_in
   go_wp2
   go_ret
   exact ⟨fg,by repeat (first|exact Drawn0.refl _|apply Drawn0.step)⟩
end Go.Proofs.YtogkcllenfkdmaaGreatDoor.QR
