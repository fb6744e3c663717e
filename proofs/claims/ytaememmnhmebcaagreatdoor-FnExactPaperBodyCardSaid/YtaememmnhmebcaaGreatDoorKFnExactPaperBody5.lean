-- Merged by a program of this session (wip/tool/pack.py) out of its own texts for this claim.
import Derived.Test.YtaememmnhmebcaaGreatDoorKFnExactPaperBody4
set_option maxHeartbeats 8000000
set_option maxRecDepth 100000
set_option linter.unusedSimpArgs false
set_option linter.unusedVariables false
namespace Go.Proofs.YtaememmnhmebcaaGreatDoor.QB
open Go.RowKit Go.Proofs.YtaememmnhmebcaaGreatDoorW.PrintWords Go.Proofs.YtaememmnhmebcaaGreatDoorW.PrintLast Go.Proofs.YtaememmnhmebcaaGreatDoorW.PrintMore
attribute [local go_sem] max2_int min2_int max_two min_two max_three min_three max_four min_four   -- for this text's walks alone
mutual
def impl_TableCheck.l0:Nat→List (S46)→Int→ByteArray→List (S87)→Int→Int→Option (Int × Int × Int)
 | 0,_,_,_,_,_,_=>none
 | k+1,x1,x5,x6,x21,x22,x23=>if x23<x22 then (if 0≤x23 then (if x23<(x21.length:Int) then (impl_TableCheck.l1 k x1 x5 0 x21 x22 x23 ((rd_T87 x21 x23).f0) ((rd_T87 x21 x23).f1) ((rd_T87 x21 x23).f2) ((rd_T87 x21 x23).f3)) else (none)) else (none)) else (if x5=(x1.length:Int) then (some (0,0,0)) else (if 0≤x5 then (if x5<(x1.length:Int) then (if ((rd_T46 x1 x5).f0).toList=x6.toList then (some (x5,0,7)) else (some (x5,0,3))) else (none)) else (none)))
def impl_TableCheck.l1:Nat→List (S46)→Int→Int→List (S87)→Int→Int→ByteArray→Int→Int→ByteArray→Option (Int × Int × Int)
 | 0,_,_,_,_,_,_,_,_,_,_=>none
 | k+1,x1,x5,x9,x21,x22,x23,x597000,x597001,x597002,x597003=>if x9<x597002 then (if x5<(x1.length:Int) then (if 0≤x5 then (impl_TableCheck.j2 k x1 x5 x9 x21 x22 x23 (((rd_T46 x1 x5).f0).toList == x597000.toList) x597000 x597001 x597002 x597003) else (none)) else (impl_TableCheck.j2 k x1 x5 x9 x21 x22 x23 false x597000 x597001 x597002 x597003)) else (impl_TableCheck.j2 k x1 x5 x9 x21 x22 x23 false x597000 x597001 x597002 x597003)
def impl_TableCheck.j2:Nat→List (S46)→Int→Int→List (S87)→Int→Int→Bool→ByteArray→Int→Int→ByteArray→Option (Int × Int × Int)
 | 0,_,_,_,_,_,_,_,_,_,_,_=>none
 | k+1,x1,x5,x9,x21,x22,x23,x46,x597000,x597001,x597002,x597003=>if x46=true then (if 0≤x5 then (if x5<(x1.length:Int) then ((impl_FormRight.f k x597003 ((rd_T46 x1 x5).f0) ((rd_T46 x1 x5).f1)).bind fun t599=>(if t599≥0 then (some (x5,t599,3)) else (impl_TableCheck.l1 k x1 (wrap64 (x5+1)) (wrap64 (x9+1)) x21 x22 x23 x597000 x597001 x597002 x597003))) else (none)) else (none)) else (if x9<x597001 then (some (x5,0,4)) else (impl_TableCheck.l0 k x1 x5 x597000 x21 x22 (wrap64 (x23+1))))
end
def impl_TableCheck.f (k:Nat) (a0:Int) (l1:List (S46)):Option (Int × Int × Int):=(impl_Segment.f l1).bind fun t590=>(if t590=true then (some (0,0,2)) else ((impl_within.f a0 1 7).bind fun t591=>(if t591=true then ((impl_tableOf.f k a0).bind fun t592=>(impl_TableCheck.l0 k l1 0 (⟨#[]⟩:ByteArray) t592 (t592.length:Int) 0)) else (some (0,0,1)))))
def impl_lineOf.l0 (k:Nat) (l1:List (S77)):List UInt8→Nat→Int→ByteArray→Int→Int→ByteArray→Option (Int × ByteArray × Int × Int × ByteArray)
 | [],_,f0,f1,f2,f3,f4=>some (f0,f1,f2,f3,f4)
 | c :: cs,i,f0,f1,f2,f3,f4=>if c.toNat<128 then (if i=l1.length then some (f0,f1,f2,f3,f4) else if (i:Int)<(l1.length:Int) then
   (if 0<(((rd_T77 l1 i).f0).length:Int) then
    (if c=77 then ((impl_numberIn.f k (rdOf ByteArray.empty ((rd_T77 l1 i).f0) 0) (-1000000) 1000000000).bind fun v=>impl_lineOf.l0 k l1 cs (i+1) f0 f1 f2 v.1 f4)
    else if c=84 then impl_lineOf.l0 k l1 cs (i+1) f0 f1 f2 f3 (rdOf ByteArray.empty ((rd_T77 l1 i).f0) 0)
    else if c=73 then impl_lineOf.l0 k l1 cs (i+1) f0 (rdOf ByteArray.empty ((rd_T77 l1 i).f0) 0) f2 f3 f4
    else if c=78 then ((impl_numberIn.f k (rdOf ByteArray.empty ((rd_T77 l1 i).f0) 0) (-1000000) 1000000000).bind fun v=>impl_lineOf.l0 k l1 cs (i+1) v.1 f1 f2 f3 f4)
    else if c=81 then ((impl_numberIn.f k (rdOf ByteArray.empty ((rd_T77 l1 i).f0) 0) (-1000000) 1000000000).bind fun v=>impl_lineOf.l0 k l1 cs (i+1) f0 f1 v.1 f3 f4)
    else none) else none) else none) else none
def impl_lineOf.f (k:Nat) (a0:Int) (a1:ByteArray) (l1:List (S77)):Option (Int × ByteArray × Int × Int × ByteArray):=(impl_fields.f k a0).bind fun s=>impl_lineOf.l0 k l1 s.data.toList 0 0 (⟨#[]⟩:ByteArray) 0 0 (⟨#[]⟩:ByteArray)
mutual
def impl_paperOf.j0:Nat→Int→List (S46)→Int→ByteArray→ByteArray→Int→Option (Int × ByteArray × ByteArray × Int × List ByteArray × (List (S63)))
 | 0,_,_,_,_,_,_=>none
 | k+1,x0,x1,x606000,x606001,x606002,x606003=>if 0<(x1.length:Int) then (if 0≤(wrap64 ((((rd_T46 x1 0).f1).length:Int) - 1)) then (if (wrap64 ((((rd_T46 x1 0).f1).length:Int) - 1))<(((rd_T46 x1 0).f1).length:Int) then (if 0<(((rd_T77 ((rd_T46 x1 0).f1) (wrap64 ((((rd_T46 x1 0).f1).length:Int) - 1))).f0).length:Int) then ((impl_numberIn.f k (rdOf ByteArray.empty ((rd_T77 ((rd_T46 x1 0).f1) (wrap64 ((((rd_T46 x1 0).f1).length:Int) - 1))).f0) 0) 0 100000).bind fun bt615=>(if 1≤(x1.length:Int) then ((some (x1.drop 1:List (S46))).bind fun y617=>(impl_paperOf.l0 k x0 y617 (y617.length:Int) 0 x606000 x606001 x606002 bt615.1 ([]:List ByteArray) ([]:List (S63)))) else (none))) else (none)) else (none)) else (none)) else (none)
def impl_paperOf.l0:Nat→Int→List (S46)→Int→Int→Int→ByteArray→ByteArray→Int→List ByteArray→List (S63)→Option (Int × ByteArray × ByteArray × Int × List ByteArray × (List (S63)))
 | 0,_,_,_,_,_,_,_,_,_,_=>none
 | k+1,x0,x57,x58,x59,x606000,x606001,x606002,x606003,x606004,x606005=>if x59<x58 then (if 0≤x59 then (if x59<(x57.length:Int) then (if ((rd_T46 x57 x59).f0).toList=([78,79,84]:List UInt8) then (if 0<(((rd_T46 x57 x59).f1).length:Int) then (if 0<(((rd_T77 ((rd_T46 x57 x59).f1) 0).f0).length:Int) then (if x606004.length<8796093022208 then (impl_paperOf.l0 k x0 x57 x58 (wrap64 (x59+1)) x606000 x606001 x606002 x606003 (x606004++[rdOf ByteArray.empty ((rd_T77 ((rd_T46 x57 x59).f1) 0).f0) 0]) x606005) else (none)) else (none)) else (none)) else ((impl_lineOf.f k x0 ((rd_T46 x57 x59).f0) ((rd_T46 x57 x59).f1)).bind fun bt628=>(if x606005.length<2513169434916 then (impl_paperOf.l0 k x0 x57 x58 (wrap64 (x59+1)) x606000 x606001 x606002 x606003 x606004 (x606005++[(⟨bt628.1,bt628.2.1,bt628.2.2.1,bt628.2.2.2.1,bt628.2.2.2.2⟩:S63)])) else (none)))) else (none)) else (none)) else (some (x606000,x606001,x606002,x606003,x606004,x606005))
end
def impl_paperOf.f (k:Nat) (a0:Int) (l1:List (S46)):Option (Int × ByteArray × ByteArray × Int × List ByteArray × (List (S63))):=if 0<(l1.length:Int) then (if 0<(((rd_T46 l1 0).f1).length:Int) then (if 0<(((rd_T77 ((rd_T46 l1 0).f1) 0).f0).length:Int) then ((impl_hasTwo.f a0).bind fun t606=>(if t606=true then (if 1<(((rd_T46 l1 0).f1).length:Int) then (if 0<(((rd_T77 ((rd_T46 l1 0).f1) 1).f0).length:Int) then (impl_paperOf.j0 k a0 l1 a0 (rdOf ByteArray.empty ((rd_T77 ((rd_T46 l1 0).f1) 0).f0) 0) (rdOf ByteArray.empty ((rd_T77 ((rd_T46 l1 0).f1) 1).f0) 0) 0) else (none)) else (none)) else (impl_paperOf.j0 k a0 l1 a0 (rdOf ByteArray.empty ((rd_T77 ((rd_T46 l1 0).f1) 0).f0) 0) (⟨#[]⟩:ByteArray) 0))) else (none)) else (none)) else (none)
def slices_Equal_string_string.l0:Nat→List ByteArray→List ByteArray→Int→Int→Option (Bool)
 | 0,_,_,_,_=>none
 | k+1,x0,x1,x12,x13=>if x13<x12 then (if 0≤x13 then (if x13<(x0.length:Int) then (if x13<(x1.length:Int) then (if (rdOf ByteArray.empty x0 x13).toList=(rdOf ByteArray.empty x1 x13).toList then (slices_Equal_string_string.l0 k x0 x1 x12 (wrap64 (x13+1))) else (some false)) else (none)) else (none)) else (none)) else (some true)
def slices_Equal_string_string.f (k:Nat) (l0:List ByteArray) (l1:List ByteArray):Option (Bool):=if (l0.length:Int)=(l1.length:Int) then (slices_Equal_string_string.l0 k l0 l1 (l0.length:Int) 0) else (some false)
def impl_Line.l0:Nat→List (S63)→List (S63)→Int→Int→Option (Bool)
 | 0,_,_,_,_=>none
 | k+1,x0,x1,x12,x13=>if x13<x12 then (if 0≤x13 then (if x13<(x0.length:Int) then (if x13<(x1.length:Int) then (if (!(((rd_T63 x0 x13).f0) == ((rd_T63 x1 x13).f0)) || (!((((rd_T63 x0 x13).f1).toList) == (((rd_T63 x1 x13).f1).toList)) || (!(((rd_T63 x0 x13).f2) == ((rd_T63 x1 x13).f2)) || (!(((rd_T63 x0 x13).f3) == ((rd_T63 x1 x13).f3)) || (!((((rd_T63 x0 x13).f4).toList) == (((rd_T63 x1 x13).f4).toList)))))))=true then (some false) else (impl_Line.l0 k x0 x1 x12 (wrap64 (x13+1)))) else (none)) else (none)) else (none)) else (some true)
def impl_Line.f (k:Nat) (l0:List (S63)) (l1:List (S63)):Option (Bool):=if (l0.length:Int)=(l1.length:Int) then (impl_Line.l0 k l0 l1 (l0.length:Int) 0) else (some false)
def impl_same.f (k:Nat) (a0_0:Int) (a0_1:ByteArray) (a0_2:ByteArray) (a0_3:Int) (l0_4:List ByteArray) (l0_5:List (S63)) (a1_0:Int) (a1_1:ByteArray) (a1_2:ByteArray) (a1_3:Int) (l1_4:List ByteArray) (l1_5:List (S63)):Option (Bool):=if a0_0=a1_0 then (if a0_1.toList=a1_1.toList then (if a0_2.toList=a1_2.toList then (if a0_3=a1_3 then ((slices_Equal_string_string.f k l0_4 l1_4).bind fun t642=>(if t642=true then ((impl_Line.f k l0_5 l1_5).bind fun t643=>(some t643)) else (some false))) else (some false)) else (some false)) else (some false)) else (some false)
def impl_counts.f (a0:Int):Option (Bool):=(impl_within.f a0 1 4).bind fun t644=>(some t644)
def impl_namesItems.f (a0:Int):Option (Bool):=if a0=1 then (some true) else (if a0=5 then (some true) else (some (a0 == 6)))
def impl_wrongLine_1.f (a0_0:Int) (a0_1:ByteArray) (a0_2:Int) (a0_3:Int) (a0_4:ByteArray) (s1_0:Int) (s1_1:ByteArray) (s1_2:Int) (s1_3:Int) (s1_4:ByteArray):Option (Bool × Int × ByteArray × Int × Int × ByteArray):=some ((a0_1.toList == s1_1.toList),s1_0,s1_1,s1_2,s1_3,s1_4)
def impl_Line_impl_wrongLine_1_89.l0:Nat→List (S63)→Int→Int→Int→ByteArray→Int→Int→ByteArray→Option (Int × Int × ByteArray × Int × Int × ByteArray)
 | 0,_,_,_,_,_,_,_,_=>none
 | k+1,x0,x7,x8,x2000,x2001,x2002,x2003,x2004=>if x8<x7 then (if 0≤x8 then (if x8<(x0.length:Int) then ((impl_wrongLine_1.f ((rd_T63 x0 x8).f0) ((rd_T63 x0 x8).f1) ((rd_T63 x0 x8).f2) ((rd_T63 x0 x8).f3) ((rd_T63 x0 x8).f4) x2000 x2001 x2002 x2003 x2004).bind fun bt647=>(if bt647.1=true then (some (x8,bt647.2.1,bt647.2.2.1,bt647.2.2.2.1,bt647.2.2.2.2.1,bt647.2.2.2.2.2)) else (impl_Line_impl_wrongLine_1_89.l0 k x0 x7 (wrap64 (x8+1)) bt647.2.1 bt647.2.2.1 bt647.2.2.2.1 bt647.2.2.2.2.1 bt647.2.2.2.2.2))) else (none)) else (none)) else (some ((-1),x2000,x2001,x2002,x2003,x2004))
def impl_Line_impl_wrongLine_1_89.f (k:Nat) (l0:List (S63)) (s1_0:Int) (s1_1:ByteArray) (s1_2:Int) (s1_3:Int) (s1_4:ByteArray):Option (Int × Int × ByteArray × Int × Int × ByteArray):=impl_Line_impl_wrongLine_1_89.l0 k l0 (l0.length:Int) 0 s1_0 s1_1 s1_2 s1_3 s1_4
def impl_Line_impl_wrongLine_1_70.f (k:Nat) (l0:List (S63)) (s1_0:Int) (s1_1:ByteArray) (s1_2:Int) (s1_3:Int) (s1_4:ByteArray):Option (Bool × Int × ByteArray × Int × Int × ByteArray):=(impl_Line_impl_wrongLine_1_89.f k l0 s1_0 s1_1 s1_2 s1_3 s1_4).bind fun bt653=>(some (decide (bt653.1≥0),bt653.2.1,bt653.2.2.1,bt653.2.2.2.1,bt653.2.2.2.2.1,bt653.2.2.2.2.2))
mutual
def impl_wrongLine.l0:Nat→List (S63)→Int→Int→Int→ByteArray→ByteArray→Int→List ByteArray→List (S63)→Option (Int)
 | 0,_,_,_,_,_,_,_,_,_=>none
 | k+1,x6,x7,x8,x660000,x660001,x660002,x660003,x660004,x660005=>if x8<x7 then (if 0≤x8 then (if x8<(x6.length:Int) then ((impl_counts.f x660000).bind fun t662=>(if t662=true then ((impl_within.f ((rd_T63 x6 x8).f0) 1 999).bind fun t663=>(if t663=true then (if x8>0 then (if 0≤(wrap64 (x8 - 1)) then (if (wrap64 (x8 - 1))<(x660005.length:Int) then (impl_wrongLine.j1 k x8 x6 x7 x8 (decide (((rd_T63 x6 x8).f0)≤((rd_T63 x660005 (wrap64 (x8 - 1))).f0))) x660000 x660001 x660002 x660003 x660004 x660005 ((rd_T63 x6 x8).f0) ((rd_T63 x6 x8).f1) ((rd_T63 x6 x8).f2) ((rd_T63 x6 x8).f3) ((rd_T63 x6 x8).f4)) else (none)) else (none)) else (impl_wrongLine.j1 k x8 x6 x7 x8 false x660000 x660001 x660002 x660003 x660004 x660005 ((rd_T63 x6 x8).f0) ((rd_T63 x6 x8).f1) ((rd_T63 x6 x8).f2) ((rd_T63 x6 x8).f3) ((rd_T63 x6 x8).f4))) else (impl_wrongLine.j1 k x8 x6 x7 x8 true x660000 x660001 x660002 x660003 x660004 x660005 ((rd_T63 x6 x8).f0) ((rd_T63 x6 x8).f1) ((rd_T63 x6 x8).f2) ((rd_T63 x6 x8).f3) ((rd_T63 x6 x8).f4)))) else (impl_wrongLine.j1 k x8 x6 x7 x8 false x660000 x660001 x660002 x660003 x660004 x660005 ((rd_T63 x6 x8).f0) ((rd_T63 x6 x8).f1) ((rd_T63 x6 x8).f2) ((rd_T63 x6 x8).f3) ((rd_T63 x6 x8).f4)))) else (none)) else (none)) else (some (-1))
def impl_wrongLine.j1:Nat→Int→List (S63)→Int→Int→Bool→Int→ByteArray→ByteArray→Int→List ByteArray→List (S63)→Int→ByteArray→Int→Int→ByteArray→Option (Int)
 | 0,_,_,_,_,_,_,_,_,_,_,_,_,_,_,_,_=>none
 | k+1,x3,x6,x7,x8,x37,x660000,x660001,x660002,x660003,x660004,x660005,x662000,x662001,x662002,x662003,x662004=>if x37=true then (some x3) else ((impl_namesItems.f x660000).bind fun t665=>(if t665=true then (if 0≤x3 then (if x3≤(x660005.length:Int) then ((impl_Line_impl_wrongLine_1_70.f k (x660005.take (x3:Int).toNat) x662000 x662001 x662002 x662003 x662004).bind fun bt670=>(if bt670.1=true then (some x3) else (impl_wrongLine.l0 k x6 x7 (wrap64 (x8+1)) x660000 x660001 x660002 x660003 x660004 x660005))) else (none)) else (none)) else (impl_wrongLine.l0 k x6 x7 (wrap64 (x8+1)) x660000 x660001 x660002 x660003 x660004 x660005)))
end
def impl_wrongLine.f (k:Nat) (a0_0:Int) (a0_1:ByteArray) (a0_2:ByteArray) (a0_3:Int) (l0_4:List ByteArray) (l0_5:List (S63)):Option (Int):=impl_wrongLine.l0 k l0_5 (l0_5.length:Int) 0 a0_0 a0_1 a0_2 a0_3 l0_4 l0_5
def impl_PaperRight.j0:Nat→Bool→Int→ByteArray→ByteArray→Int→List ByteArray→List (S63)→Option (Bool)
 | 0,_,_,_,_,_,_,_=>none
 | k+1,x19,x677000,x677001,x677002,x677003,x677004,x677005=>if x19=true then (some false) else ((impl_bodyOf.f k x677000 x677001 x677002 x677003 x677004 x677005).bind fun t678=>((impl_TableCheck.f k x677000 t678).bind fun bt681=>(if bt681.2.2=0 then ((impl_paperOf.f k x677000 t678).bind fun bt684=>((impl_same.f k bt684.1 bt684.2.1 bt684.2.2.1 bt684.2.2.2.1 bt684.2.2.2.2.1 bt684.2.2.2.2.2 x677000 x677001 x677002 x677003 x677004 x677005).bind fun t694=>(if t694=true then ((impl_wrongLine.f k x677000 x677001 x677002 x677003 x677004 x677005).bind fun t695=>(some (decide (t695<0)))) else (some false)))) else (some false))))
def impl_PaperRight.f (k:Nat) (a0_0:Int) (a0_1:ByteArray) (a0_2:ByteArray) (a0_3:Int) (l0_4:List ByteArray) (l0_5:List (S63)):Option (Bool):=(impl_within.f a0_0 1 7).bind fun t677=>(if t677=true then (if (l0_4.length:Int)>2 then (impl_PaperRight.j0 k true a0_0 a0_1 a0_2 a0_3 l0_4 l0_5) else (impl_PaperRight.j0 k (decide ((l0_5.length:Int)>20)) a0_0 a0_1 a0_2 a0_3 l0_4 l0_5)) else (impl_PaperRight.j0 k true a0_0 a0_1 a0_2 a0_3 l0_4 l0_5))
def impl_PaperBody.f (k:Nat) (a0_0:Int) (a0_1:ByteArray) (a0_2:ByteArray) (a0_3:Int) (l0_4:List ByteArray) (l0_5:List (S63)):Option ((List (S46))):=(impl_PaperRight.f k a0_0 a0_1 a0_2 a0_3 l0_4 l0_5).bind fun t697=>(if t697=true then ((impl_bodyOf.f k a0_0 a0_1 a0_2 a0_3 l0_4 l0_5).bind fun t698=>(some t698)) else (some ([]:List (S46))))
def laws_eqStringS.l0:Nat→List ByteArray→List ByteArray→Int→Option (Bool)
 | 0,_,_,_=>none
 | k+1,x0,x1,x5=>if x5<(x0.length:Int) then (if 0≤x5 then (if x5<(x1.length:Int) then (if (rdOf ByteArray.empty x0 x5).toList=(rdOf ByteArray.empty x1 x5).toList then (laws_eqStringS.l0 k x0 x1 (wrap64 (x5+1))) else (some false)) else (none)) else (none)) else (some true)
def laws_eqStringS.f (k:Nat) (l0:List ByteArray) (l1:List ByteArray):Option (Bool):=if (l0.length:Int)=(l1.length:Int) then (laws_eqStringS.l0 k l0 l1 0) else (some false)
def laws_eqElement.f (k:Nat) (l0_0:List ByteArray) (l1_0:List ByteArray):Option (Bool):=(laws_eqStringS.f k l0_0 l1_0).bind fun t705=>(if t705=true then (some true) else (some false))
def laws_eqElementS.l0:Nat→List (S77)→List (S77)→Int→Option (Bool)
 | 0,_,_,_=>none
 | k+1,x0,x1,x5=>if x5<(x0.length:Int) then (if 0≤x5 then (if x5<(x1.length:Int) then ((laws_eqElement.f k ((rd_T77 x0 x5).f0) ((rd_T77 x1 x5).f0)).bind fun t708=>(if t708=true then (laws_eqElementS.l0 k x0 x1 (wrap64 (x5+1))) else (some false))) else (none)) else (none)) else (some true)
def laws_eqElementS.f (k:Nat) (l0:List (S77)) (l1:List (S77)):Option (Bool):=if (l0.length:Int)=(l1.length:Int) then (laws_eqElementS.l0 k l0 l1 0) else (some false)
def laws_eqSegment.f (k:Nat) (a0_0:ByteArray) (l0_1:List (S77)) (a1_0:ByteArray) (l1_1:List (S77)):Option (Bool):=if a0_0.toList=a1_0.toList then ((laws_eqElementS.f k l0_1 l1_1).bind fun t711=>(if t711=true then (some true) else (some false))) else (some false)
def laws_eqSegmentS.l0:Nat→List (S46)→List (S46)→Int→Option (Bool)
 | 0,_,_,_=>none
 | k+1,x0,x1,x5=>if x5<(x0.length:Int) then (if 0≤x5 then (if x5<(x1.length:Int) then ((laws_eqSegment.f k ((rd_T46 x0 x5).f0) ((rd_T46 x0 x5).f1) ((rd_T46 x1 x5).f0) ((rd_T46 x1 x5).f1)).bind fun t714=>(if t714=true then (laws_eqSegmentS.l0 k x0 x1 (wrap64 (x5+1))) else (some false))) else (none)) else (none)) else (some true)
def laws_eqSegmentS.f (k:Nat) (l0:List (S46)) (l1:List (S46)):Option (Bool):=if (l0.length:Int)=(l1.length:Int) then (laws_eqSegmentS.l0 k l0 l1 0) else (some false)
def laws_eqLine.f (a0_0:Int) (a0_1:ByteArray) (a0_2:Int) (a0_3:Int) (a0_4:ByteArray) (a1_0:Int) (a1_1:ByteArray) (a1_2:Int) (a1_3:Int) (a1_4:ByteArray):Option Bool:=if a0_0=a1_0 then (if a0_1.toList=a1_1.toList then (if a0_2=a1_2 then (if a0_3=a1_3 then (if a0_4.toList=a1_4.toList then (some true) else none) else none) else none) else none) else none
def laws_eqLineS.l0:Nat→List S63→List S63→Int→Option Bool
 | 0,_,_,_=>none
 | k+1,x0,x1,x5=>if x5<(x0.length:Int) then (if 0≤x5 then (if x5<(x1.length:Int) then ((laws_eqLine.f ((rd_T63 x0 x5).f0) ((rd_T63 x0 x5).f1) ((rd_T63 x0 x5).f2) ((rd_T63 x0 x5).f3) ((rd_T63 x0 x5).f4) ((rd_T63 x1 x5).f0) ((rd_T63 x1 x5).f1) ((rd_T63 x1 x5).f2) ((rd_T63 x1 x5).f3) ((rd_T63 x1 x5).f4)).bind fun t=>(if t=true then (laws_eqLineS.l0 k x0 x1 (wrap64 (x5+1))) else (none))) else (none)) else (none)) else (some true)
def laws_eqLineS.f (k:Nat) (l0:List S63) (l1:List S63):Option Bool:=if (l0.length:Int)=(l1.length:Int) then (laws_eqLineS.l0 k l0 l1 0) else (none)
def laws_eqPaper.f (k:Nat) (a0_0:Int) (a0_1:ByteArray) (a0_2:ByteArray) (a0_3:Int) (l0_4:List ByteArray) (l0_5:List (S63)) (a1_0:Int) (a1_1:ByteArray) (a1_2:ByteArray) (a1_3:Int) (l1_4:List ByteArray) (l1_5:List (S63)):Option (Bool):=if a0_0=a1_0 then (if a0_1.toList=a1_1.toList then (if a0_2.toList=a1_2.toList then (if a0_3=a1_3 then ((laws_eqStringS.f k l0_4 l1_4).bind fun t717=>(if t717=true then ((laws_eqLineS.f k l0_5 l1_5).bind fun t718=>(if t718=true then (some true) else (some false))) else (some false))) else (some false)) else (some false)) else (some false)) else (some false)
def laws_markText.l0:Nat→Int→ByteArray→Option (ByteArray)
 | 0,_,_=>none
 | k+1,x0,x3=>if x0>0 then ((some (([(wrap64 (48+(Int.tmod x0 10))) % 256]:List Int):List Int)).bind fun y719=>(if (strOfNums y719).size+x3.size≤9223372036854775807 then (laws_markText.l0 k (wrap64 (Int.tdiv x0 10)) ((strOfNums y719)++x3)) else (none))) else (if 1+x3.size≤9223372036854775807 then (some ((⟨#[109]⟩:ByteArray)++x3)) else (none))
def laws_markText.f (k:Nat) (a0:Int):Option (ByteArray):=if a0≤0 then (some (⟨#[109,48]⟩:ByteArray)) else (laws_markText.l0 k a0 (⟨#[]⟩:ByteArray))
def laws_markStringS.l0:Nat→List ByteArray→Int→Int→Option (Int × List ByteArray)
 | 0,_,_,_=>none
 | k+1,x0,x1,x5=>if x5<(x0.length:Int) then ((laws_markText.f k x1).bind fun t722=>(if 0≤x5 then (laws_markStringS.l0 k (x0.set (x5:Int).toNat t722) (wrap64 (x1+1)) (wrap64 (x5+1))) else (none))) else (some (x1,x0))
def laws_markStringS.f (k:Nat) (l0:List ByteArray) (a1:Int):Option (Int × List ByteArray):=laws_markStringS.l0 k l0 a1 0
def laws_markLineS.l0:Nat→List S63→Int→Int→Option (Int × List S63)
 | 0,_,_,_=>none
 | k+1,l,s,i=>if i<(l.length:Int) then if 0≤i then (laws_markText.f k (wrap64 (s+1))).bind fun t1=>(laws_markText.f k (wrap64 ((wrap64 ((wrap64 ((wrap64 (s+1))+1))+1))+1))).bind fun t4=>laws_markLineS.l0 k (l.set i.toNat ⟨s,t1,wrap64 ((wrap64 (s+1))+1),wrap64 ((wrap64 ((wrap64 (s+1))+1))+1),t4⟩) (wrap64 ((wrap64 ((wrap64 ((wrap64 ((wrap64 (s+1))+1))+1))+1))+1)) (wrap64 (i+1)) else none else some (s,l)
def laws_markLineS.f (k:Nat) (l0:List S63) (a1:Int):Option (Int × List S63):=laws_markLineS.l0 k l0 a1 0
def laws_markPaper.f (k:Nat) (a0_0:Int) (a0_1:ByteArray) (a0_2:ByteArray) (a0_3:Int) (l0_4:List ByteArray) (l0_5:List (S63)) (a1:Int):Option (Int × List ByteArray × (List (S63))):=(laws_markStringS.f k l0_4 a1).bind fun bt725=>((laws_markLineS.f k l0_5 bt725.1).bind fun bt727=>(some (bt727.1,bt725.2,bt727.2)))
def laws_markElementS.l0:Nat→List S77→Int→Int→Option (Int × List S77)
 | 0,_,_,_=>none
 | k+1,l,s,i=>if i<(l.length:Int) then if 0≤i then (laws_markStringS.f k (rd_T77 l i).f0 s).bind fun r=>laws_markElementS.l0 k (l.set i.toNat ⟨r.2⟩) r.1 (wrap64 (i+1)) else none else some (s,l)
def laws_markElementS.f (k:Nat) (l0:List S77) (a1:Int):Option (Int × List S77):=laws_markElementS.l0 k l0 a1 0
def laws_markSegmentS.l0:Nat→List S46→Int→Int→Option (Int × List S46)
 | 0,_,_,_=>none
 | k+1,l,s,i=>if i<(l.length:Int) then (laws_markText.f k s).bind fun t0=>if 0≤i then (laws_markElementS.f k (rd_T46 l i).f1 (wrap64 (s+1))).bind fun r=>laws_markSegmentS.l0 k (l.set i.toNat ⟨t0,r.2⟩) r.1 (wrap64 (i+1)) else none else some (s,l)
def laws_markSegmentS.f (k:Nat) (l0:List S46) (a1:Int):Option (Int × List S46):=laws_markSegmentS.l0 k l0 a1 0
def laws_heldStringS.l0:Nat→List ByteArray→Int→Int→Option (Int)
 | 0,_,_,_=>none
 | k+1,x0,x1,x5=>if x5<(x0.length:Int) then (if 0≤x5 then ((laws_markText.f k x1).bind fun t730=>(if (rdOf ByteArray.empty x0 x5).toList=t730.toList then (laws_heldStringS.l0 k x0 (wrap64 (x1+1)) (wrap64 (x5+1))) else (some (-1)))) else (none)) else (some x1)
def laws_heldStringS.f (k:Nat) (l0:List ByteArray) (a1:Int):Option (Int):=laws_heldStringS.l0 k l0 a1 0
def laws_heldElementS.l0:Nat→List (S77)→Int→Int→Option (Int)
 | 0,_,_,_=>none
 | k+1,x0,x1,x5=>if x5<(x0.length:Int) then (if 0≤x5 then ((laws_heldStringS.f k ((rd_T77 x0 x5).f0) x1).bind fun t732=>(if t732<0 then (some (-1)) else (laws_heldElementS.l0 k x0 t732 (wrap64 (x5+1))))) else (none)) else (some x1)
def laws_heldElementS.f (k:Nat) (l0:List (S77)) (a1:Int):Option (Int):=laws_heldElementS.l0 k l0 a1 0
def laws_heldSegmentS.l0:Nat→List (S46)→Int→Int→Option (Int)
 | 0,_,_,_=>none
 | k+1,x0,x1,x5=>if x5<(x0.length:Int) then (if 0≤x5 then ((laws_markText.f k x1).bind fun t734=>(if ((rd_T46 x0 x5).f0).toList=t734.toList then ((laws_heldElementS.f k ((rd_T46 x0 x5).f1) (wrap64 (x1+1))).bind fun t736=>(if t736<0 then (some (-1)) else (laws_heldSegmentS.l0 k x0 t736 (wrap64 (x5+1))))) else (some (-1)))) else (none)) else (some x1)
def laws_heldSegmentS.f (k:Nat) (l0:List (S46)) (a1:Int):Option (Int):=laws_heldSegmentS.l0 k l0 a1 0
def laws_FnExactPaperBody.f (k:Nat) (a0_0:Int) (a0_1 a0_2:ByteArray) (a0_3:Int) (l0_4:List ByteArray) (l0_5:List S54):Option Bool :=
 (laws_szPaper.f k a0_0 a0_1 a0_2 a0_3 l0_4 l0_5 1048576).bind fun t=>if t<0 then some true else
 (laws_toPaper.f k a0_0 a0_1 a0_2 a0_3 l0_4 l0_5).bind fun a=>(spec_PaperBody.f k a.1 a.2.1 a.2.2.1 a.2.2.2.1 a.2.2.2.2.1 a.2.2.2.2.2).bind fun b =>
 (laws_toPaper.f k a0_0 a0_1 a0_2 a0_3 l0_4 l0_5).bind fun x=>(impl_PaperBody.f k x.1 x.2.1 x.2.2.1 x.2.2.2.1 x.2.2.2.2.1 x.2.2.2.2.2).bind fun g =>
 (laws_eqSegmentS.f k g b).bind fun e1=>if e1=true then
 (laws_toPaper.f k a0_0 a0_1 a0_2 a0_3 l0_4 l0_5).bind fun y=>(laws_eqPaper.f k x.1 x.2.1 x.2.2.1 x.2.2.2.1 x.2.2.2.2.1 x.2.2.2.2.2 y.1 y.2.1 y.2.2.1 y.2.2.2.1 y.2.2.2.2.1 y.2.2.2.2.2).bind fun e2=>if e2=true then
 (laws_markPaper.f k x.1 x.2.1 x.2.2.1 x.2.2.2.1 x.2.2.2.2.1 x.2.2.2.2.2 1).bind fun m0=>if m0.1<0 then none else
 (laws_eqSegmentS.f k g b).bind fun e3=>if e3=true then
 (laws_markSegmentS.f k g 1).bind fun m=>(laws_heldSegmentS.f k m.2 1).bind fun q=>if q<0 then none else if q=m.1 then
 (laws_toPaper.f k a0_0 a0_1 a0_2 a0_3 l0_4 l0_5).bind fun z=>(impl_PaperBody.f k z.1 z.2.1 z.2.2.1 z.2.2.2.1 z.2.2.2.2.1 z.2.2.2.2.2).bind fun h=>(laws_eqSegmentS.f k h b).bind fun e4=>if e4=true then
 (laws_heldSegmentS.f k m.2 1).bind fun q2=>if q2<0 then none else if q2=m.1 then some true else none
 else none
 else none
 else none
 else none
 else none
theorem laws_szStringS.calls (k:Nat) (A0:Option Addr) (c0:Nat) (l0:List ByteArray) (a1:Int) (r:Int) (w:World) (hr0:Kd.C Kd.string w A0 l0.length l0) (hc0:l0.length≤c0) (H:laws_szStringS.f k l0 a1=some r) :
  Calls Tryz.prog 13 #[.slice A0 l0.length c0,.int .i64 a1] w fun e w'=>e=.returned (.int .i64 r)∧Drawn0 w w':=by
 have HR0:=am hr0;have HC0:=am hc0;clear hr0 hc0;unfold laws_szStringS.f at H
 revert H;refine id2 ?_ ?_
 ·intro c3b0 H;obtain rfl:=si H
  go_in
  go_wp2
  go_ret
  exact ⟨fg,dr⟩
 ·intro c3b0 H;have H':=am H;clear H
  go_in
  go_wp2
  go_loopg [1,5] k (fun kq v1 v5 w'=>∃ (x1_1:Int) (x5_1:Int),v1=.int .i64 x1_1∧v5=.int .i64 x5_1∧Aside0 (laws_szStringS.l0 kq l0 x1_1 x5_1=some r)∧Aside0 (kq≤k)∧Drawn0 w w')
  case atStart=>exact ⟨(wrap64 (a1 - (l0.length:Int))),(0),fg,fg,H',⟨Nat.le_refl _⟩,by repeat (first|exact Drawn0.refl _|apply Drawn0.step)⟩
  case round =>
   clear H'
   try clear c3b0
   obtain ⟨x1_1,x5_1,rfl,rfl,HA,HK1,⟨m1,rfl⟩⟩:=hrel
   cases gk with
   | zero=>exact absurd HA.out (by simp [laws_szStringS.l0])
   | succ k1 =>
    have H:=HA.out;clear HA;simp only [laws_szStringS.l0] at H
    revert H;refine id2 ?_ ?_
    ·intro c4b0 H
     revert H;refine id1 ?_
     intro c5b0 H
     revert H;refine id2 ?_ ?_
     ·intro c6b0 H;obtain rfl:=si H;have p7:0≤(x5_1:Int):=oa;have q7:x5_1<(l0.length:Int):=oa;obtain ⟨ad7,e7,hx7_0⟩:=Kd.at_string HR0.out x5_1 p7 q7
      cases e7
      replace p7:=eq_true p7;replace q7:=eq_true q7
      go_wp2
      go_ret
      exact ⟨fg,dr⟩
     ·intro c6b0 H;have H':=am H;clear H;have p7:0≤(x5_1:Int):=oa;have q7:x5_1<(l0.length:Int):=oa;obtain ⟨ad7,e7,hx7_0⟩:=Kd.at_string HR0.out x5_1 p7 q7
      cases e7
      replace p7:=eq_true p7;replace q7:=eq_true q7
      go_wp2
      go_roundg k1
      case measure=>have:=HK1.out;omega
      case rel=>exact ⟨(wrap64 (x1_1 - ((rdOf ByteArray.empty l0 x5_1).size:Int))),(wrap64 (x5_1+1)),fg,fg,H',⟨by have:=HK1.out;omega⟩,by repeat (first|exact Drawn0.refl _|apply Drawn0.step)⟩
    ·intro c4b0 H;obtain rfl:=si H
     go_wp2
     go_ret
     exact ⟨fg,dr⟩
theorem laws_szLine.calls (a0_0:Int) (a0_1:ByteArray) (a0_2:Int) (a0_3:Int) (a0_4:ByteArray) (a1:Int) (r:Int) (w:World) (H:laws_szLine.f a0_0 a0_1 a0_2 a0_3 a0_4 a1=some r) :
  Calls Tryz.prog 29 #[.agg #[.int .i64 a0_0,.string a0_1,.int .i64 a0_2,.int .i64 a0_3,.string a0_4],.int .i64 a1] w fun e w'=>e=.returned (.int .i64 r)∧Below w.heap.size w w':=by
 have hu54:=Tryz.underlying54;have HB:=am (Below.refl w.heap.size w);unfold laws_szLine.f at H
 revert H;refine id2 ?_ ?_
 ·intro c3b0 H;obtain rfl:=si H
  go_in
  go_wp2_with (first|((with_reducible refine gate_dst (N:=2) rfl ?_);refine bz 2 (cs:=#[.int .i64 a0_0,.string a0_1,.int .i64 a0_2,.int .i64 a0_3,.string a0_4]) (t:=54) HB ?_;clear HB;intro gb11 hg w4 BK11 GW11 hb HB;clear hb hg;have hcz5:=cf5 BK11))
  go_ret
  exact ⟨ff,bs HB⟩
 ·intro c3b0 H
  revert H;refine id2 ?_ ?_
  ·intro c6b0 H;obtain rfl:=si H
   go_in
   go_wp2_with (first|((with_reducible refine gate_dst (N:=2) rfl ?_);refine bz 2 (cs:=#[.int .i64 a0_0,.string a0_1,.int .i64 a0_2,.int .i64 a0_3,.string a0_4]) (t:=54) HB ?_;clear HB;intro gb11 hg w7 BK11 GW11 hb HB;clear hb hg;have hcz8:=cf5 BK11))
   go_ret
   exact ⟨ff,bs HB⟩
  ·intro c6b0 H;obtain rfl:=si H
   go_in
   go_wp2_with (first|((with_reducible refine gate_dst (N:=2) rfl ?_);refine bz 2 (cs:=#[.int .i64 a0_0,.string a0_1,.int .i64 a0_2,.int .i64 a0_3,.string a0_4]) (t:=54) HB ?_;clear HB;intro gb11 hg w9 BK11 GW11 hb HB;clear hb hg;have hcz10:=cf5 BK11))
   go_ret
   exact ⟨ff,bs HB⟩
theorem laws_szLineS.calls (k:Nat) (A0:Option Addr) (c0:Nat) (l0:List (S54)) (a1:Int) (r:Int) (w:World) (hr0:Kd.C k54 w A0 l0.length l0) (hc0:l0.length≤c0) (H:laws_szLineS.f k l0 a1=some r) :
  Calls Tryz.prog 14 #[.slice A0 l0.length c0,.int .i64 a1] w fun e w'=>e=.returned (.int .i64 r)∧Below w.heap.size w w':=by
 have hu54:=Tryz.underlying54;have HR0:=am hr0;have HC0:=am hc0;clear hr0 hc0;have HB:=am (Below.refl w.heap.size w);unfold laws_szLineS.f at H
 revert H;refine id2 ?_ ?_
 ·intro c3b0 H;obtain rfl:=si H
  go_in
  go_wp2
  go_ret
  exact ⟨ff,bs HB⟩
 ·intro c3b0 H;have H':=am H;clear H
  go_in
  go_wp2
  go_loopg [1,5] k (fun kq v1 v5 w'=>∃ (x1_1:Int) (x5_1:Int),v1=.int .i64 x1_1∧v5=.int .i64 x5_1∧Aside0 (laws_szLineS.l0 kq l0 x1_1 x5_1=some r)∧Aside0 (kq≤k)∧Aside0 (Below w.heap.size w w'))
  case atStart=>exact ⟨(wrap64 (a1 - (l0.length:Int))),(0),fg,fg,H',⟨Nat.le_refl _⟩,⟨bs HB⟩⟩
  case round =>
   clear H'
   try clear c3b0
   obtain ⟨x1_1,x5_1,rfl,rfl,HA,HK1,HB⟩:=hrel
   cases gk with
   | zero=>exact absurd HA.out (by simp [laws_szLineS.l0])
   | succ k1 =>
    have H:=HA.out;clear HA;simp only [laws_szLineS.l0] at H
    revert H;refine id2 ?_ ?_
    ·intro c4b0 H
     revert H;refine id1 ?_
     intro c5b0 H;replace H:=bo H;obtain ⟨t10,A6,H⟩:=H;have p9:0≤(x5_1:Int):=oa;have q9:x5_1<(l0.length:Int):=oa;obtain ⟨ad9,e9,hx9_0,hx9_1,hx9_2,hx9_3,hx9_4⟩:=at_T54 HR0.out x5_1 p9 q9
     cases e9
     replace hx9_0:=cb HB hx9_0;replace hx9_1:=cb HB hx9_1;replace hx9_2:=cb HB hx9_2;replace hx9_3:=cb HB hx9_3;replace hx9_4:=cb HB hx9_4;replace p9:=eq_true p9;replace q9:=eq_true q9
     try go_wp2_with (fail)
     go_at_call 29;(with_reducible refine (laws_szLine.calls ((rd_T54 l0 x5_1).f0) ((rd_T54 l0 x5_1).f1) ((rd_T54 l0 x5_1).f2) ((rd_T54 l0 x5_1).f3) ((rd_T54 l0 x5_1).f4) x1_1 t10 _ A6.out).mono ?_);rintro e w7 ⟨rfl,hb⟩;replace HB:=bq HB hb;(try clear hb);(try clear hb2);(try clear hk);(try clear hi)
     revert H;refine id2 ?_ ?_
     ·intro c8b0 H;obtain rfl:=si H
      go_wp2
      go_ret
      exact ⟨ff,bs HB⟩
     ·intro c8b0 H;have H':=am H;clear H
      go_wp2
      go_roundg k1
      case measure=>have:=HK1.out;omega
      case rel=>exact ⟨(t10),(wrap64 (x5_1+1)),fg,fg,H',⟨by have:=HK1.out;omega⟩,⟨bs HB⟩⟩
    ·intro c4b0 H;obtain rfl:=si H
     go_wp2
     go_ret
     exact ⟨ff,bs HB⟩
theorem laws_szPaper.calls (k:Nat) (a0_0:Int) (a0_1:ByteArray) (a0_2:ByteArray) (a0_3:Int) (A0_4:Option Addr) (c0_4:Nat) (l0_4:List ByteArray) (A0_5:Option Addr) (c0_5:Nat) (l0_5:List (S54)) (a1:Int) (r:Int) (w:World) (hr0_4:Kd.C Kd.string w A0_4 l0_4.length l0_4) (hc0_4:l0_4.length≤c0_4) (hr0_5:Kd.C k54 w A0_5 l0_5.length l0_5) (hc0_5:l0_5.length≤c0_5) (H:laws_szPaper.f k a0_0 a0_1 a0_2 a0_3 l0_4 l0_5 a1=some r) :
  Calls Tryz.prog 4 #[.agg #[.int .i64 a0_0,.string a0_1,.string a0_2,.int .i64 a0_3,.slice A0_4 l0_4.length c0_4,.slice A0_5 l0_5.length c0_5],.int .i64 a1] w fun e w'=>e=.returned (.int .i64 r)∧Below w.heap.size w w':=by
 have hu25:=Tryz.underlying25;have HR0_4:=am hr0_4;have HC0_4:=am hc0_4;clear hr0_4 hc0_4;have HR0_5:=am hr0_5;have HC0_5:=am hc0_5;clear hr0_5 hc0_5;have HB:=am (Below.refl w.heap.size w);unfold laws_szPaper.f at H
 revert H;refine id2 ?_ ?_
 ·intro c3b0 H;obtain rfl:=si H
  go_in
  go_wp2_with (first|((with_reducible refine gate_dst (N:=2) rfl ?_);refine bz 2 (cs:=#[.int .i64 a0_0,.string a0_1,.string a0_2,.int .i64 a0_3,.slice A0_4 l0_4.length c0_4,.slice A0_5 l0_5.length c0_5]) (t:=25) HB ?_;clear HB;intro gb17 hg w4 BK17 GW17 hb HB;clear hb hg;have hcz5:=cf6 BK17))
  go_ret
  exact ⟨ff,bs HB⟩
 ·intro c3b0 H
  revert H;refine id2 ?_ ?_
  ·intro c6b0 H;obtain rfl:=si H
   go_in
   go_wp2_with (first|((with_reducible refine gate_dst (N:=2) rfl ?_);refine bz 2 (cs:=#[.int .i64 a0_0,.string a0_1,.string a0_2,.int .i64 a0_3,.slice A0_4 l0_4.length c0_4,.slice A0_5 l0_5.length c0_5]) (t:=25) HB ?_;clear HB;intro gb17 hg w7 BK17 GW17 hb HB;clear hb hg;have hcz8:=cf6 BK17))
   go_ret
   exact ⟨ff,bs HB⟩
  ·intro c6b0 H;replace H:=bo H;obtain ⟨t18,A9,H⟩:=H
   go_in
   try go_wp2_with (first|((with_reducible refine gate_dst (N:=2) rfl ?_);refine bz 2 (cs:=#[.int .i64 a0_0,.string a0_1,.string a0_2,.int .i64 a0_3,.slice A0_4 l0_4.length c0_4,.slice A0_5 l0_5.length c0_5]) (t:=25) HB ?_;clear HB;intro gb17 hg w10 BK17 GW17 hb HB;clear hb hg;have hcz11:=cf6 BK17))
   go_at_call 13;(with_reducible refine (laws_szStringS.calls k _ _ l0_4 (wrap64 ((wrap64 (a1 - (a0_1.size:Int))) - (a0_2.size:Int))) t18 _ (Kd.C_below HR0_4.out (bs HB)) HC0_4.out A9.out).mono ?_);rintro e w' ⟨rfl,⟨nd,rfl⟩⟩
   revert H;refine id2 ?_ ?_
   ·intro c12b0 H;obtain rfl:=si H
    go_wp2
    go_ret
    exact ⟨ff,bs HB⟩
   ·intro c12b0 H;replace H:=bo H;obtain ⟨t19,A13,H⟩:=H;have hcz14:=cf6 BK17
    try go_wp2_with (fail)
    go_at_call 14;(with_reducible refine (laws_szLineS.calls k _ _ l0_5 t18 t19 _ ?side1 HC0_5.out A13.out).mono ?_);(case side1=>repeat (first|exact (Kd.C_below HR0_5.out (bs HB))|(with_reducible refine Kd.C_alloc ?_ _)|(with_reducible refine Kd.C_drewN ?_ _)|(with_reducible refine Kd.C_drew ?_)));rintro e w15 ⟨rfl,hb⟩;replace BK17:=bb BK17 hb;replace HB:=bq HB hb;(try clear hb);(try clear hb2);(try clear hk);(try clear hi)
    revert H;refine id2 ?_ ?_
    ·intro c16b0 H;obtain rfl:=si H
     go_wp2
     go_ret
     exact ⟨ff,bs HB⟩
    ·intro c16b0 H;obtain rfl:=si H
     go_wp2
     go_ret
     exact ⟨ff,bs HB⟩
theorem laws_toStringS.calls (k:Nat) (A0:Option Addr) (c0:Nat) (l0:List ByteArray) (r:List ByteArray) (w:World) (hr0:Kd.C Kd.string w A0 l0.length l0) (hc0:l0.length≤c0) (H:laws_toStringS.f k l0=some r) :
  Calls Tryz.prog 17 #[.slice A0 l0.length c0] w fun e w'=>∃ v0_:Value,e=.returned (v0_)∧Kd.R Kd.string 9 w' w.heap.size (fun _=>True) v0_ r∧Below w.heap.size w w':=by
 have HR0:=am hr0;have HC0:=am hc0;clear hr0 hc0;have HB:=am (Below.refl w.heap.size w);unfold laws_toStringS.f at H
 revert H;refine ip2 ?_ ?_
 ·intro c2 H;have c2b0:=eq_true c2;have c2b1:decide (0≤(l0.length:Int))=true:=decide_eq_true c2;clear c2
  revert H;refine ip1 ?_
  intro c3 H;have c3b0:=eq_true c3;have c3b1:decide (((l0.length:Int):Int).toNat≤17592186044416)=true:=decide_eq_true c3;clear c3;obtain ⟨y13,hy13⟩:∃ y_:List ByteArray,y_=(List.replicate ((l0.length:Int):Int).toNat (⟨#[]⟩:ByteArray)):=⟨_,rfl⟩
  replace H:(laws_toStringS.l0 k l0 y13 0)=some r:=ye hy13 H
  have Ny13:=am hy13;clear hy13;have H':=am H;clear H
  go_in
  go_wp2_with (first|((with_reducible refine gate_dst (N:=7) rfl ?_);refine Kd.R_make Kd.string _ 9 rfl (N:=7) rfl 22 _ _ rfl (l0.length:Int) rfl rfl Tryz.underlying22 (.string ⟨#[]⟩) 16 info9 rfl (by decide) (by omega) (⟨#[]⟩:ByteArray) (ok:=fun _=>True) (okp:=fun _=>True) rfl (fun _ hk=>hk) trivial (oa) (Nat.le_trans (Nat.mul_le_mul_right _ (oa:(l0.length:Int).toNat≤17592186044416)) (by omega)) (Below.refl _ _) (Nat.le_refl _) ?_;intro v15 w4 ho5 hb hg_ hnew_;clear hg_ hnew_;(first|rw [← Ny13.out] at ho5|(simp only [Int.reduceToNat] at ho5;rw [← Ny13.out] at ho5));have HO18:=am (Kd.R_lower ho5 (below_size (bs HB)));replace HB:=bq HB hb;clear hb ho5))
  go_loopg [4] k (fun kq v4 w'=>∃ (x3_1:List ByteArray) (x4_1:Int),v4=.int .i64 x4_1∧Aside0 (laws_toStringS.l0 kq l0 x3_1 x4_1=some r)∧Aside0 (kq≤k)∧Aside0 (Kd.R Kd.string 9 w' w.heap.size (fun _=>True) v15 x3_1)∧Aside0 (Below w.heap.size w w'))
  case atStart=>exact ⟨(y13),(0),fg,H',⟨Nat.le_refl _⟩,⟨rz HO18.out⟩,⟨bs HB⟩⟩
  case round =>
   clear H'
   try clear c2
   try clear c2b0
   try clear c2b1
   try clear c3
   try clear c3b0
   try clear c3b1
   obtain ⟨x3_1,x4_1,rfl,HA,HK1,HO_3,HB⟩:=hrel
   cases gk with
   | zero=>exact absurd HA.out (by simp [laws_toStringS.l0])
   | succ k1 =>
    have H:=HA.out;clear HA;simp only [laws_toStringS.l0] at H
    revert H;refine id2 ?_ ?_
    ·intro c6b0 H
     revert H;refine id1 ?_
     intro c7b0 H
     revert H;refine id1 ?_
     intro c8b0 H;obtain ⟨y14,hy14⟩:∃ y_:List ByteArray,y_=(x3_1.set (x4_1:Int).toNat (rdOf ByteArray.empty l0 x4_1)):=⟨_,rfl⟩
     replace H:(laws_toStringS.l0 k1 l0 y14 (wrap64 (x4_1+1)))=some r:=ye hy14 H
     have Ny14:=am hy14;clear hy14;have H':=am H;clear H;have p12:0≤(x4_1:Int):=oa;have q12:x4_1<(l0.length:Int):=oa;obtain ⟨ad12,e12,hx12_0⟩:=Kd.at_string HR0.out x4_1 p12 q12
     cases e12
     replace hx12_0:=cb HB hx12_0;replace p12:=eq_true p12;replace q12:=eq_true q12;have p9:0≤(x4_1:Int):=oa;have q9:(x4_1:Int)<((x3_1.length:Int):Int):=oa;obtain ⟨go9,co9,eo9,gb9,gl9,cl9,HG9⟩:=Kd.R_form HO_3.out (by omega)
     (first|cases eo9|(injection eo9 with ea_ en_ ec_;(first|subst ea_|(injection ea_ with ea_;subst ea_));subst ec_;clear en_))
     have GB9:=am gb9;have GG9:=am HG9;clear gb9 gl9 HG9;obtain ⟨hx9_0,hf9_0⟩:=Kd.R_celln (⟨#[]⟩:ByteArray) HO_3.out (x4_1:Int) p9 q9;replace p9:=eq_true p9;replace q9:=eq_true q9;have HP10:=Kd.R_putg HO_3.out (x4_1:Int) (rdOf ByteArray.empty l0 x4_1)
     go_wp2_with (first|((with_reducible refine gate_store (t:=9) (p:=20) rfl ?_);refine store_event (t:=9) (p:=20) (v:=?vo_w11) (w1:=(wr.setCell ⟨go9,(x4_1:Int).toNat,none⟩ (.string (rdOf ByteArray.empty l0 x4_1)))) ?hg ?ho ?hn ?hr ?_;(case ho=>rfl);(case hg=>rfl);(case hn=>rfl);(case hr=>first|(go_simp;done)|(go_simp;rfl));intro w11 hw;have hg:wr.grownBy w11 (some go9):=(by rw [hw];exact HP10.2);have hp_:Kd.R Kd.string 9 w11 w.heap.size (fun _=>True) (.slice (some ⟨go9,0,none⟩) x3_1.length co9) y14:=(by rw [hw,Ny14.out];exact HP10.1);clear HP10;have n0_:=am (hp_);have n1_:=am ((by rw [hw];exact below_set (HB.out) GB9.out:Below w.heap.size w w11));clear HO_3;clear HB;have HO_3:=n0_;have HB:=n1_;clear n0_ n1_;clear hg hw hp_))
     go_roundg k1
     case measure=>have:=HK1.out;omega
     case rel=>exact ⟨(y14),(wrap64 (x4_1+1)),fg,H',⟨by have:=HK1.out;omega⟩,⟨rz HO_3.out⟩,⟨bs HB⟩⟩
    ·intro c6b0 H;obtain rfl:=si H
     go_wp2
     go_ret
     exact ⟨_,ff,by (with_reducible repeat (first|apply Kd.R_alloc|apply Kd.R_drewN|apply Kd.R_drew));exact HO_3.out,bs HB⟩
 ·intro c2 H
  exact absurd H (by simp)
theorem laws_toLine.calls (a0_0:Int) (a0_1:ByteArray) (a0_2:Int) (a0_3:Int) (a0_4:ByteArray) (r1:Int) (r2:ByteArray) (r3:Int) (r4:Int) (r5:ByteArray) (w:World) (H:laws_toLine.f a0_0 a0_1 a0_2 a0_3 a0_4=some (r1,r2,r3,r4,r5)) :
  Calls Tryz.prog 37 #[.agg #[.int .i64 a0_0,.string a0_1,.int .i64 a0_2,.int .i64 a0_3,.string a0_4]] w fun e w'=>e=.returned (.agg #[.int .i64 r1,.string r2,.int .i64 r3,.int .i64 r4,.string r5])∧Below w.heap.size w w':=by
 have hu54:=Tryz.underlying54;have hu63:=Tryz.underlying63;have HB:=am (Below.refl w.heap.size w);unfold laws_toLine.f at H;replace H:=sj5 H;obtain ⟨rfl,rfl,rfl,rfl,rfl⟩:=H
 go_in
 go_wp2_with (first|((with_reducible refine gate_dst (N:=1) rfl ?_);refine bz 1 (cs:=#[.int .i64 a0_0,.string a0_1,.int .i64 a0_2,.int .i64 a0_3,.string a0_4]) (t:=54) HB ?_;clear HB;intro gb11 hg w2 BK11 GW11 hb HB;clear hb hg)|((with_reducible refine gate_dst (N:=2) rfl ?_);refine bz 2 (cs:=#[.int .i64 0,.string (⟨#[]⟩:ByteArray),.int .i64 0,.int .i64 0,.string (⟨#[]⟩:ByteArray)]) (t:=63) HB ?_;clear HB;intro gb12 hg w3 BK12 GW12 hb HB;have NB11_12:=na hg BK11;have NB12_11:=nc hg BK11;replace BK11:=bb BK11 hb;clear hb hg)|((with_reducible refine gate_dst (N:=3) rfl ?_);refine bz 3 (cs:=#[.int .i64 0,.string (⟨#[]⟩:ByteArray),.int .i64 0,.int .i64 0,.string (⟨#[]⟩:ByteArray)]) (t:=63) HB ?_;clear HB;intro gb13 hg w4 BK13 GW13 hb HB;have NB11_13:=na hg BK11;have NB13_11:=nc hg BK11;replace BK11:=bb BK11 hb;have NB12_13:=na hg BK12;have NB13_12:=nc hg BK12;replace BK12:=bb BK12 hb;clear hb hg;have hnb5:=NB11_12.out;have hnc5:=NB12_11.out;have hnb6:=NB11_13.out;have hnc6:=NB13_11.out;have hcz7:=cf5 BK11;have hnb8:=NB13_12.out;have hnc8:=NB12_13.out;have hcz9:=cf5 BK13;have hcz10:=cf5 BK12))
 refine bodyPost_ret (results_cell_row rfl _ _ gb12 63 #[.int .i64 a0_0,.string a0_1,.int .i64 a0_2,.int .i64 a0_3,.string a0_4] (0,0) _ rfl (kp BK12) Tryz.underlying63 rfl (by kernel_rfl)) rfl ?_
 exact ⟨ff,bs HB⟩
theorem laws_toLineS.calls (k:Nat) (A0:Option Addr) (c0:Nat) (l0:List (S54)) (r:List (S63)) (w:World) (hr0:Kd.C k54 w A0 l0.length l0) (hc0:l0.length≤c0) (H:laws_toLineS.f k l0=some r) :
  Calls Tryz.prog 18 #[.slice A0 l0.length c0] w fun e w'=>∃ v0_:Value,e=.returned (v0_)∧Kd.R k63 63 w' w.heap.size (fun _=>True) v0_ r∧Below w.heap.size w w':=by
 have hu:=Tryz.underlying54;have hu2:=Tryz.underlying63;have HR0:=am hr0;clear hr0 hc0;have HB:=am (Below.refl w.heap.size w);unfold laws_toLineS.f at H
 revert H;refine ip1 ?_;intro c2 H;have c2b0:=eq_true c2;have c2b1:decide (0≤(l0.length:Int))=true:=decide_eq_true c2;clear c2
 revert H;refine ip1 ?_;intro c3 H;have c3b0:=eq_true c3;have c3b1:decide (((l0.length:Int):Int).toNat≤5026338869833)=true:=decide_eq_true c3;clear c3;have H':=am H;clear H
 go_in
 go_wp2_with (first|((with_reducible refine gate_dst (N:=7) rfl ?_);refine Kd.R_make k63 _ 63 rfl (N:=7) rfl 29 _ _ rfl (l0.length:Int) rfl rfl Tryz.underlying29 ((.agg #[(.int .i64 0),(.string ⟨#[]⟩),(.int .i64 0),(.int .i64 0),(.string ⟨#[]⟩)])) 56 info63 rfl (by decide) (by omega) z63 (ok:=fun _=>True) (okp:=fun _=>True) (k63_mkM _ _ _ z63) (fun _ hk=>hk) trivial (oa) (Nat.le_trans (Nat.mul_le_mul_right _ (oa:(l0.length:Int).toNat≤5026338869833)) (by omega)) (Below.refl _ _) (Nat.le_refl _) ?_;intro v wa ho hb hg_ hn_;clear hg_ hn_;have HO:=am (Kd.R_mono (ok':=(fun k_=>(False∨w.heap.size≤k_))) (Kd.R_bound (Kd.R_lower ho (below_size (bs HB)))) (fun _ q=>.inr q.2.1));replace HB:=bq HB hb;clear hb ho))
 go_loopg [4] k (fun kq v4 w'=>∃ (x3:List (S63)) (x4:Int),v4=.int .i64 x4∧Aside0 (laws_toLineS.l0 kq l0 x3 x4=some r)∧Aside0 (kq≤k)∧Aside0 (Kd.R k63 63 w' w.heap.size (fun k_=>(False∨w.heap.size≤k_)) v x3)∧Aside0 (Below w.heap.size w w'))
 case atStart=>exact ⟨_,0,fg,H',⟨Nat.le_refl _⟩,HO,HB⟩
 case round =>
  clear H' HO;(try clear c2b0);(try clear c2b1);(try clear c3b0);(try clear c3b1);obtain ⟨x3,x4,rfl,HA,HK1,HO,HB⟩:=hrel
  cases gk with
  | zero=>exact absurd HA.out (by simp [laws_toLineS.l0])
  | succ k1 =>
   have H:=HA.out;clear HA;simp only [laws_toLineS.l0] at H
   revert H;refine id2 ?_ ?_
   ·intro c6b0 H;revert H;refine id1 ?_;intro c7b0 H;replace H:=bo H;obtain ⟨⟨t0,t1,t2,t3,t4⟩,A8,H⟩:=H;(try dsimp only at H);revert H;refine id1 ?_;intro c9b0 H;have H':=am H;clear H;have p1:0≤(x4:Int):=oa;have q1:x4<(l0.length:Int):=oa;have q2:(x4:Int)<(x3.length:Int):=oa;obtain ⟨ad,ea,g0,g1,g2,g3,g4⟩:=at_T54 HR0.out x4 p1 q1;cases ea;replace g0:=cb HB g0;replace g1:=cb HB g1;replace g2:=cb HB g2;replace g3:=cb HB g3;replace g4:=cb HB g4;obtain ⟨g,cap,oki,c,eo,hM,hL⟩:=hol z63 x4 (S_flat (fun _ _ _ _ _ h=>by obtain rfl:=k63_openM h;exact k63_mkM _ _ _ _) HO.out) HB.out (Kept.of_below HB.out _) p1 q2
    cases eo
    obtain rfl:=k63_openM hM;have HL:=am hL;clear hL hM HO;replace p1:=eq_true p1;replace q1:=eq_true q1;replace q2:=eq_true q2
    go_wp2_with (first|(go_at_call 37;(with_reducible refine (laws_toLine.calls ((rd_T54 l0 x4).f0) ((rd_T54 l0 x4).f1) ((rd_T54 l0 x4).f2) ((rd_T54 l0 x4).f3) ((rd_T54 l0 x4).f4) t0 t1 t2 t3 t4 _ A8.out).mono ?_);rintro e wb ⟨rfl,hb⟩;replace HL:=am (HL.out.below hb);clear hb;obtain ⟨hx0,hf0⟩:=HL.out.nz 5 rfl rfl;obtain ⟨-,hx1,hf1⟩:=HL.out.nx 5 1 rfl rfl rfl;obtain ⟨-,hx2,hf2⟩:=HL.out.nx 5 2 rfl rfl rfl;obtain ⟨-,hx3,hf3⟩:=HL.out.nx 5 3 rfl rfl rfl;obtain ⟨-,hx4,hf4⟩:=HL.out.nx 5 4 rfl rfl rfl)|((with_reducible refine gate_store (t:=63) (p:=21) rfl ?_);refine store_event (t:=63) (p:=21) (v:=?vo) (w1:=(((((wb.setCell ⟨g,(x4:Int).toNat * 5,none⟩ (.int .i64 t0)).setCell ⟨g,(x4:Int).toNat * 5+1,none⟩ (.string t1)).setCell ⟨g,(x4:Int).toNat * 5+2,none⟩ (.int .i64 t2)).setCell ⟨g,(x4:Int).toNat * 5+3,none⟩ (.int .i64 t3)).setCell ⟨g,(x4:Int).toNat * 5+4,none⟩ (.string t4))) ?hg ?ho ?hn ?hr ?_;(case ho=>rfl);(case hg=>rfl);(case hn=>rfl);(case hr=>first|(go_simp;done)|(go_simp;rfl));intro wc hw;replace HL:=am (((((HL.out.put 0 (.int .i64 t0) (by decide) rfl rfl).put 1 (.string t1) (by decide) rfl rfl).put 2 (.int .i64 t2) (by decide) rfl rfl).put 3 (.int .i64 t3) (by decide) rfl rfl).put 4 (.string t4) (by decide) rfl hw);clear hw))
    go_roundg k1
    case measure=>have:=HK1.out;omega
    case rel=>exact ⟨_,wrap64 (x4+1),fg,H',⟨by have:=HK1.out;omega⟩,⟨HL.out.back (⟨t0,t1,t2,t3,t4⟩:S63) (k63_mkM _ _ _ (⟨t0,t1,t2,t3,t4⟩:S63))⟩,⟨HL.out.hB⟩⟩
   ·intro c6b0 H;obtain rfl:=si H
    go_wp2
    go_ret
    exact ⟨_,ff,Kd.R_mono HO.out (fun _ _=>trivial),bs HB⟩
theorem laws_toPaper.calls (k:Nat) (a0_0:Int) (a0_1:ByteArray) (a0_2:ByteArray) (a0_3:Int) (A0_4:Option Addr) (c0_4:Nat) (l0_4:List ByteArray) (A0_5:Option Addr) (c0_5:Nat) (l0_5:List (S54)) (r1:Int) (r2:ByteArray) (r3:ByteArray) (r4:Int) (r5:List ByteArray) (r6:List (S63)) (w:World) (hr0_4:Kd.C Kd.string w A0_4 l0_4.length l0_4) (hc0_4:l0_4.length≤c0_4) (hr0_5:Kd.C k54 w A0_5 l0_5.length l0_5) (hc0_5:l0_5.length≤c0_5) (H:laws_toPaper.f k a0_0 a0_1 a0_2 a0_3 l0_4 l0_5=some (r1,r2,r3,r4,r5,r6)) :
  Calls Tryz.prog 6 #[.agg #[.int .i64 a0_0,.string a0_1,.string a0_2,.int .i64 a0_3,.slice A0_4 l0_4.length c0_4,.slice A0_5 l0_5.length c0_5]] w fun e w'=>∃ v4_ v5_:Value,e=.returned (.agg #[.int .i64 r1,.string r2,.string r3,.int .i64 r4,v4_,v5_])∧Kd.R Kd.string 9 w' w.heap.size (fun _=>True) v4_ r5∧Kd.R k63 63 w' w.heap.size (fun _=>True) v5_ r6∧Below w.heap.size w w':=by
 have hu25:=Tryz.underlying25;have hu31:=Tryz.underlying31;have HR0_4:=am hr0_4;have HC0_4:=am hc0_4;clear hr0_4 hc0_4;have HR0_5:=am hr0_5;have HC0_5:=am hc0_5;clear hr0_5 hc0_5;have HB:=am (Below.refl w.heap.size w);unfold laws_toPaper.f at H;replace H:=bo H;obtain ⟨t26,A2,H⟩:=H;replace H:=bo H;obtain ⟨t24,A3,H⟩:=H;replace H:=sj6 H;obtain ⟨rfl,rfl,rfl,rfl,rfl,rfl⟩:=H
 go_in
 go_wp2_with (first|((with_reducible refine gate_dst (N:=1) rfl ?_);refine bz 1 (cs:=#[.int .i64 a0_0,.string a0_1,.string a0_2,.int .i64 a0_3,.slice A0_4 l0_4.length c0_4,.slice A0_5 l0_5.length c0_5]) (t:=25) HB ?_;clear HB;intro gb20 hg w4 BK20 GW20 hb HB;clear hb hg)|((with_reducible refine gate_dst (N:=2) rfl ?_);refine bz 2 (cs:=#[.int .i64 0,.string (⟨#[]⟩:ByteArray),.string (⟨#[]⟩:ByteArray),.int .i64 0,.slice none 0 0,.slice none 0 0]) (t:=31) HB ?_;clear HB;intro gb23 hg w5 BK23 GW23 hb HB;have NB20_23:=na hg BK20;have NB23_20:=nc hg BK20;replace BK20:=bb BK20 hb;clear hb hg)|((with_reducible refine gate_dst (N:=3) rfl ?_);refine bz 3 (cs:=#[.int .i64 0,.string (⟨#[]⟩:ByteArray),.string (⟨#[]⟩:ByteArray),.int .i64 0,.slice none 0 0,.slice none 0 0]) (t:=31) HB ?_;clear HB;intro gb21 hg w6 BK21 GW21 hb HB;have NB20_21:=na hg BK20;have NB21_20:=nc hg BK20;replace BK20:=bb BK20 hb;have NB23_21:=na hg BK23;have NB21_23:=nc hg BK23;replace BK23:=bb BK23 hb;clear hb hg;have hnb7:=NB20_23.out;have hnc7:=NB23_20.out;have hnb8:=NB20_21.out;have hnc8:=NB21_20.out;have hcz9:=cf6 BK20;have hnb10:=NB21_23.out;have hnc10:=NB23_21.out;have hcz11_0:w6.cell? ⟨gb21,0,none⟩=some (.int .i64 0):=(blk_cell BK21.out 0).trans rfl;have hcz11_1:w6.cell? ⟨gb21,1,none⟩=some (.string (⟨#[]⟩:ByteArray)):=(blk_cell BK21.out 1).trans rfl;have hcz11_2:w6.cell? ⟨gb21,2,none⟩=some (.string (⟨#[]⟩:ByteArray)):=(blk_cell BK21.out 2).trans rfl;have hcz11_3:w6.cell? ⟨gb21,3,none⟩=some (.int .i64 0):=(blk_cell BK21.out 3).trans rfl;have hcz11_4:w6.cell? ⟨gb21,4,none⟩=some (.slice none 0 0):=(blk_cell BK21.out 4).trans rfl;have hcz11_5:w6.cell? ⟨gb21,5,none⟩=some (.slice none 0 0):=(blk_cell BK21.out 5).trans rfl;have hfz11_0:=blk_frozen BK21.out 0;have hfz11_1:=blk_frozen BK21.out 1;have hfz11_2:=blk_frozen BK21.out 2;have hfz11_3:=blk_frozen BK21.out 3;have hfz11_4:=blk_frozen BK21.out 4;have hfz11_5:=blk_frozen BK21.out 5)|((first|((with_reducible refine gate_callee (f:=17) rfl ?_);refine goesL_ (some 18) rfl rfl Tryz.func17 (by kernel_rfl) rfl #[.slice A0_4 l0_4.length c0_4] rfl (by (try simp only [List.map_toArray,List.map_cons,List.map_nil]);first|done|rfl|(simp only [List.length_drop,List.length_take];rfl)) ?_;(with_reducible refine (laws_toStringS.calls k _ _ l0_4 t26 _ ?side1 HC0_4.out A2.out).mono ?_);(case side1=>exact Kd.C_below HR0_4.out (bs HB));rintro e w12 ⟨v29,rfl,ho0,hb⟩;refine ⟨_,rfl,?_⟩)|(go_at_call 17;(with_reducible refine (laws_toStringS.calls k _ _ l0_4 t26 _ ?side1 HC0_4.out A2.out).mono ?_);(case side1=>exact Kd.C_below HR0_4.out (bs HB));rintro e w12 ⟨v29,rfl,ho0,hb⟩));have HO27:=am (Kd.R_lower ho0 (below_size (bs HB)));replace BK20:=bb BK20 hb;replace BK23:=bb BK23 hb;replace BK21:=am (blk_below (g:=gb21) (o:=.cells #[.int .i64 a0_0,.string a0_1,.string a0_2,.int .i64 a0_3,.slice none 0 0,.slice none 0 0] 31 (0,0)) (kp BK21) hb);replace HB:=bq HB hb;(try clear hb);(try clear hb2);(try clear hk);(try clear hi);(try clear ho0);obtain ⟨Ao13,co13,eo13⟩:=Kd.R_slice HO27.out;subst eo13;have hcz14:=cf6 BK21;have hcz15_0:w12.cell? ⟨gb20,0,none⟩=some (.int .i64 a0_0):=(blk_cell BK20.out 0).trans rfl;have hcz15_1:w12.cell? ⟨gb20,1,none⟩=some (.string a0_1):=(blk_cell BK20.out 1).trans rfl;have hcz15_2:w12.cell? ⟨gb20,2,none⟩=some (.string a0_2):=(blk_cell BK20.out 2).trans rfl;have hcz15_3:w12.cell? ⟨gb20,3,none⟩=some (.int .i64 a0_3):=(blk_cell BK20.out 3).trans rfl;have hcz15_4:w12.cell? ⟨gb20,4,none⟩=some (.slice A0_4 l0_4.length c0_4):=(blk_cell BK20.out 4).trans rfl;have hcz15_5:w12.cell? ⟨gb20,5,none⟩=some (.slice A0_5 l0_5.length c0_5):=(blk_cell BK20.out 5).trans rfl;have hfz15_0:=blk_frozen BK20.out 0;have hfz15_1:=blk_frozen BK20.out 1;have hfz15_2:=blk_frozen BK20.out 2;have hfz15_3:=blk_frozen BK20.out 3;have hfz15_4:=blk_frozen BK20.out 4;have hfz15_5:=blk_frozen BK20.out 5)|((first|((with_reducible refine gate_callee (f:=18) rfl ?_);refine goesL_ (some 22) rfl rfl Tryz.func18 (by kernel_rfl) rfl #[.slice A0_5 l0_5.length c0_5] rfl (by (try simp only [List.map_toArray,List.map_cons,List.map_nil]);first|done|rfl|(simp only [List.length_drop,List.length_take];rfl)) ?_;(with_reducible refine (laws_toLineS.calls k _ _ l0_5 t24 _ ?side1 HC0_5.out A3.out).mono ?_);(case side1=>exact Kd.C_below HR0_5.out (bs HB));rintro e w16 ⟨v30,rfl,ho0,hb⟩;refine ⟨_,rfl,?_⟩)|(go_at_call 18;(with_reducible refine (laws_toLineS.calls k _ _ l0_5 t24 _ ?side1 HC0_5.out A3.out).mono ?_);(case side1=>exact Kd.C_below HR0_5.out (bs HB));rintro e w16 ⟨v30,rfl,ho0,hb⟩));have n0_:=am (Kd.R_below (by (with_reducible repeat (first|apply Kd.R_alloc|apply Kd.R_drewN|apply Kd.R_drew));exact (Kd.R_mono (rf (Kd.R_types HO27.out BK21.out (by decide))) (fun _ h_=>h_.1))) hb);have n1_:=am (Kd.R_lower ho0 (below_size (bs HB)));have n2_:=am (blk_below (ks BK20) hb);have n3_:=am (blk_below (ks BK23) hb);have n4_:=am (blk_below (g:=gb21) (o:=.cells #[.int .i64 a0_0,.string a0_1,.string a0_2,.int .i64 a0_3,.slice Ao13 t26.length co13,.slice none 0 0] 31 (0,0)) (kp BK21) hb);have n5_:=am (below_step (bs HB) hb);clear HO27;clear BK20;clear BK23;clear BK21;clear HB;have HO27:=n0_;have HO28:=n1_;have BK20:=n2_;have BK23:=n3_;have BK21:=n4_;have HB:=n5_;clear n0_ n1_ n2_ n3_ n4_ n5_;(try clear hb);(try clear hb2);(try clear hk);(try clear hi);(try clear ho0);obtain ⟨Ao17,co17,eo17⟩:=Kd.R_slice HO28.out;subst eo17;have hcz18:=cf6 BK21;have hcz19:=cf6 BK23))
 refine bodyPost_ret (results_cell_row rfl _ _ gb23 31 #[.int .i64 a0_0,.string a0_1,.string a0_2,.int .i64 a0_3,.slice Ao13 t26.length co13,.slice Ao17 t24.length co17] (0,0) _ rfl (kp BK23) Tryz.underlying31 rfl (by kernel_rfl)) rfl ?_
 exact ⟨_,_,ff,by (with_reducible repeat (first|apply Kd.R_alloc|apply Kd.R_drewN|apply Kd.R_drew));exact Kd.R_mono (Kd.R_far (p:=⟨gb23,5,none⟩) (Kd.R_far (p:=⟨gb23,4,none⟩) (Kd.R_far (p:=⟨gb23,3,none⟩) (Kd.R_far (p:=⟨gb23,2,none⟩) (Kd.R_far (p:=⟨gb23,1,none⟩) (Kd.R_far (p:=⟨gb23,0,none⟩) (Kd.R_far (p:=⟨gb21,5,none⟩) (Kd.R_types (Kd.R_types HO27.out BK21.out (by decide)) BK23.out (by decide)) (fun _ hk=>hk.1.2) (.slice Ao17 t24.length co17)) (fun _ hk=>hk.2) (.int .i64 a0_0)) (fun _ hk=>hk.2) (.string a0_1)) (fun _ hk=>hk.2) (.string a0_2)) (fun _ hk=>hk.2) (.int .i64 a0_3)) (fun _ hk=>hk.2) (.slice Ao13 t26.length co13)) (fun _ hk=>hk.2) (.slice Ao17 t24.length co17)) (fun _ hk=>trivial),by (with_reducible repeat (first|apply Kd.R_alloc|apply Kd.R_drewN|apply Kd.R_drew));exact Kd.R_mono (Kd.R_far (p:=⟨gb23,5,none⟩) (Kd.R_far (p:=⟨gb23,4,none⟩) (Kd.R_far (p:=⟨gb23,3,none⟩) (Kd.R_far (p:=⟨gb23,2,none⟩) (Kd.R_far (p:=⟨gb23,1,none⟩) (Kd.R_far (p:=⟨gb23,0,none⟩) (Kd.R_far (p:=⟨gb21,5,none⟩) (Kd.R_types (Kd.R_types HO28.out BK21.out (by decide)) BK23.out (by decide)) (fun _ hk=>hk.1.2) (.slice Ao17 t24.length co17)) (fun _ hk=>hk.2) (.int .i64 a0_0)) (fun _ hk=>hk.2) (.string a0_1)) (fun _ hk=>hk.2) (.string a0_2)) (fun _ hk=>hk.2) (.int .i64 a0_3)) (fun _ hk=>hk.2) (.slice Ao13 t26.length co13)) (fun _ hk=>hk.2) (.slice Ao17 t24.length co17)) (fun _ hk=>trivial),bs HB⟩
theorem spec_l01Dec.calls (k:Nat) (a0:Int) (r:ByteArray) (w:World) (H:spec_l01Dec.f k a0=some r) :
  Calls Tryz.prog 33 #[.int .i64 a0] w fun e w'=>e=.returned (.string r)∧Below w.heap.size w w':=by
 have HB:=am (Below.refl w.heap.size w);unfold spec_l01Dec.f at H
 revert H;refine ie2 ?_ ?_
 ·intro c2b0 c2b1 H;obtain rfl:=si H
  go_in
  go_wp2
  go_ret
  exact ⟨ff,bs HB⟩
 ·intro c2 c2b0 c2b1 H;have H':=am H;clear H
  go_in
  go_wp2
  go_loopg [0,4] k (fun kq v0 v4 w'=>∃ (x0_1:Int) (x4_1:ByteArray),v0=.int .i64 x0_1∧v4=.string x4_1∧Aside0 (spec_l01Dec.l0 kq x0_1 (decide (a0<0)) x4_1=some r)∧Aside0 (kq≤k)∧Aside0 (Below w.heap.size w w'))
  case atStart=>exact ⟨(a0),((⟨#[]⟩:ByteArray)),fg,fg,H',⟨Nat.le_refl _⟩,⟨bs HB⟩⟩
  case round =>
   clear H'
   try clear c2
   try clear c2b0
   try clear c2b1
   obtain ⟨x0_1,x4_1,rfl,rfl,HA,HK1,HB⟩:=hrel
   cases gk with
   | zero=>exact absurd HA.out (by simp [spec_l01Dec.l0])
   | succ k1 =>
    have H:=HA.out;clear HA;simp only [spec_l01Dec.l0] at H
    revert H;refine ie2 ?_ ?_
    ·intro c3b0 c3b1 H
     revert H;refine ip2 ?_ ?_
     ·intro c4 H;have c4b0:(decide (a0<0))=true:=c4
      (first|rw [c4b0]|skip)
      clear c4
      revert H;refine ip1 ?_
      intro c5 H;have c5b0:=eq_true c5;have c5b1:decide (1+x4_1.size≤9223372036854775807)=true:=decide_eq_true c5
      try have c5b2:(9223372036854775807<1+x4_1.size)=False:=eq_false (Nat.not_lt.2 c5)
      obtain rfl:=si H
      go_wp2
      go_ret
      exact ⟨ff,bs HB⟩
     ·intro c4 H
      have c4b0:(decide (a0<0))=false:=by simpa using c4
      (first|rw [c4b0]|skip)
      clear c4;obtain rfl:=si H
      go_wp2
      go_ret
      exact ⟨ff,bs HB⟩
    ·intro c3 c3b0 c3b1 H
     revert H;refine id2 ?_ ?_
     ·intro c6b0 H;obtain ⟨y15,hy15⟩:∃ y_:List Int,y_=(([(wrap64 (48+(wrap64 (-(Int.tmod x0_1 10))))) % 256]:List Int)):=⟨_,rfl⟩
      replace H:(if (strOfNums y15).size+x4_1.size≤9223372036854775807 then (spec_l01Dec.l0 k1 (wrap64 (Int.tdiv x0_1 10)) (decide (a0<0)) ((strOfNums y15)++x4_1)) else (none))=some r:=ye hy15 H
      have Ny15:=am hy15;clear hy15
      revert H;refine ip1 ?_
      intro c7 H;have c7b0:=eq_true c7;have c7b1:decide ((strOfNums y15).size+x4_1.size≤9223372036854775807)=true:=decide_eq_true c7
      try have c7b2:(9223372036854775807<(strOfNums y15).size+x4_1.size)=False:=eq_false (Nat.not_lt.2 c7)
      have H':=am H;clear H
      go_wp2_with (first|((with_reducible refine gate_dst (N:=21) rfl ?_);refine rl (Kd.int .u8) 5 (N:=21) (xs:=([(wrap64 (48+(wrap64 (-(Int.tmod x0_1 10))))) % 256]:List Int)) (inner:=[.int .u8 ((wrap64 (48+(wrap64 (-(Int.tmod x0_1 10))))) % 256)]) ?hp ?_;(case hp=>exact (Reps.one (show Kd.M (Kd.int .u8) _ _ _ ((wrap64 (48+(wrap64 (-(Int.tmod x0_1 10))))) % 256) [.int .u8 ((wrap64 (48+(wrap64 (-(Int.tmod x0_1 10))))) % 256)] from rfl) (Reps.none _ _)));intro v19 w8 ho9 hb hg_ hnew_;clear hg_ hnew_;(first|rw [← Ny15.out] at ho9|(simp only [Int.reduceToNat] at ho9;rw [← Ny15.out] at ho9));have HO17:=am (Kd.R_lower ho9 (below_size (bs HB)));replace HB:=bq HB hb;clear hb ho9;have hcv10:=own_string (P:=Tryz.prog) Tryz.underlying75 Tryz.underlying5 Tryz.underlying9 (Kd.own_of_R HO17.out)))
      go_roundg k1
      case measure=>have:=HK1.out;omega
      case rel=>exact ⟨(wrap64 (Int.tdiv x0_1 10)),((strOfNums y15)++x4_1),fg,fg,H',⟨by have:=HK1.out;omega⟩,⟨bs HB⟩⟩
     ·intro c6b0 H;obtain ⟨y16,hy16⟩:∃ y_:List Int,y_=(([(wrap64 (48+(Int.tmod x0_1 10))) % 256]:List Int)):=⟨_,rfl⟩
      replace H:(if (strOfNums y16).size+x4_1.size≤9223372036854775807 then (spec_l01Dec.l0 k1 (wrap64 (Int.tdiv x0_1 10)) (decide (a0<0)) ((strOfNums y16)++x4_1)) else (none))=some r:=ye hy16 H
      have Ny16:=am hy16;clear hy16
      revert H;refine ip2 ?_ ?_
      ·intro c11 H;have c11b0:=eq_true c11;have c11b1:decide ((strOfNums y16).size+x4_1.size≤9223372036854775807)=true:=decide_eq_true c11
       try have c11b2:(9223372036854775807<(strOfNums y16).size+x4_1.size)=False:=eq_false (Nat.not_lt.2 c11)
       have H':=am H;clear H
       go_wp2_with (first|((with_reducible refine gate_dst (N:=21) rfl ?_);refine rl (Kd.int .u8) 5 (N:=21) (xs:=([(wrap64 (48+(Int.tmod x0_1 10))) % 256]:List Int)) (inner:=[.int .u8 ((wrap64 (48+(Int.tmod x0_1 10))) % 256)]) ?hp ?_;(case hp=>exact (Reps.one (show Kd.M (Kd.int .u8) _ _ _ ((wrap64 (48+(Int.tmod x0_1 10))) % 256) [.int .u8 ((wrap64 (48+(Int.tmod x0_1 10))) % 256)] from rfl) (Reps.none _ _)));intro v20 w12 ho13 hb hg_ hnew_;clear hg_ hnew_;(first|rw [← Ny16.out] at ho13|(simp only [Int.reduceToNat] at ho13;rw [← Ny16.out] at ho13));have HO18:=am (Kd.R_lower ho13 (below_size (bs HB)));replace HB:=bq HB hb;clear hb ho13;have hcv14:=own_string (P:=Tryz.prog) Tryz.underlying75 Tryz.underlying5 Tryz.underlying9 (Kd.own_of_R HO18.out)))
       go_roundg k1
       case measure=>have:=HK1.out;omega
       case rel=>exact ⟨(wrap64 (Int.tdiv x0_1 10)),((strOfNums y16)++x4_1),fg,fg,H',⟨by have:=HK1.out;omega⟩,⟨bs HB⟩⟩
      ·intro c11 H
       exact absurd H (by simp)
theorem spec_l05Has.calls (a0:Int) (r:Bool) (w:World) (H:spec_l05Has.f a0=some r) :
  Calls Tryz.prog 34 #[.int .i64 a0] w fun e w'=>e=.returned (.bool r)∧Drawn0 w w':=by
 unfold spec_l05Has.f at H
 revert H;refine ie2 ?_ ?_
 ·intro c2b0 c2b1 H;obtain rfl:=si H
  go_in
  go_wp2
  go_ret
  exact ⟨fg,dr⟩
 ·intro c2 c2b0 c2b1 H
  revert H;refine ie2 ?_ ?_
  ·intro c3b0 c3b1 H;obtain rfl:=si H
   go_in
   go_wp2
   go_ret
   exact ⟨fg,dr⟩
  ·intro c3 c3b0 c3b1 H;obtain rfl:=si H
   go_in
   go_wp2
   go_ret
   exact ⟨fg,dr⟩
end Go.Proofs.YtaememmnhmebcaaGreatDoor.QB
