import Derived.Test.YtapilmimgiaglaaGreatDoorKFnExactParcelIx4
set_option linter.unusedSimpArgs false
set_option linter.unusedVariables false
namespace Go.Proofs.YtapilmimgiaglaaGreatDoor.QX
open Go.RowKit Go.Proofs.bB.eH Go.Proofs.bB.PrintLast Go.Proofs.bB.PrintMore
attribute [local go_sem] oU o5 oZ o8 oW o7 oV o6
def wP.l0:Nat→List ByteArray→Int→Int→Option Int
 | 0,_,_,_=>none
 | k+1,x0,x1,x5=>if x5<(x0.length:Int) then (if 0≤x5 then (if (wrap64 (x1 - ((bA ByteArray.empty x0 x5).size:Int)))<0 then (some (-1)) else (wP.l0 k x0 (wrap64 (x1 - ((bA ByteArray.empty x0 x5).size:Int))) (wrap64 (x5+1)))) else none) else (some x1)
def wP.f (k:Nat)(l0:List ByteArray)(a1:Int):Option Int:=if (wrap64 (a1 - (l0.length:Int)))<0 then (some (-1)) else (wP.l0 k l0 (wrap64 (a1 - (l0.length:Int))) 0)
def LB.f (ag:Int)(aj:ByteArray)(ak aM:Int)(oh:ByteArray)(a1:Int):Option Int:=if (wrap64 (a1 - (aj.size:Int)))<0 then (some (-1)) else (if (wrap64 ((wrap64 (a1 - (aj.size:Int))) - (oh.size:Int)))<0 then (some (-1)) else (some (wrap64 ((wrap64 (a1 - (aj.size:Int))) - (oh.size:Int)))))
def wN.l0:Nat→List mJ→Int→Int→Option Int
 | 0,_,_,_=>none
 | k+1,x0,x1,x5=>if x5<(x0.length:Int) then (if 0≤x5 then ((LB.f ((nH x0 x5).f0) ((nH x0 x5).f1) ((nH x0 x5).f2) ((nH x0 x5).f3) ((nH x0 x5).f4) x1).bind fun an0=>(if an0<0 then (some (-1)) else (wN.l0 k x0 an0 (wrap64 (x5+1))))) else none) else (some x1)
def wN.f (k:Nat)(l0:List mJ)(a1:Int):Option Int:=if (wrap64 (a1 - (l0.length:Int)))<0 then (some (-1)) else (wN.l0 k l0 (wrap64 (a1 - (l0.length:Int))) 0)
def II.f (k:Nat)(ag:Int)(aj ak:ByteArray)(aM:Int)(az:List ByteArray)(ah:List mJ)(a1:Int):Option Int:=if (wrap64 (a1 - (aj.size:Int)))<0 then (some (-1)) else (if (wrap64 ((wrap64 (a1 - (aj.size:Int))) - (ak.size:Int)))<0 then (some (-1)) else ((wP.f k az (wrap64 ((wrap64 (a1 - (aj.size:Int))) - (ak.size:Int)))).bind fun an1=>(if an1<0 then (some (-1)) else ((wN.f k ah an1).bind fun t107=>(if t107<0 then (some (-1)) else (some t107))))))
def wO.l0:Nat→List mK→Int→Int→Option Int
 | 0,_,_,_=>none
 | k+1,x0,x1,x5=>if x5<(x0.length:Int) then (if 0≤x5 then ((II.f k ((jW x0 x5).f0) ((jW x0 x5).f1) ((jW x0 x5).f2) ((jW x0 x5).f3) ((jW x0 x5).f4) ((jW x0 x5).f5) x1).bind fun t109=>(if t109<0 then (some (-1)) else (wO.l0 k x0 t109 (wrap64 (x5+1))))) else none) else (some x1)
def wO.f (k:Nat)(l0:List mK)(a1:Int):Option Int:=if (wrap64 (a1 - (l0.length:Int)))<0 then (some (-1)) else (wO.l0 k l0 (wrap64 (a1 - (l0.length:Int))) 0)
def LD.f (k:Nat)(ag aj:ByteArray)(ak:Int)(au:List mK)(a1:Int):Option Int:=if (wrap64 (a1 - (ag.size:Int)))<0 then (some (-1)) else (if (wrap64 ((wrap64 (a1 - (ag.size:Int))) - (aj.size:Int)))<0 then (some (-1)) else ((wO.f k au (wrap64 ((wrap64 (a1 - (ag.size:Int))) - (aj.size:Int)))).bind fun an2=>(if an2<0 then (some (-1)) else (some an2))))
def uL.l0:Nat→List ByteArray→List ByteArray→Int→Option (List ByteArray)
 | 0,_,_,_=>none
 | k+1,x0,x3,x4=>if x4<(x0.length:Int) then (if 0≤x4 then (if x4<(x3.length:Int) then (uL.l0 k x0 (x3.set (x4:Int).toNat (bA ByteArray.empty x0 x4)) (wrap64 (x4+1))) else none) else none) else (some x3)
def uL.f (k:Nat)(l0:List ByteArray):Option (List ByteArray):=if 0≤(l0.length:Int) then (if ((l0.length:Int):Int).toNat≤17592186044416 then (uL.l0 k l0 (List.replicate ((l0.length:Int):Int).toNat (⟨#[]⟩:ByteArray)) 0) else none) else none
def Py.f (ag:Int)(aj:ByteArray)(ak aM:Int)(oh:ByteArray):Option (Int × ByteArray × Int × Int × ByteArray):=some (ag,aj,ak,aM,oh)
def wQ.l0:Nat→List mJ→List aZ→Int→Option (List aZ)
 | 0,_,_,_=>none
 | k+1,x0,x3,x4=>if x4<(x0.length:Int) then (if 0≤x4 then ((Py.f ((nH x0 x4).f0) ((nH x0 x4).f1) ((nH x0 x4).f2) ((nH x0 x4).f3) ((nH x0 x4).f4)).bind fun bt=>(if x4<(x3.length:Int) then (wQ.l0 k x0 (x3.set (x4:Int).toNat (⟨bt.1,bt.2.1,bt.2.2.1,bt.2.2.2.1,bt.2.2.2.2⟩:aZ)) (wrap64 (x4+1))) else none)) else none) else (some x3)
def wQ.f (k:Nat)(l0:List mJ):Option (List aZ):=if 0≤(l0.length:Int) then (if ((l0.length:Int):Int).toNat≤5026338869833 then (wQ.l0 k l0 (List.replicate ((l0.length:Int):Int).toNat Eh) 0) else none) else none
def LG.f (k:Nat)(ag:Int)(aj ak:ByteArray)(aM:Int)(az:List ByteArray)(ah:List mJ):Option (Int × ByteArray × ByteArray × Int × List ByteArray × (List aZ)):=(uL.f k az).bind fun aAc=>((wQ.f k ah).bind fun aAd=>(some (ag,aj,ak,aM,aAc,aAd)))
def uK.l0:Nat→List mK→List eT→Int→Option ((List eT))
 | 0,_,_,_=>none
 | k+1,x0,x3,x4=>if x4<(x0.length:Int) then (if 0≤x4 then ((LG.f k ((jW x0 x4).f0) ((jW x0 x4).f1) ((jW x0 x4).f2) ((jW x0 x4).f3) ((jW x0 x4).f4) ((jW x0 x4).f5)).bind fun NW=>(if x4<(x3.length:Int) then (uK.l0 k x0 (x3.set (x4:Int).toNat (⟨NW.1,NW.2.1,NW.2.2.1,NW.2.2.2.1,NW.2.2.2.2.1,NW.2.2.2.2.2⟩:eT)) (wrap64 (x4+1))) else none)) else none) else (some x3)
def uK.f (k:Nat)(l0:List mK):Option ((List eT)):=if 0≤(l0.length:Int) then (if ((l0.length:Int):Int).toNat≤2932031007402 then (uK.l0 k l0 (List.replicate ((l0.length:Int):Int).toNat z45) 0) else none) else none
def zF.f (k:Nat)(ag aj:ByteArray)(ak:Int)(au:List mK):Option (ByteArray × ByteArray × Int × (List eT)):=(uK.f k au).bind fun agw=>(some (ag,aj,ak,agw))
def fK.l0:Nat→Int→Bool→ByteArray→Option ByteArray
 | 0,_,_,_=>none
 | k+1,x0,x3,x4=>if x0=0 then (if x3=true then (if 1+x4.size≤9223372036854775807 then (some ((⟨#[45]⟩:ByteArray)++x4)) else none) else (some x4)) else (if (Int.tmod x0 10)<0 then ((some (([(wrap64 (48+(wrap64 (-(Int.tmod x0 10))))) % 256]:List Int):List Int)).bind fun y150=>(if (strOfNums y150).size+x4.size≤9223372036854775807 then (fK.l0 k (wrap64 (Int.tdiv x0 10)) x3 ((strOfNums y150)++x4)) else none)) else ((some (([(wrap64 (48+(Int.tmod x0 10))) % 256]:List Int):List Int)).bind fun y153=>(if (strOfNums y153).size+x4.size≤9223372036854775807 then (fK.l0 k (wrap64 (Int.tdiv x0 10)) x3 ((strOfNums y153)++x4)) else none)))
def fK.f (k:Nat)(a0:Int):Option ByteArray:=if a0=0 then (some (⟨#[48]⟩:ByteArray)) else (fK.l0 k a0 (decide (a0<0)) (⟨#[]⟩:ByteArray))
def DX.f (a0:Int):Option Bool:=if a0=2 then (some true) else (if a0=3 then (some true) else (some (a0 == 4)))
def ib.l0:Nat→List ByteArray→Int→ByteArray→List bN→Option (ByteArray × (List bN))
 | 0,_,_,_,_=>none
 | k+1,x1,x6,aoq,agP=>if x6<(x1.length:Int) then (if 0≤x6 then (if agP.length<5864062014805 then (ib.l0 k x1 (wrap64 (x6+1)) aoq (agP++[(⟨(([bA ByteArray.empty x1 x6]:List ByteArray))⟩:bN)])) else none) else none) else (some (aoq,agP))
def ib.f (k:Nat)(a0:ByteArray)(l1:List ByteArray):Option (ByteArray × (List bN)):=ib.l0 k l1 0 a0 ([]:List bN)
mutual
def fq.j0:Nat→Int→List ByteArray→Int→ByteArray→Int→Int→ByteArray→Option (ByteArray × (List bN))
 | 0,_,_,_,_,_,_,_=>none
 | k+1,x0,x5,aM4,aM5,aM6,aM7,aor=>if aor.toList=([]:List UInt8) then (fq.j1 k x0 x5) else (if x5.length<8796093022208 then (fq.j1 k x0 (x5++[aor])) else none)
def fq.j1:Nat→Int→List ByteArray→Option (ByteArray × (List bN))
 | 0,_,_=>none
 | k+1,x0,x5=>if x0=6 then ((ib.f k (⟨#[73,84,77]⟩:ByteArray) x5).bind fun ajs=>(some (ajs.1,ajs.2))) else ((ib.f k (⟨#[76,73,78]⟩:ByteArray) x5).bind fun ajt=>(some (ajt.1,ajt.2)))
end
def fq.f (k:Nat)(a0 aI:Int)(bX:ByteArray)(dA eU:Int)(ru:ByteArray):Option (ByteArray × (List bN)):=if a0=1 then ((fK.f k aI).bind fun xM=>((fK.f k dA).bind fun t171=>((some (([xM,bX,t171]:List ByteArray):List ByteArray)).bind fun yO=>(if eU=0 then ((ib.f k (⟨#[76,73,78]⟩:ByteArray) yO).bind fun GY=>(some (GY.1,GY.2))) else ((fK.f k eU).bind fun DY=>(if yO.length<8796093022208 then ((ib.f k (⟨#[76,73,78]⟩:ByteArray) (yO++[DY])).bind fun BB=>(some (BB.1,BB.2))) else none)))))) else (if a0=5 then ((fK.f k dA).bind fun DZ=>((ib.f k (⟨#[73,84,77]⟩:ByteArray) (([bX,DZ]:List ByteArray))).bind fun GZ=>(some (GZ.1,GZ.2)))) else (if a0=7 then ((fK.f k aI).bind fun xN=>((fK.f k dA).bind fun t196=>((some (([xN,t196]:List ByteArray):List ByteArray)).bind fun yP=>(if eU=0 then ((ib.f k (⟨#[65,67,75]⟩:ByteArray) yP).bind fun G5=>(some (G5.1,G5.2))) else ((fK.f k eU).bind fun D5=>(if yP.length<8796093022208 then ((ib.f k (⟨#[65,67,75]⟩:ByteArray) (yP++[D5])).bind fun BC=>(some (BC.1,BC.2))) else none)))))) else (if a0=6 then ((fK.f k dA).bind fun t212=>(fq.j0 k a0 (([bX,t212]:List ByteArray)) aI bX dA eU ru)) else ((fK.f k aI).bind fun D6=>((fK.f k dA).bind fun D7=>(fq.j0 k a0 (([D6,D7]:List ByteArray)) aI bX dA eU ru))))))
mutual
def fQ.j0:Nat→List ByteArray→Int→ByteArray→ByteArray→Int→List ByteArray→List aZ→Option ((List bn))
 | 0,_,_,_,_,_,_,_=>none
 | k+1,x3,MU,Qp,Qq,Qr,Ji,AX=>(ib.f k (⟨#[68,79,67]⟩:ByteArray) x3).bind fun aju=>(fQ.l0 k (([(⟨aju.1,aju.2⟩:bn)]:List bn)) 0 MU Qp Qq Qr Ji AX)
def fQ.l0:Nat→List bn→Int→Int→ByteArray→ByteArray→Int→List ByteArray→List aZ→Option ((List bn))
 | 0,_,_,_,_,_,_,_,_=>none
 | k+1,x4,x5,MU,Qp,Qq,Qr,Ji,AX=>if x5<(Ji.length:Int) then (if 0≤x5 then ((ib.f k (⟨#[78,79,84]⟩:ByteArray) (([bA ByteArray.empty Ji x5]:List ByteArray))).bind fun R7=>(if x4.length<3518437208883 then (fQ.l0 k (x4++[(⟨R7.1,R7.2⟩:bn)]) (wrap64 (x5+1)) MU Qp Qq Qr Ji AX) else none)) else none) else (fQ.l1 k x4 0 MU Qp Qq Qr Ji AX)
def fQ.l1:Nat→List bn→Int→Int→ByteArray→ByteArray→Int→List ByteArray→List aZ→Option ((List bn))
 | 0,_,_,_,_,_,_,_,_=>none
 | k+1,x4,x6,MU,Qp,Qq,Qr,Ji,AX=>if x6<(AX.length:Int) then (if 0≤x6 then ((fq.f k MU ((ai AX x6).f0) ((ai AX x6).f1) ((ai AX x6).f2) ((ai AX x6).f3) ((ai AX x6).f4)).bind fun ajv=>(if x4.length<3518437208883 then (fQ.l1 k (x4++[(⟨ajv.1,ajv.2⟩:bn)]) (wrap64 (x6+1)) MU Qp Qq Qr Ji AX) else none)) else none) else (some x4)
end
def fQ.f (k:Nat)(ag:Int)(aj ak:ByteArray)(aM:Int)(az:List ByteArray)(ah:List aZ):Option ((List bn)):=(fK.f k aM).bind fun t233=>((DX.f ag).bind fun PY=>(if PY=true then ((fK.f k aM).bind fun D8=>(fQ.j0 k (([aj,ak,D8]:List ByteArray)) ag aj ak aM az ah)) else (fQ.j0 k (([aj,t233]:List ByteArray)) ag aj ak aM az ah)))
def wV.l0:Nat→ByteArray→Int→Option Bool
 | 0,_,_=>none
 | k+1,x0,x3=>if x3<3 then (if 0≤x3 then (if x3<(x0.size:Int) then (if (bt x0 x3)<65 then (some false) else (if (bt x0 x3)>90 then (some false) else (wV.l0 k x0 (wrap64 (x3+1))))) else none) else none) else (some true)
def wV.f (k:Nat)(a0:ByteArray):Option Bool:=if (a0.size:Int)=3 then (wV.l0 k a0 0) else (some false)
def ui.l0:Nat→ByteArray→Int→Option Bool
 | 0,_,_=>none
 | k+1,x0,x3=>if x3<(x0.size:Int) then (if 0≤x3 then (if (bt x0 x3)<32 then (some false) else (if (bt x0 x3)>126 then (some false) else (ui.l0 k x0 (wrap64 (x3+1))))) else none) else (some true)
def ui.f (k:Nat)(a0:ByteArray):Option Bool:=if (a0.size:Int)>40 then (some false) else (ui.l0 k a0 0)
def Mc.f (pY:List ByteArray):Option Bool:=if (pY.length:Int)=1 then (if 0<(pY.length:Int) then (some ((bA ByteArray.empty pY 0).toList == ([]:List UInt8))) else none) else (some false)
mutual
def iZ.j0:Nat→Bool→ByteArray→List bN→Option Bool
 | 0,_,_,_=>none
 | k+1,x15,CP,mH=>if x15=true then (some false) else (iZ.l0 k 0 CP mH)
def iZ.l0:Nat→Int→ByteArray→List bN→Option Bool
 | 0,_,_,_=>none
 | k+1,x3,CP,mH=>if x3<(mH.length:Int) then (if 0≤x3 then (if (((aK mH x3).f0).length:Int)<1 then (iZ.j2 k x3 ((aK mH x3).f0) true CP mH) else (if (((aK mH x3).f0).length:Int)>4 then (iZ.j2 k x3 ((aK mH x3).f0) true CP mH) else (if (((aK mH x3).f0).length:Int)>1 then (if 0≤(wrap64 ((((aK mH x3).f0).length:Int) - 1)) then (if (wrap64 ((((aK mH x3).f0).length:Int) - 1))<(((aK mH x3).f0).length:Int) then (iZ.j2 k x3 ((aK mH x3).f0) ((bA ByteArray.empty ((aK mH x3).f0) (wrap64 ((((aK mH x3).f0).length:Int) - 1))).toList == ([]:List UInt8)) CP mH) else none) else none) else (iZ.j2 k x3 ((aK mH x3).f0) false CP mH)))) else none) else (if (mH.length:Int)=0 then (some true) else (if 0≤(wrap64 ((mH.length:Int) - 1)) then (if (wrap64 ((mH.length:Int) - 1))<(mH.length:Int) then ((Mc.f ((aK mH (wrap64 ((mH.length:Int) - 1))).f0)).bind fun aAg=>(some (!aAg))) else none) else none))
def iZ.j2:Nat→Int→List ByteArray→Bool→ByteArray→List bN→Option Bool
 | 0,_,_,_,_,_=>none
 | k+1,x3,x4,x50,CP,mH=>if x50=true then (some false) else (iZ.l1 k x3 x4 0 CP mH)
def iZ.l1:Nat→Int→List ByteArray→Int→ByteArray→List bN→Option Bool
 | 0,_,_,_,_,_=>none
 | k+1,x3,x4,x5,CP,mH=>if x5<(x4.length:Int) then (if 0≤x5 then ((ui.f k (bA ByteArray.empty x4 x5)).bind fun aAh=>(if aAh=true then (iZ.l1 k x3 x4 (wrap64 (x5+1)) CP mH) else (some false))) else none) else (iZ.l0 k (wrap64 (x3+1)) CP mH)
end
def iZ.f (k:Nat)(ag:ByteArray)(aN:List bN):Option Bool:=(wV.f k ag).bind fun aAf=>(if aAf=true then (iZ.j0 k (decide ((aN.length:Int)>10)) ag aN) else (iZ.j0 k true ag aN))
def vL.j0:Nat→Int→Bool→ByteArray→Int→Int→ByteArray→ByteArray→Int→Int→ByteArray→ByteArray→Int→Int→ByteArray→Option ((List aH))
 | 0,_,_,_,_,_,_,_,_,_,_,_,_,_,_=>none
 | k+1,x9,Qi,agQ,agR,agS,agT,aow,aox,aoy,aoz,aCJ,aCK,aCL,aCM=>if Qi=true then (some (([(⟨aow,aox,aoy,aoz⟩:aH),(⟨(⟨#[76,73,78]⟩:ByteArray),1,20,(⟨#[110,113,63,116]⟩:ByteArray)⟩:aH)]:List aH))) else (if x9=3 then (some (([(⟨aow,aox,aoy,aoz⟩:aH),(⟨aCJ,aCK,aCL,aCM⟩:aH),(⟨(⟨#[76,73,78]⟩:ByteArray),1,20,(⟨#[110,113]⟩:ByteArray)⟩:aH)]:List aH))) else (if x9=5 then (some (([(⟨agQ,agR,agS,agT⟩:aH),(⟨(⟨#[73,84,77]⟩:ByteArray),1,20,(⟨#[114,110]⟩:ByteArray)⟩:aH)]:List aH))) else (if x9=6 then (some (([(⟨agQ,agR,agS,agT⟩:aH),(⟨(⟨#[73,84,77]⟩:ByteArray),1,20,(⟨#[114,122,63,116]⟩:ByteArray)⟩:aH)]:List aH))) else (if x9=7 then (some (([(⟨agQ,agR,agS,agT⟩:aH),(⟨(⟨#[65,67,75]⟩:ByteArray),1,1,(⟨#[110,110,63,110]⟩:ByteArray)⟩:aH)]:List aH))) else (some (([]:List aH)))))))
def vL.f (k:Nat)(a0:Int):Option ((List aH)):=if a0=1 then (some (([(⟨(⟨#[68,79,67]⟩:ByteArray),1,1,(⟨#[114,100]⟩:ByteArray)⟩:aH),(⟨(⟨#[78,79,84]⟩:ByteArray),0,2,(⟨#[116]⟩:ByteArray)⟩:aH),(⟨(⟨#[76,73,78]⟩:ByteArray),1,20,(⟨#[110,114,113,63,110]⟩:ByteArray)⟩:aH)]:List aH))) else (if a0=2 then (vL.j0 k a0 (a0 == 2) (⟨#[68,79,67]⟩:ByteArray) 1 1 (⟨#[114,100]⟩:ByteArray) (⟨#[68,79,67]⟩:ByteArray) 1 1 (⟨#[114,114,100]⟩:ByteArray) (⟨#[78,79,84]⟩:ByteArray) 0 2 (⟨#[116]⟩:ByteArray)) else (vL.j0 k a0 (a0 == 4) (⟨#[68,79,67]⟩:ByteArray) 1 1 (⟨#[114,100]⟩:ByteArray) (⟨#[68,79,67]⟩:ByteArray) 1 1 (⟨#[114,114,100]⟩:ByteArray) (⟨#[78,79,84]⟩:ByteArray) 0 2 (⟨#[116]⟩:ByteArray)))
mutual
def il.j0:Nat→ByteArray→Bool→Option (Int × Bool)
 | 0,_,_=>none
 | k+1,x0,x4=>if x4=true then (if 1≤(x0.size:Int) then (il.j1 k x0 x4 (x0.extract 1 x0.size)) else none) else (il.j1 k x0 x4 x0)
def il.j1:Nat→ByteArray→Bool→ByteArray→Option (Int × Bool)
 | 0,_,_,_=>none
 | k+1,x0,x4,x5=>if (x5.size:Int)<1 then (il.j2 k x0 x4 x5 true) else (il.j2 k x0 x4 x5 (decide ((x5.size:Int)>12)))
def il.j2:Nat→ByteArray→Bool→ByteArray→Bool→Option (Int × Bool)
 | 0,_,_,_,_=>none
 | k+1,x0,x4,x5,x27=>if x27=true then (some (0,false)) else (il.l0 k x0 x4 x5 0 0)
def il.l0:Nat→ByteArray→Bool→ByteArray→Int→Int→Option (Int × Bool)
 | 0,_,_,_,_,_=>none
 | k+1,x0,x4,x5,x6,x7=>if x7<(x5.size:Int) then (if 0≤x7 then (if (bt x5 x7)<48 then (some (0,false)) else (if (bt x5 x7)>57 then (some (0,false)) else (il.l0 k x0 x4 x5 (wrap64 ((wrap64 (10 * x6))+(((bt x5 x7) - 48) % 256))) (wrap64 (x7+1))))) else none) else (if x4=true then ((fK.f k (wrap64 (-x6))).bind fun aAi=>(some (wrap64 (-x6),(aAi.toList == x0.toList)))) else ((fK.f k x6).bind fun aAj=>(some (x6,(aAj.toList == x0.toList)))))
end
def il.f (k:Nat)(a0:ByteArray):Option (Int × Bool):=if (a0.size:Int)>0 then (if 0<(a0.size:Int) then (il.j0 k a0 ((bt a0 0) == 45)) else none) else (il.j0 k a0 false)
mutual
def jQ.j0:Nat→ByteArray→Bool→Option Bool
 | 0,_,_=>none
 | k+1,x0,yL=>if yL=true then (some false) else (jQ.l0 k x0 0)
def jQ.l0:Nat→ByteArray→Int→Option Bool
 | 0,_,_=>none
 | k+1,x0,x3=>if x3<(x0.size:Int) then (if 0≤x3 then (if (bt x0 x3)≥65 then (if (bt x0 x3)≤90 then (jQ.l0 k x0 (wrap64 (x3+1))) else (if (bt x0 x3)≥48 then (if (bt x0 x3)≤57 then (jQ.l0 k x0 (wrap64 (x3+1))) else (if ((bt x0 x3)=45) then (jQ.l0 k x0 (wrap64 (x3+1))) else (some false))) else (if ((bt x0 x3)=45) then (jQ.l0 k x0 (wrap64 (x3+1))) else (some false)))) else (if (bt x0 x3)≥48 then (if (bt x0 x3)≤57 then (jQ.l0 k x0 (wrap64 (x3+1))) else (if ((bt x0 x3)=45) then (jQ.l0 k x0 (wrap64 (x3+1))) else (some false))) else (if ((bt x0 x3)=45) then (jQ.l0 k x0 (wrap64 (x3+1))) else (some false)))) else none) else (some true)
end
def jQ.f (k:Nat)(a0:ByteArray):Option Bool:=if (a0.size:Int)<1 then (jQ.j0 k a0 true) else (if (a0.size:Int)>12 then (jQ.j0 k a0 true) else (if 0<(a0.size:Int) then (if (bt a0 0)<65 then (jQ.j0 k a0 true) else (jQ.j0 k a0 (decide ((bt a0 0)>90)))) else none))
def I4.f (a0:Int):Option Bool:=if a0≥1 then (some (decide (a0≤1000000))) else (some false)
def I1.f (a0:Int):Option Bool:=if a0≥0 then (some (decide (a0≤100000))) else (some false)
def AP.f (k:Nat)(a0:Int)(mE:List ByteArray):Option Bool:=if (mE.length:Int)=1 then (if 0<(mE.length:Int) then ((il.f k (bA ByteArray.empty mE 0)).bind fun BD=>(if a0=114 then ((jQ.f k (bA ByteArray.empty mE 0)).bind fun aAk=>(some aAk)) else (if a0=110 then (if BD.2=true then (if BD.1≥0 then (some (decide (BD.1≤1000000000))) else (some false)) else (some false)) else (if a0=113 then (if BD.2=true then ((I4.f BD.1).bind fun aAl=>(some aAl)) else (some false)) else (if a0=122 then (if BD.2=true then (if BD.1≥(-1000000) then (if BD.1≤1000000 then (some (BD.1 != 0)) else (some false)) else (some false)) else (some false)) else (if a0=100 then (if BD.2=true then ((I1.f BD.1).bind fun aAm=>(some aAm)) else (some false)) else (if (bA ByteArray.empty mE 0).toList=([]:List UInt8) then (some false) else ((ui.f k (bA ByteArray.empty mE 0)).bind fun aAn=>(some aAn))))))))) else none) else (some false)
mutual
def dL.l0:Nat→ByteArray→List Int→Int→Int→ByteArray→List bN→Option Int
 | 0,_,_,_,_,_,_=>none
 | k+1,x0,x5,x6,x7,wW,tJ=>if x7<(x0.size:Int) then (if 0≤x7 then (if (bt x0 x7)=63 then (if x6≥0 then (some 0) else (dL.l0 k x0 x5 (x5.length:Int) (wrap64 (x7+1)) wW tJ)) else (if (bt x0 x7)=114 then (if x5.length<140737488355328 then (dL.l0 k x0 (x5++[bt x0 x7]) x6 (wrap64 (x7+1)) wW tJ) else none) else (if (bt x0 x7)=110 then (if x5.length<140737488355328 then (dL.l0 k x0 (x5++[bt x0 x7]) x6 (wrap64 (x7+1)) wW tJ) else none) else (if (bt x0 x7)=113 then (if x5.length<140737488355328 then (dL.l0 k x0 (x5++[bt x0 x7]) x6 (wrap64 (x7+1)) wW tJ) else none) else (if (bt x0 x7)=122 then (if x5.length<140737488355328 then (dL.l0 k x0 (x5++[bt x0 x7]) x6 (wrap64 (x7+1)) wW tJ) else none) else (if (bt x0 x7)=100 then (if x5.length<140737488355328 then (dL.l0 k x0 (x5++[bt x0 x7]) x6 (wrap64 (x7+1)) wW tJ) else none) else (if (bt x0 x7)=116 then (if x5.length<140737488355328 then (dL.l0 k x0 (x5++[bt x0 x7]) x6 (wrap64 (x7+1)) wW tJ) else none) else (some 0)))))))) else none) else (if x6<0 then (dL.j1 k x5 (x5.length:Int) wW tJ) else (dL.j1 k x5 x6 wW tJ))
def dL.j1:Nat→List Int→Int→ByteArray→List bN→Option Int
 | 0,_,_,_,_=>none
 | k+1,x5,x6,wW,tJ=>dL.l1 k x5 x6 0 wW tJ
def dL.l1:Nat→List Int→Int→Int→ByteArray→List bN→Option Int
 | 0,_,_,_,_,_=>none
 | k+1,x5,x6,x9,wW,tJ=>if x9<(tJ.length:Int) then (dL.j3 k x5 x6 x9 true wW tJ) else (dL.j3 k x5 x6 x9 (decide (x9<x6)) wW tJ)
def dL.j3:Nat→List Int→Int→Int→Bool→ByteArray→List bN→Option Int
 | 0,_,_,_,_,_,_=>none
 | k+1,x5,x6,x9,x68,wW,tJ=>if x68=true then (if x9≥(tJ.length:Int) then (some x9) else (if x9≥(x5.length:Int) then (some x9) else (if 0≤x9 then (if x9<(x5.length:Int) then (if x9<(tJ.length:Int) then ((AP.f k (rd x5 x9) ((aK tJ x9).f0)).bind fun agG=>(if agG=true then (dL.l1 k x5 x6 (wrap64 (x9+1)) wW tJ) else (some x9))) else none) else none) else none))) else (some (-1))
end
def dL.f (k:Nat)(a0 aI:ByteArray)(aT:List bN):Option Int:=if (a0.size:Int)>20000 then (some 0) else (dL.l0 k a0 (([]:List Int)) (-1) 0 aI aT)
mutual
def eu.l0:Nat→List bn→List aH→Int→Int→Option (Int × Int × Int)
 | 0,_,_,_,_=>none
 | k+1,x1,x5,x6,x7=>if x7<(x5.length:Int) then (eu.l1 k x1 x5 x6 x7 0) else (if x6<(x1.length:Int) then (if 0≤x6 then (if 0≤(wrap64 ((x5.length:Int) - 1)) then (if (wrap64 ((x5.length:Int) - 1))<(x5.length:Int) then (if ((av x1 x6).f0).toList=((dK x5 (wrap64 ((x5.length:Int) - 1))).f0).toList then (some (x6,0,7)) else (some (x6,0,3))) else none) else none) else none) else (some (0,0,0)))
def eu.l1:Nat→List bn→List aH→Int→Int→Int→Option (Int × Int × Int)
 | 0,_,_,_,_,_=>none
 | k+1,x1,x5,x6,x7,x8=>if 0≤x7 then (if x7<(x5.length:Int) then (if x8<((dK x5 x7).f2) then (if x6<(x1.length:Int) then (if 0≤x6 then (eu.j2 k x1 x5 x6 x7 x8 (((av x1 x6).f0).toList == ((dK x5 x7).f0).toList)) else none) else (eu.j2 k x1 x5 x6 x7 x8 false)) else (eu.j2 k x1 x5 x6 x7 x8 false)) else none) else none
def eu.j2:Nat→List bn→List aH→Int→Int→Int→Bool→Option (Int × Int × Int)
 | 0,_,_,_,_,_,_=>none
 | k+1,x1,x5,x6,x7,x8,x52=>if x52=true then (if 0≤x7 then (if x7<(x5.length:Int) then (if 0≤x6 then (if x6<(x1.length:Int) then ((dL.f k ((dK x5 x7).f3) ((av x1 x6).f0) ((av x1 x6).f1)).bind fun an4=>(if an4≥0 then (some (x6,an4,3)) else (eu.l1 k x1 x5 (wrap64 (x6+1)) x7 (wrap64 (x8+1))))) else none) else none) else none) else none) else (if 0≤x7 then (if x7<(x5.length:Int) then (if x8<((dK x5 x7).f1) then (some (x6,0,4)) else (eu.l0 k x1 x5 x6 (wrap64 (x7+1)))) else none) else none)
end
def eu.f (k:Nat)(a0:Int)(l1:List bn):Option (Int × Int × Int):=if (l1.length:Int)>400 then (some (0,0,2)) else ((vL.f k a0).bind fun an3=>(if (an3.length:Int)=0 then (some (0,0,1)) else (eu.l0 k l1 an3 0 0)))
def qd.f (ag:ByteArray)(aN:List bN)(a1 a2:Int):Option ByteArray:=if a1<0 then (some (⟨#[]⟩:ByteArray)) else (if a1≥(aN.length:Int) then (some (⟨#[]⟩:ByteArray)) else (if a2<0 then (some (⟨#[]⟩:ByteArray)) else (if 0≤a1 then (if a1<(aN.length:Int) then (if a2≥(((aK aN a1).f0).length:Int) then (some (⟨#[]⟩:ByteArray)) else (if 0≤a2 then (if a2<(((aK aN a1).f0).length:Int) then (some (bA ByteArray.empty ((aK aN a1).f0) a2)) else none) else none)) else none) else none)))
def kQ.f (k:Nat)(ag:ByteArray)(aN:List bN)(a1:Int):Option Int:=(qd.f ag aN a1 0).bind fun aAo=>((il.f k aAo).bind fun atn=>(some atn.1))
def jJ.f (k:Nat)(a0:Int)(aI:ByteArray)(aT:List bN):Option (Int × ByteArray × Int × Int × ByteArray):=if a0=1 then ((kQ.f k aI aT 0).bind fun aAp=>((qd.f aI aT 1 0).bind fun aAq=>((kQ.f k aI aT 2).bind fun aAr=>((kQ.f k aI aT 3).bind fun aAs=>(some (aAp,aAq,aAr,aAs,(⟨#[]⟩:ByteArray))))))) else (if a0=5 then ((qd.f aI aT 0 0).bind fun aAt=>((kQ.f k aI aT 1).bind fun aAu=>(some (0,aAt,aAu,0,(⟨#[]⟩:ByteArray))))) else (if a0=6 then ((qd.f aI aT 0 0).bind fun aAv=>((kQ.f k aI aT 1).bind fun aAw=>((qd.f aI aT 2 0).bind fun aAx=>(some (0,aAv,aAw,0,aAx))))) else (if a0=7 then ((kQ.f k aI aT 0).bind fun aAy=>((kQ.f k aI aT 1).bind fun aAz=>((kQ.f k aI aT 2).bind fun aAA=>(some (aAy,(⟨#[]⟩:ByteArray),aAz,aAA,(⟨#[]⟩:ByteArray)))))) else ((kQ.f k aI aT 0).bind fun aAB=>((kQ.f k aI aT 1).bind fun aAC=>((qd.f aI aT 2 0).bind fun aAD=>(some (aAB,(⟨#[]⟩:ByteArray),aAC,0,aAD))))))))
def Md.f (a0:Int):Option Bool:=if a0≥1 then (some (decide (a0≤4))) else (some false)
def Me.f (a0:Int):Option Bool:=if a0=1 then (some true) else (if a0=5 then (some true) else (some (a0 == 6)))
mutual
def lJ.j0:Nat→Bool→ByteArray→List bN→ByteArray→List bN→Option Bool
 | 0,_,_,_,_,_=>none
 | k+1,x20,Qs,CR,Qt,CS=>if x20=true then (some false) else (lJ.l0 k 0 Qs CR Qt CS)
def lJ.l0:Nat→Int→ByteArray→List bN→ByteArray→List bN→Option Bool
 | 0,_,_,_,_,_=>none
 | k+1,x5,Qs,CR,Qt,CS=>if x5<(CR.length:Int) then (if 0≤x5 then (if x5<(CS.length:Int) then (if (((aK CR x5).f0).length:Int)=(((aK CS x5).f0).length:Int) then (lJ.l1 k x5 0 Qs CR Qt CS) else (some false)) else none) else none) else (some true)
def lJ.l1:Nat→Int→Int→ByteArray→List bN→ByteArray→List bN→Option Bool
 | 0,_,_,_,_,_,_=>none
 | k+1,x5,x6,Qs,CR,Qt,CS=>if 0≤x5 then (if x5<(CR.length:Int) then (if x6<(((aK CR x5).f0).length:Int) then (if 0≤x6 then (if x5<(CS.length:Int) then (if x6<(((aK CS x5).f0).length:Int) then (if (bA ByteArray.empty ((aK CR x5).f0) x6).toList=(bA ByteArray.empty ((aK CS x5).f0) x6).toList then (lJ.l1 k x5 (wrap64 (x6+1)) Qs CR Qt CS) else (some false)) else none) else none) else none) else (lJ.l0 k (wrap64 (x5+1)) Qs CR Qt CS)) else none) else none
end
def lJ.f (k:Nat)(ag:ByteArray)(aN:List bN)(aI:ByteArray)(aT:List bN):Option Bool:=if ag.toList=aI.toList then (lJ.j0 k ((aN.length:Int) != (aT.length:Int)) ag aN aI aT) else (lJ.j0 k true ag aN aI aT)
mutual
def bW.j0:Nat→Int→List bn→Int→ByteArray→ByteArray→Int→Option (Int × ByteArray × ByteArray × Int × List ByteArray × (List aZ) × Int × Int)
 | 0,_,_,_,_,_,_=>none
 | k+1,x0,x1,uR,uS,uT,uU=>bW.l0 k x0 x1 1 uR uS uT uU ([]:List ByteArray) ([]:List aZ)
def bW.l0:Nat→Int→List bn→Int→Int→ByteArray→ByteArray→Int→List ByteArray→List aZ→Option (Int × ByteArray × ByteArray × Int × List ByteArray × (List aZ) × Int × Int)
 | 0,_,_,_,_,_,_,_,_,_=>none
 | k+1,x0,x1,x7,uR,uS,uT,uU,vR,oG=>if x7<(x1.length:Int) then (if 0≤x7 then (if ((av x1 x7).f0).toList=([78,79,84]:List UInt8) then ((qd.f ((av x1 x7).f0) ((av x1 x7).f1) 0 0).bind fun PZ=>(if vR.length<8796093022208 then (bW.l0 k x0 x1 (wrap64 (x7+1)) uR uS uT uU (vR++[PZ]) oG) else none)) else ((jJ.f k x0 ((av x1 x7).f0) ((av x1 x7).f1)).bind fun Dn=>(if (oG.length:Int)>0 then (if 0≤(wrap64 ((oG.length:Int) - 1)) then (if (wrap64 ((oG.length:Int) - 1))<(oG.length:Int) then (bW.j2 k x0 x1 x7 ((ai oG (wrap64 ((oG.length:Int) - 1))).f0) uR uS uT uU vR oG Dn.1 Dn.2.1 Dn.2.2.1 Dn.2.2.2.1 Dn.2.2.2.2) else none) else none) else (bW.j2 k x0 x1 x7 0 uR uS uT uU vR oG Dn.1 Dn.2.1 Dn.2.2.1 Dn.2.2.2.1 Dn.2.2.2.2)))) else none) else (some (uR,uS,uT,uU,vR,oG,0,0))
def bW.j2:Nat→Int→List bn→Int→Int→Int→ByteArray→ByteArray→Int→List ByteArray→List aZ→Int→ByteArray→Int→Int→ByteArray→Option (Int × ByteArray × ByteArray × Int × List ByteArray × (List aZ) × Int × Int)
 | 0,_,_,_,_,_,_,_,_,_,_,_,_,_,_,_=>none
 | k+1,x0,x1,x7,x9,uR,uS,uT,uU,vR,oG,yN,zP,AY,AZ,Ba=>(Md.f x0).bind fun aaX=>(if aaX=true then (if yN≤x9 then (bW.j3 k x0 x1 x7 true uR uS uT uU vR oG yN zP AY AZ Ba) else (bW.j3 k x0 x1 x7 (decide (yN>999)) uR uS uT uU vR oG yN zP AY AZ Ba)) else (bW.j3 k x0 x1 x7 false uR uS uT uU vR oG yN zP AY AZ Ba))
def bW.j3:Nat→Int→List bn→Int→Bool→Int→ByteArray→ByteArray→Int→List ByteArray→List aZ→Int→ByteArray→Int→Int→ByteArray→Option (Int × ByteArray × ByteArray × Int × List ByteArray × (List aZ) × Int × Int)
 | 0,_,_,_,_,_,_,_,_,_,_,_,_,_,_,_=>none
 | k+1,x0,x1,x7,x97,uR,uS,uT,uU,vR,oG,yN,zP,AY,AZ,Ba=>if x97=true then (some (0,(⟨#[]⟩:ByteArray),(⟨#[]⟩:ByteArray),0,([]:List ByteArray),([]:List aZ),x7,11)) else (bW.l1 k x0 x1 x7 0 uR uS uT uU vR oG yN zP AY AZ Ba)
def bW.l1:Nat→Int→List bn→Int→Int→Int→ByteArray→ByteArray→Int→List ByteArray→List aZ→Int→ByteArray→Int→Int→ByteArray→Option (Int × ByteArray × ByteArray × Int × List ByteArray × (List aZ) × Int × Int)
 | 0,_,_,_,_,_,_,_,_,_,_,_,_,_,_,_=>none
 | k+1,x0,x1,x7,AU,uR,uS,uT,uU,vR,oG,yN,zP,AY,AZ,Ba=>if AU<(oG.length:Int) then ((Me.f x0).bind fun aaY=>(bW.j5 k x0 x1 x7 AU aaY uR uS uT uU vR oG yN zP AY AZ Ba)) else (bW.j5 k x0 x1 x7 AU false uR uS uT uU vR oG yN zP AY AZ Ba)
def bW.j5:Nat→Int→List bn→Int→Int→Bool→Int→ByteArray→ByteArray→Int→List ByteArray→List aZ→Int→ByteArray→Int→Int→ByteArray→Option (Int × ByteArray × ByteArray × Int × List ByteArray × (List aZ) × Int × Int)
 | 0,_,_,_,_,_,_,_,_,_,_,_,_,_,_,_,_=>none
 | k+1,x0,x1,x7,AU,aCI,uR,uS,uT,uU,vR,oG,yN,zP,AY,AZ,Ba=>if aCI=true then (if 0≤AU then (if AU<(oG.length:Int) then (if ((ai oG AU).f1).toList=zP.toList then (some (0,(⟨#[]⟩:ByteArray),(⟨#[]⟩:ByteArray),0,([]:List ByteArray),([]:List aZ),x7,11)) else (bW.l1 k x0 x1 x7 (wrap64 (AU+1)) uR uS uT uU vR oG yN zP AY AZ Ba)) else none) else none) else ((fq.f k x0 yN zP AY AZ Ba).bind fun ajx=>(if 0≤x7 then (if x7<(x1.length:Int) then ((lJ.f k ajx.1 ajx.2 ((av x1 x7).f0) ((av x1 x7).f1)).bind fun agH=>(if agH=true then (if oG.length<2513169434916 then (bW.l0 k x0 x1 (wrap64 (x7+1)) uR uS uT uU vR (oG++[(⟨yN,zP,AY,AZ,Ba⟩:aZ)])) else none) else (some (0,(⟨#[]⟩:ByteArray),(⟨#[]⟩:ByteArray),0,([]:List ByteArray),([]:List aZ),x7,3)))) else none) else none))
end
def bW.f (k:Nat)(a0:Int)(l1:List bn):Option (Int × ByteArray × ByteArray × Int × List ByteArray × (List aZ) × Int × Int):=(eu.f k a0 l1).bind fun adb=>(if adb.2.2=0 then (if 0<(l1.length:Int) then ((qd.f ((av l1 0).f0) ((av l1 0).f1) 0 0).bind fun nX=>((kQ.f k ((av l1 0).f0) ((av l1 0).f1) 1).bind fun AQ=>((DX.f a0).bind fun aaV=>(if aaV=true then ((qd.f ((av l1 0).f0) ((av l1 0).f1) 1 0).bind fun Mg=>((kQ.f k ((av l1 0).f0) ((av l1 0).f1) 2).bind fun aaW=>(bW.j0 k a0 l1 a0 nX Mg aaW))) else (bW.j0 k a0 l1 a0 nX (⟨#[]⟩:ByteArray) AQ))))) else none) else (some (0,(⟨#[]⟩:ByteArray),(⟨#[]⟩:ByteArray),0,([]:List ByteArray),([]:List aZ),adb.1,adb.2.2)))
mutual
def kI.j0:Nat→Bool→Int→ByteArray→ByteArray→Int→List ByteArray→List aZ→Int→ByteArray→ByteArray→Int→List ByteArray→List aZ→Option Bool
 | 0,_,_,_,_,_,_,_,_,_,_,_,_,_=>none
 | k+1,x50,Qu,Qv,Qw,Qx,Jj,Bb,Qy,Qz,QA,QB,Jk,Bc=>if x50=true then (some false) else (kI.l0 k 0 Qu Qv Qw Qx Jj Bb Qy Qz QA QB Jk Bc)
def kI.l0:Nat→Int→Int→ByteArray→ByteArray→Int→List ByteArray→List aZ→Int→ByteArray→ByteArray→Int→List ByteArray→List aZ→Option Bool
 | 0,_,_,_,_,_,_,_,_,_,_,_,_,_=>none
 | k+1,x5,Qu,Qv,Qw,Qx,Jj,Bb,Qy,Qz,QA,QB,Jk,Bc=>if x5<(Jj.length:Int) then (if 0≤x5 then (if x5<(Jk.length:Int) then (if (bA ByteArray.empty Jj x5).toList=(bA ByteArray.empty Jk x5).toList then (kI.l0 k (wrap64 (x5+1)) Qu Qv Qw Qx Jj Bb Qy Qz QA QB Jk Bc) else (some false)) else none) else none) else (kI.l1 k 0 Qu Qv Qw Qx Jj Bb Qy Qz QA QB Jk Bc)
def kI.l1:Nat→Int→Int→ByteArray→ByteArray→Int→List ByteArray→List aZ→Int→ByteArray→ByteArray→Int→List ByteArray→List aZ→Option Bool
 | 0,_,_,_,_,_,_,_,_,_,_,_,_,_=>none
 | k+1,x6,Qu,Qv,Qw,Qx,Jj,Bb,Qy,Qz,QA,QB,Jk,Bc=>if x6<(Bb.length:Int) then (if 0≤x6 then (if x6<(Bc.length:Int) then (if (!(((ai Bb x6).f0) == ((ai Bc x6).f0)) || (!((((ai Bb x6).f1).toList) == (((ai Bc x6).f1).toList)) || (!(((ai Bb x6).f2) == ((ai Bc x6).f2)) || (!(((ai Bb x6).f3) == ((ai Bc x6).f3)) || (!((((ai Bb x6).f4).toList) == (((ai Bc x6).f4).toList)))))))=true then (some false) else (kI.l1 k (wrap64 (x6+1)) Qu Qv Qw Qx Jj Bb Qy Qz QA QB Jk Bc)) else none) else none) else (some true)
end
def kI.f (k:Nat)(ag:Int)(aj ak:ByteArray)(aM:Int)(az:List ByteArray)(ah:List aZ)(aI:Int)(bX dA:ByteArray)(eU:Int)(iT:List ByteArray)(gV:List aZ):Option Bool:=if ag=aI then (if aj.toList=bX.toList then (if ak.toList=dA.toList then (if aM=eU then (if (az.length:Int)=(iT.length:Int) then (kI.j0 k ((ah.length:Int) != (gV.length:Int)) ag aj ak aM az ah aI bX dA eU iT gV) else (kI.j0 k true ag aj ak aM az ah aI bX dA eU iT gV)) else (kI.j0 k true ag aj ak aM az ah aI bX dA eU iT gV)) else (kI.j0 k true ag aj ak aM az ah aI bX dA eU iT gV)) else (kI.j0 k true ag aj ak aM az ah aI bX dA eU iT gV)) else (kI.j0 k true ag aj ak aM az ah aI bX dA eU iT gV)
mutual
def kv.j0:Nat→Bool→Int→ByteArray→ByteArray→Int→List ByteArray→List aZ→Option Bool
 | 0,_,_,_,_,_,_,_=>none
 | k+1,x15,QC,Xi,Xj,Xk,Xl,Xm=>if x15=true then (some false) else ((fQ.f k QC Xi Xj Xk Xl Xm).bind fun aAE=>(kv.l0 k aAE 0 QC Xi Xj Xk Xl Xm))
def kv.l0:Nat→List bn→Int→Int→ByteArray→ByteArray→Int→List ByteArray→List aZ→Option Bool
 | 0,_,_,_,_,_,_,_,_=>none
 | k+1,x3,x4,QC,Xi,Xj,Xk,Xl,Xm=>if x4<(x3.length:Int) then (if 0≤x4 then ((iZ.f k ((av x3 x4).f0) ((av x3 x4).f1)).bind fun aAF=>(if aAF=true then (kv.l0 k x3 (wrap64 (x4+1)) QC Xi Xj Xk Xl Xm) else (some false))) else none) else ((bW.f k QC x3).bind fun Kk=>(if Kk.2.2.2.2.2.2.2=0 then ((kI.f k Kk.1 Kk.2.1 Kk.2.2.1 Kk.2.2.2.1 Kk.2.2.2.2.1 Kk.2.2.2.2.2.1 QC Xi Xj Xk Xl Xm).bind fun aAG=>(some aAG)) else (some false)))
end
def kv.f (k:Nat)(ag:Int)(aj ak:ByteArray)(aM:Int)(az:List ByteArray)(ah:List aZ):Option Bool:=if (az.length:Int)>40 then (kv.j0 k true ag aj ak aM az ah) else (kv.j0 k (decide ((ah.length:Int)>20)) ag aj ak aM az ah)
def jq.l1 (k:Nat)(p:eT)(i:Int)(l:List dR):Option (List dR):=if 0<l.length∧(bf l ((l.length:Int) - 1)).f2.length+1<4398046511104 then (fQ.f k p.f0 p.f1 p.f2 p.f3 p.f4 p.f5).bind fun b=>some (l.set (l.length - 1) ⟨(bf l ((l.length:Int) - 1)).f0,(bf l ((l.length:Int) - 1)).f1,(bf l ((l.length:Int) - 1)).f2++[(⟨wrap64 (i+1),b⟩:iG)]⟩) else none
def jq.l2 (k:Nat)(p:eT)(i:Int)(l:List dR):Option (List dR):=jq.l1 k p i (l++[(⟨p.f0,wrap64 ((l.length:Int)+1),[]⟩:dR)])
def jq.l0:Nat→List eT→Int→List dR→Option (List dR)
 | 0,_,_,_=>none
 | k+1,p,i,l=>if i<(p.length:Int) then (if 0≤i then (if l.length+1<3518437208883 then (if (l.length:Int)=0 then jq.l2 k (aG p i) i l else if (bf l ((l.length:Int) - 1)).f0=(aG p i).f0 then jq.l1 k (aG p i) i l else jq.l2 k (aG p i) i l).bind fun c=>jq.l0 k p (wrap64 (i+1)) c else none) else none) else some l
def jq.f (k:Nat)(ag aj:ByteArray)(ak:Int)(au:List eT):Option (ByteArray × ByteArray × Int × List dR):=(jq.l0 k au 0 []).bind fun l=>some (ag,aj,ak,l)
def CB.f (a0:Int):Option Bool:=if a0≥1 then (some (decide (a0≤999999))) else (some false)
def I5.f (a0:ByteArray):Option Bool:=if a0.toList=([73,88,72]:List UInt8) then (some true) else (if a0.toList=([71,82,72]:List UInt8) then (some true) else (if a0.toList=([77,83,72]:List UInt8) then (some true) else (if a0.toList=([77,83,84]:List UInt8) then (some true) else (if a0.toList=([71,82,84]:List UInt8) then (some true) else (some (a0.toList == ([73,88,84]:List UInt8)))))))
mutual
def fE.j0:Nat→Bool→ByteArray→ByteArray→Int→List dR→Option Bool
 | 0,_,_,_,_,_=>none
 | k+1,x35,uV,uW,uX,kE=>if x35=true then (some false) else (fE.l0 k 0 uV uW uX kE)
def fE.l0:Nat→Int→ByteArray→ByteArray→Int→List dR→Option Bool
 | 0,_,_,_,_,_=>none
 | k+1,x3,uV,uW,uX,kE=>if x3<(kE.length:Int) then (if 0≤x3 then (if ((bf kE x3).f0)<1 then (fE.j2 k x3 true uV uW uX kE ((bf kE x3).f0) ((bf kE x3).f1) ((bf kE x3).f2)) else (if ((bf kE x3).f0)>7 then (fE.j2 k x3 true uV uW uX kE ((bf kE x3).f0) ((bf kE x3).f1) ((bf kE x3).f2)) else ((CB.f ((bf kE x3).f1)).bind fun aAK=>(if aAK=true then (if (((bf kE x3).f2).length:Int)<1 then (fE.j2 k x3 true uV uW uX kE ((bf kE x3).f0) ((bf kE x3).f1) ((bf kE x3).f2)) else (fE.j2 k x3 (decide ((((bf kE x3).f2).length:Int)>10)) uV uW uX kE ((bf kE x3).f0) ((bf kE x3).f1) ((bf kE x3).f2))) else (fE.j2 k x3 true uV uW uX kE ((bf kE x3).f0) ((bf kE x3).f1) ((bf kE x3).f2)))))) else none) else (some true)
def fE.j2:Nat→Int→Bool→ByteArray→ByteArray→Int→List dR→Int→Int→List iG→Option Bool
 | 0,_,_,_,_,_,_,_,_,_=>none
 | k+1,x3,x73,uV,uW,uX,kE,Gh,Gi,wX=>if x73=true then (some false) else (fE.l1 k x3 0 uV uW uX kE Gh Gi wX)
def fE.l1:Nat→Int→Int→ByteArray→ByteArray→Int→List dR→Int→Int→List iG→Option Bool
 | 0,_,_,_,_,_,_,_,_,_=>none
 | k+1,x3,x5,uV,uW,uX,kE,Gh,Gi,wX=>if x5<(wX.length:Int) then (if 0≤x5 then ((CB.f ((fJ wX x5).f0)).bind fun aAL=>(if aAL=true then (fE.j4 k x3 x5 (decide ((((fJ wX x5).f1).length:Int)>40)) uV uW uX kE Gh Gi wX ((fJ wX x5).f0) ((fJ wX x5).f1)) else (fE.j4 k x3 x5 true uV uW uX kE Gh Gi wX ((fJ wX x5).f0) ((fJ wX x5).f1)))) else none) else (fE.l0 k (wrap64 (x3+1)) uV uW uX kE)
def fE.j4:Nat→Int→Int→Bool→ByteArray→ByteArray→Int→List dR→Int→Int→List iG→Int→List bn→Option Bool
 | 0,_,_,_,_,_,_,_,_,_,_,_,_=>none
 | k+1,x3,x5,x95,uV,uW,uX,kE,Gh,Gi,wX,agU,MV=>if x95=true then (some false) else (fE.l2 k x3 x5 0 uV uW uX kE Gh Gi wX agU MV)
def fE.l2:Nat→Int→Int→Int→ByteArray→ByteArray→Int→List dR→Int→Int→List iG→Int→List bn→Option Bool
 | 0,_,_,_,_,_,_,_,_,_,_,_,_=>none
 | k+1,x3,x5,x7,uV,uW,uX,kE,Gh,Gi,wX,agU,MV=>if x7<(MV.length:Int) then (if 0≤x7 then ((iZ.f k ((av MV x7).f0) ((av MV x7).f1)).bind fun aAM=>(if aAM=true then ((I5.f ((av MV x7).f0)).bind fun aAN=>(if aAN=true then (some false) else (fE.l2 k x3 x5 (wrap64 (x7+1)) uV uW uX kE Gh Gi wX agU MV))) else (some false))) else none) else (fE.l1 k x3 (wrap64 (x5+1)) uV uW uX kE Gh Gi wX)
end
def fE.f (k:Nat)(ag aj:ByteArray)(ak:Int)(au:List dR):Option Bool:=(jQ.f k ag).bind fun aAH=>(if aAH=true then ((jQ.f k aj).bind fun aAI=>(if aAI=true then ((CB.f ak).bind fun aAJ=>(if aAJ=true then (if (au.length:Int)<1 then (fE.j0 k true ag aj ak au) else (fE.j0 k (decide ((au.length:Int)>5)) ag aj ak au)) else (fE.j0 k true ag aj ak au))) else (fE.j0 k true ag aj ak au))) else (fE.j0 k true ag aj ak au))
def sZ.l0:Nat→Int→ByteArray→ByteArray→Int→List eT→Option Bool
 | 0,_,_,_,_,_=>none
 | k+1,x3,aoA,aoB,aoC,Gj=>if x3<(Gj.length:Int) then (if 0≤x3 then ((kv.f k ((aG Gj x3).f0) ((aG Gj x3).f1) ((aG Gj x3).f2) ((aG Gj x3).f3) ((aG Gj x3).f4) ((aG Gj x3).f5)).bind fun aAO=>(if aAO=true then (sZ.l0 k (wrap64 (x3+1)) aoA aoB aoC Gj) else (some false))) else none) else ((jq.f k aoA aoB aoC Gj).bind fun YO=>((fE.f k YO.1 YO.2.1 YO.2.2.1 YO.2.2.2).bind fun aAP=>(some aAP)))
def sZ.f (k:Nat)(ag aj:ByteArray)(ak:Int)(au:List eT):Option Bool:=if (au.length:Int)>50 then (some false) else (sZ.l0 k 0 ag aj ak au)
def Ma.f (k:Nat)(ag aj:ByteArray)(ak:Int)(au:List eT):Option (ByteArray × ByteArray × Int × (List dR)):=(sZ.f k ag aj ak au).bind fun aAQ=>(if aAQ=true then ((jq.f k ag aj ak au).bind fun YP=>(some (YP.1,YP.2.1,YP.2.2.1,YP.2.2.2))) else (some ((⟨#[]⟩:ByteArray),(⟨#[]⟩:ByteArray),0,([]:List dR))))
def l9.f (a0 a1 a2:Int):Option Bool:=if a1≤a0 then (some (decide (a0≤a2))) else (some false)
def DL.f (a0:Int):Option Bool:=(l9.f a0 2 4).bind fun aAR=>(some aAR)
def PX.f (a0 a1:Int):Option ByteArray:=if a1=10 then (if -9223372036854775808≤a0 then (if a0≤9223372036854775807 then some (⟨(Lib.itoa a0).toArray⟩:ByteArray) else none) else none) else none
def yC.f (a0:Int):Option ByteArray:=(PX.f a0 10).bind fun aAS=>(some aAS)
def oC.l0:Nat→List ByteArray→Int→Int→ByteArray→List bN→Option (ByteArray × (List bN))
 | 0,_,_,_,_,_=>none
 | k+1,AU,x11,zN,aoD,agV=>if zN<x11 then (if 0≤zN then (if zN<(AU.length:Int) then (if agV.length<5864062014805 then (oC.l0 k AU x11 (wrap64 (zN+1)) aoD (agV++[(⟨(([bA ByteArray.empty AU zN]:List ByteArray))⟩:bN)])) else none) else none) else none) else (some (aoD,agV))
def oC.f (k:Nat)(a0:ByteArray)(l1:List ByteArray):Option (ByteArray × (List bN)):=oC.l0 k l1 (l1.length:Int) 0 a0 ([]:List bN)
def uI.f (a0:ByteArray):Option (ByteArray × Int × Int × ByteArray):=some ((⟨#[68,79,67]⟩:ByteArray),1,1,a0)
def wD.f (a0 a1:ByteArray):Option (ByteArray × Int × Int × ByteArray):=some (a0,1,20,a1)
def tX.j0:Nat→Int→Bool→ByteArray→Int→Int→ByteArray→Option ((List aH))
 | 0,_,_,_,_,_,_=>none
 | k+1,x7,Qi,aCN,aCO,aCP,aCQ=>if Qi=true then ((uI.f (⟨#[114,114,100]⟩:ByteArray)).bind fun YS=>((wD.f (⟨#[76,73,78]⟩:ByteArray) (⟨#[110,113,63,116]⟩:ByteArray)).bind fun YT=>(some (([(⟨YS.1,YS.2.1,YS.2.2.1,YS.2.2.2⟩:aH),(⟨YT.1,YT.2.1,YT.2.2.1,YT.2.2.2⟩:aH)]:List aH))))) else (if x7=3 then ((uI.f (⟨#[114,114,100]⟩:ByteArray)).bind fun YU=>((wD.f (⟨#[76,73,78]⟩:ByteArray) (⟨#[110,113]⟩:ByteArray)).bind fun YV=>(some (([(⟨YU.1,YU.2.1,YU.2.2.1,YU.2.2.2⟩:aH),(⟨aCN,aCO,aCP,aCQ⟩:aH),(⟨YV.1,YV.2.1,YV.2.2.1,YV.2.2.2⟩:aH)]:List aH))))) else (if x7=5 then ((uI.f (⟨#[114,100]⟩:ByteArray)).bind fun YW=>((wD.f (⟨#[73,84,77]⟩:ByteArray) (⟨#[114,110]⟩:ByteArray)).bind fun YX=>(some (([(⟨YW.1,YW.2.1,YW.2.2.1,YW.2.2.2⟩:aH),(⟨YX.1,YX.2.1,YX.2.2.1,YX.2.2.2⟩:aH)]:List aH))))) else (if x7=6 then ((uI.f (⟨#[114,100]⟩:ByteArray)).bind fun YY=>((wD.f (⟨#[73,84,77]⟩:ByteArray) (⟨#[114,122,63,116]⟩:ByteArray)).bind fun YZ=>(some (([(⟨YY.1,YY.2.1,YY.2.2.1,YY.2.2.2⟩:aH),(⟨YZ.1,YZ.2.1,YZ.2.2.1,YZ.2.2.2⟩:aH)]:List aH))))) else (if x7=7 then ((uI.f (⟨#[114,100]⟩:ByteArray)).bind fun Y1=>(some (([(⟨Y1.1,Y1.2.1,Y1.2.2.1,Y1.2.2.2⟩:aH),(⟨(⟨#[65,67,75]⟩:ByteArray),1,1,(⟨#[110,110,63,110]⟩:ByteArray)⟩:aH)]:List aH)))) else (some ([]:List aH))))))
def tX.f (k:Nat)(a0:Int):Option ((List aH)):=if a0=1 then ((uI.f (⟨#[114,100]⟩:ByteArray)).bind fun YQ=>((wD.f (⟨#[76,73,78]⟩:ByteArray) (⟨#[110,114,113,63,110]⟩:ByteArray)).bind fun YR=>(some (([(⟨YQ.1,YQ.2.1,YQ.2.2.1,YQ.2.2.2⟩:aH),(⟨(⟨#[78,79,84]⟩:ByteArray),0,2,(⟨#[116]⟩:ByteArray)⟩:aH),(⟨YR.1,YR.2.1,YR.2.2.1,YR.2.2.2⟩:aH)]:List aH))))) else (if a0=2 then (tX.j0 k a0 (a0 == 2) (⟨#[78,79,84]⟩:ByteArray) 0 2 (⟨#[116]⟩:ByteArray)) else (tX.j0 k a0 (a0 == 4) (⟨#[78,79,84]⟩:ByteArray) 0 2 (⟨#[116]⟩:ByteArray)))
def Li.f (k:Nat)(a0:Int):Option ByteArray:=(tX.f k a0).bind fun WH=>(if 0≤(wrap64 ((WH.length:Int) - 1)) then (if (wrap64 ((WH.length:Int) - 1))<(WH.length:Int) then (some ((dK WH (wrap64 ((WH.length:Int) - 1))).f0)) else none) else none)
def sO.j0:Nat→Int→Bool→Option ByteArray
 | 0,_,_=>none
 | k+1,x3,x6=>if x6=true then (some (⟨#[78,81,84]⟩:ByteArray)) else (if x3=3 then (some (⟨#[78,81]⟩:ByteArray)) else (if x3=5 then (some (⟨#[73,81]⟩:ByteArray)) else (if x3=6 then (some (⟨#[73,81,84]⟩:ByteArray)) else (if x3=7 then (some (⟨#[78,81,77]⟩:ByteArray)) else (some (⟨#[]⟩:ByteArray))))))
def sO.f (k:Nat)(a0:Int):Option ByteArray:=if a0=1 then (some (⟨#[78,73,81,77]⟩:ByteArray)) else (if a0=2 then (sO.j0 k a0 (a0 == 2)) else (sO.j0 k a0 (a0 == 4)))
def zB.f (a0:Int):Option Bool:=if a0=73 then (some true) else (some (a0 == 84))
def oM.l0 (f0:Int)(f1:ByteArray)(f2 f3:Int)(f4:ByteArray):List UInt8→List ByteArray→Option (List ByteArray)
 | [],acc=>some acc
 | c :: cs,acc=>if acc.length<1000 then
   (if c=77 then (if f3=0 then oM.l0 f0 f1 f2 f3 f4 cs acc else (yC.f f3).bind fun d=>oM.l0 f0 f1 f2 f3 f4 cs (acc++[d]))
   else if c=84 then (if f4.toList=[] then oM.l0 f0 f1 f2 f3 f4 cs acc else oM.l0 f0 f1 f2 f3 f4 cs (acc++[f4]))
   else if c=73 then oM.l0 f0 f1 f2 f3 f4 cs (acc++[f1])
   else if c=78 then (yC.f f0).bind fun d=>oM.l0 f0 f1 f2 f3 f4 cs (acc++[d])
   else if c=81 then (yC.f f2).bind fun d=>oM.l0 f0 f1 f2 f3 f4 cs (acc++[d])
   else none) else none
def oM.f (k:Nat)(a0 f0:Int)(f1:ByteArray)(f2 f3:Int)(f4:ByteArray):Option (List ByteArray):=(sO.f k a0).bind fun s=>oM.l0 f0 f1 f2 f3 f4 s.data.toList []
end Go.Proofs.YtapilmimgiaglaaGreatDoor.QX
