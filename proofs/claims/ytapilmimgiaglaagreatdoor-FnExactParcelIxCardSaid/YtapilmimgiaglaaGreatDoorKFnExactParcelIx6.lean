import Derived.Test.YtapilmimgiaglaaGreatDoorKFnExactParcelIx5
set_option maxHeartbeats 8000000
set_option maxRecDepth 100000
set_option linter.unusedSimpArgs false
set_option linter.unusedVariables false
namespace Go.Proofs.YtapilmimgiaglaaGreatDoor.QX
open Go.RowKit Go.Proofs.bB.eH Go.Proofs.bB.PrintLast Go.Proofs.bB.PrintMore
attribute [local go_sem] oU o5 oZ o8 oW o7 oV o6
mutual
def gZ.j0:Nat→List ByteArray→Int→ByteArray→ByteArray→Int→List ByteArray→List aZ→Option ((List bn))
 | 0,_,_,_,_,_,_,_=>none
 | k+1,x3,Jl,QD,QE,MW,Jm,Jn=>(yC.f MW).bind fun MB=>(if x3.length<8796093022208 then ((oC.f k (⟨#[68,79,67]⟩:ByteArray) (x3++[MB])).bind fun R8=>(gZ.l0 k (([(⟨R8.1,R8.2⟩:bn)]:List bn)) Jm (Jm.length:Int) 0 Jl QD QE MW Jm Jn)) else none)
def gZ.l0:Nat→List bn→List ByteArray→Int→Int→Int→ByteArray→ByteArray→Int→List ByteArray→List aZ→Option ((List bn))
 | 0,_,_,_,_,_,_,_,_,_,_=>none
 | k+1,x4,x29,x30,x31,Jl,QD,QE,MW,Jm,Jn=>if x31<x30 then (if 0≤x31 then (if x31<(x29.length:Int) then ((oC.f k (⟨#[78,79,84]⟩:ByteArray) (([bA ByteArray.empty x29 x31]:List ByteArray))).bind fun R9=>(if x4.length<3518437208883 then (gZ.l0 k (x4++[(⟨R9.1,R9.2⟩:bn)]) x29 x30 (wrap64 (x31+1)) Jl QD QE MW Jm Jn) else none)) else none) else none) else (gZ.l1 k x4 Jn (Jn.length:Int) 0 Jl QD QE MW Jm Jn)
def gZ.l1:Nat→List bn→List aZ→Int→Int→Int→ByteArray→ByteArray→Int→List ByteArray→List aZ→Option ((List bn))
 | 0,_,_,_,_,_,_,_,_,_,_=>none
 | k+1,x4,x43,x44,Gg,Jl,QD,QE,MW,Jm,Jn=>if Gg<x44 then (if 0≤Gg then (if Gg<(x43.length:Int) then ((Li.f k Jl).bind fun WM=>((oM.f k Jl ((ai x43 Gg).f0) ((ai x43 Gg).f1) ((ai x43 Gg).f2) ((ai x43 Gg).f3) ((ai x43 Gg).f4)).bind fun I7=>((oC.f k WM I7).bind fun ajy=>(if x4.length<3518437208883 then (gZ.l1 k (x4++[(⟨ajy.1,ajy.2⟩:bn)]) x43 x44 (wrap64 (Gg+1)) Jl QD QE MW Jm Jn) else none)))) else none) else none) else (some x4)
end
def gZ.f (k:Nat)(ag:Int)(aj ak:ByteArray)(aM:Int)(az:List ByteArray)(ah:List aZ):Option ((List bn)):=(some (([aj]:List ByteArray):List ByteArray)).bind fun Eg=>((DL.f ag).bind fun P7=>(if P7=true then (if Eg.length<8796093022208 then (gZ.j0 k (Eg++[ak]) ag aj ak aM az ah) else none) else (gZ.j0 k Eg ag aj ak aM az ah)))
def Pg.f (l0:List bn):Option Bool:=some (decide ((l0.length:Int)>400))
def strings_Cut.f (a0 a1:ByteArray):Option (ByteArray × ByteArray × Bool):=if a0.size<4294967281 then some ((⟨(Lib.cut a0.data.toList a1.data.toList).1.toArray⟩:ByteArray),(⟨(Lib.cut a0.data.toList a1.data.toList).2.1.toArray⟩:ByteArray),(Lib.cut a0.data.toList a1.data.toList).2.2) else none
def strings_IndexByte.f (a0:ByteArray)(a1:Int):Option Int:=some (Lib.indexByte a0.data.toList a1.toNat.toUInt8)
def Pn.f (a0:ByteArray):Option Bool:=some (decide ((a0.size:Int)>20000))
def xK.l0:Nat→List ByteArray→Int→Int→Option Int
 | 0,_,_,_=>none
 | k+1,x0,x7,x8=>if x8<x7 then (if 0≤x8 then (if x8<(x0.length:Int) then ((Pn.f (bA ByteArray.empty x0 x8)).bind fun aAT=>(if aAT=true then (some x8) else (xK.l0 k x0 x7 (wrap64 (x8+1))))) else none) else none) else (some (-1))
def xK.f (k:Nat)(l0:List ByteArray)  : Option Int:=xK.l0 k l0 (l0.length:Int) 0
def PS.f (k:Nat)(l0:List ByteArray)  : Option Bool:=(xK.f k l0).bind fun aAU=>(some (decide (aAU≥0)))
def FM.f (k:Nat)(l0:List ByteArray):Option Bool:=(PS.f k l0).bind fun aAV=>(some aAV)
def zA.f (a0:Int):Option Bool:=if a0≥65 then (some (decide (a0≤90))) else (some false)
def FJ.f (a0:Int):Option Bool:=if a0≥48 then (some (decide (a0≤57))) else (some false)
def qP.l0:Nat→ByteArray→Int→Int→Option Bool
 | 0,_,_,_=>none
 | k+1,x0,x5,x6=>if x6<x5 then (if 0≤x6 then (if x6<(x0.size:Int) then ((zA.f (bt x0 x6)).bind fun aAX=>(if aAX=true then (qP.l0 k x0 x5 (wrap64 (x6+1))) else (if x6=0 then (some false) else ((FJ.f (bt x0 x6)).bind fun aAY=>(if aAY=true then (qP.l0 k x0 x5 (wrap64 (x6+1))) else (if (bt x0 x6)=45 then (qP.l0 k x0 x5 (wrap64 (x6+1))) else (some false))))))) else none) else none) else ((l9.f (x0.size:Int) 1 12).bind fun aAW=>(some aAW))
def qP.f (k:Nat)(a0:ByteArray):Option Bool:=qP.l0 k a0 (a0.size:Int) 0
mutual
def lD.j0:Nat→ByteArray→ByteArray→Bool→Option Bool
 | 0,_,_,_=>none
 | k+1,x0,x3,zN=>if zN=true then (if 1≤(x0.size:Int) then (lD.j1 k x0 (x0.extract 1 x0.size)) else none) else (lD.j1 k x0 x3)
def lD.j1:Nat→ByteArray→ByteArray→Option Bool
 | 0,_,_=>none
 | k+1,x0,x3=>lD.l0 k x0 x3 (x3.size:Int) 0
def lD.l0:Nat→ByteArray→ByteArray→Int→Int→Option Bool
 | 0,_,_,_,_=>none
 | k+1,x0,x3,Qi,WZ=>if WZ<Qi then (if 0≤WZ then (if WZ<(x3.size:Int) then ((FJ.f (bt x3 WZ)).bind fun aAZ=>(if aAZ=true then (lD.l0 k x0 x3 Qi (wrap64 (WZ+1))) else (some false))) else none) else none) else (if x3.toList=([]:List UInt8) then (some false) else (if 0<(x3.size:Int) then (if (bt x3 0)=48 then (some (x0.toList == ([48]:List UInt8))) else (some true)) else none))
end
def lD.f (k:Nat)(a0:ByteArray):Option Bool:=if a0.toList=([]:List UInt8) then (lD.j0 k a0 a0 false) else (if 0<(a0.size:Int) then (lD.j0 k a0 a0 ((bt a0 0) == 45)) else none)
def oz.f (k:Nat)(a0:ByteArray)(a1 a2:Int):Option (Int × Bool):=if a0.size≤281474976710656 then (match Lib.parseIntB 64 a0.data.toList with | .ok v=>((lD.f k a0).bind fun b=>if b=true then ((l9.f v a1 a2).bind fun c=>some (v,c)) else some (v,false)) | .«syntax»=>some (0,false) | .range=>some (Lib.intSat 64 a0.data.toList,false)) else none
def xE.l0:Nat→ByteArray→Int→Int→Option Bool
 | 0,_,_,_=>none
 | k+1,x0,x5,x6=>if x6<x5 then (if 0≤x6 then (if x6<(x0.size:Int) then (if (bt x0 x6)<32 then (some false) else (if (bt x0 x6)>126 then (some false) else (xE.l0 k x0 x5 (wrap64 (x6+1))))) else none) else none) else (some true)
def xE.f (k:Nat)(a0:ByteArray):Option Bool:=xE.l0 k a0 (a0.size:Int) 0
def FL.f (k:Nat)(a0:ByteArray):Option Bool:=if (a0.size:Int)≤40 then ((xE.f k a0).bind fun aA0=>(some aA0)) else (some false)
def sP.f (k:Nat)(a0:Int)(a1:ByteArray):Option Bool:=if a0=114 then ((qP.f k a1).bind fun aA1=>(some aA1)) else (if a0=110 then ((oz.f k a1 0 1000000000).bind fun ato=>(some ato.2)) else (if a0=113 then ((oz.f k a1 1 1000000).bind fun atp=>(some atp.2)) else (if a0=122 then ((oz.f k a1 (-1000000) 1000000).bind fun atq=>(if atq.2=true then (some (a1.toList != ([48]:List UInt8))) else (some false))) else (if a0=100 then ((oz.f k a1 0 100000).bind fun atr=>(some atr.2)) else (if a0=116 then (if a1.toList=([]:List UInt8) then (some false) else ((FL.f k a1).bind fun aA2=>(some aA2))) else (some false))))))
mutual
def fG.l0:Nat→ByteArray→ByteArray→ByteArray→Int→Int→ByteArray→List bN→Option Int
 | 0,_,_,_,_,_,_,_=>none
 | k+1,x0,x5,x8,yL,su,abr,Jo=>if su<yL then (if 0≤su then (if su<(x8.size:Int) then ((strings_IndexByte.f (⟨#[114,110,113,122,100,116]⟩:ByteArray) (bt x8 su)).bind fun aA3=>(if aA3<0 then (some 0) else (fG.l0 k x0 x5 x8 yL (wrap64 (su+1)) abr Jo))) else none) else none) else ((FM.f k (([x0]:List ByteArray))).bind fun aA4=>(if aA4=true then (some 0) else (fG.l1 k x5 x8 Jo (Jo.length:Int) 0 abr Jo)))
def fG.l1:Nat→ByteArray→ByteArray→List bN→Int→Int→ByteArray→List bN→Option Int
 | 0,_,_,_,_,_,_,_=>none
 | k+1,x5,x8,Xg,x37,x38,abr,Jo=>if x38<x37 then (if 0≤x38 then (if x38<(Xg.length:Int) then (if x38=(x8.size:Int) then (some x38) else (if (((aK Xg x38).f0).length:Int)=1 then (if x38<(x8.size:Int) then (if 0<(((aK Xg x38).f0).length:Int) then ((sP.f k (bt x8 x38) (bA ByteArray.empty ((aK Xg x38).f0) 0)).bind fun aA5=>(if aA5=true then (fG.l1 k x5 x8 Xg x37 (wrap64 (x38+1)) abr Jo) else (some x38))) else none) else none) else (some x38))) else none) else none) else (if (Jo.length:Int)<(x5.size:Int) then (some (Jo.length:Int)) else (some (-1)))
end
def fG.f (k:Nat)(a0 aI:ByteArray)(aT:List bN):Option Int:=(strings_Cut.f a0 (⟨#[63]⟩:ByteArray)).bind fun Kl=>(if Kl.1.size+Kl.2.1.size≤9223372036854775807 then (fG.l0 k a0 Kl.1 (Kl.1++Kl.2.1) ((Kl.1++Kl.2.1).size:Int) 0 aI aT) else none)
mutual
def fH.l0:Nat→List bn→Int→ByteArray→List aH→Int→Int→Option (Int × Int × Int)
 | 0,_,_,_,_,_,_=>none
 | k+1,x1,x5,x6,zO,yL,su=>if su<yL then (if 0≤su then (if su<(zO.length:Int) then (fH.l1 k x1 x5 0 zO yL su ((dK zO su).f0) ((dK zO su).f1) ((dK zO su).f2) ((dK zO su).f3)) else none) else none) else (if x5=(x1.length:Int) then (some (0,0,0)) else (if 0≤x5 then (if x5<(x1.length:Int) then (if ((av x1 x5).f0).toList=x6.toList then (some (x5,0,7)) else (some (x5,0,3))) else none) else none))
def fH.l1:Nat→List bn→Int→Int→List aH→Int→Int→ByteArray→Int→Int→ByteArray→Option (Int × Int × Int)
 | 0,_,_,_,_,_,_,_,_,_,_=>none
 | k+1,x1,x5,x9,zO,yL,su,MX,QF,QG,QH=>if x9<QG then (if x5<(x1.length:Int) then (if 0≤x5 then (fH.j2 k x1 x5 x9 zO yL su (((av x1 x5).f0).toList == MX.toList) MX QF QG QH) else none) else (fH.j2 k x1 x5 x9 zO yL su false MX QF QG QH)) else (fH.j2 k x1 x5 x9 zO yL su false MX QF QG QH)
def fH.j2:Nat→List bn→Int→Int→List aH→Int→Int→Bool→ByteArray→Int→Int→ByteArray→Option (Int × Int × Int)
 | 0,_,_,_,_,_,_,_,_,_,_,_=>none
 | k+1,x1,x5,x9,zO,yL,su,x46,MX,QF,QG,QH=>if x46=true then (if 0≤x5 then (if x5<(x1.length:Int) then ((fG.f k QH ((av x1 x5).f0) ((av x1 x5).f1)).bind fun an6=>(if an6≥0 then (some (x5,an6,3)) else (fH.l1 k x1 (wrap64 (x5+1)) (wrap64 (x9+1)) zO yL su MX QF QG QH))) else none) else none) else (if x9<QF then (some (x5,0,4)) else (fH.l0 k x1 x5 MX zO yL (wrap64 (su+1))))
end
def fH.f (k:Nat)(a0:Int)(l1:List bn):Option (Int × Int × Int):=(Pg.f l1).bind fun aA6=>(if aA6=true then (some (0,0,2)) else ((l9.f a0 1 7).bind fun aA7=>(if aA7=true then ((tX.f k a0).bind fun an5=>(fH.l0 k l1 0 (⟨#[]⟩:ByteArray) an5 (an5.length:Int) 0)) else (some (0,0,1)))))
def tV.l0 (k:Nat)(l1:List bN):List UInt8→Nat→Int→ByteArray→Int→Int→ByteArray→Option (Int × ByteArray × Int × Int × ByteArray)
 | [],_,f0,f1,f2,f3,f4=>some (f0,f1,f2,f3,f4)
 | c :: cs,i,f0,f1,f2,f3,f4=>if c.toNat<128 then (if i=l1.length then some (f0,f1,f2,f3,f4) else if (i:Int)<(l1.length:Int) then
   (if 0<(((aK l1 i).f0).length:Int) then
    (if c=77 then ((oz.f k (bA ByteArray.empty ((aK l1 i).f0) 0) (-1000000) 1000000000).bind fun v=>tV.l0 k l1 cs (i+1) f0 f1 f2 v.1 f4)
    else if c=84 then tV.l0 k l1 cs (i+1) f0 f1 f2 f3 (bA ByteArray.empty ((aK l1 i).f0) 0)
    else if c=73 then tV.l0 k l1 cs (i+1) f0 (bA ByteArray.empty ((aK l1 i).f0) 0) f2 f3 f4
    else if c=78 then ((oz.f k (bA ByteArray.empty ((aK l1 i).f0) 0) (-1000000) 1000000000).bind fun v=>tV.l0 k l1 cs (i+1) v.1 f1 f2 f3 f4)
    else if c=81 then ((oz.f k (bA ByteArray.empty ((aK l1 i).f0) 0) (-1000000) 1000000000).bind fun v=>tV.l0 k l1 cs (i+1) f0 f1 v.1 f3 f4)
    else none) else none) else none) else none
def tV.f (k:Nat)(a0:Int)(a1:ByteArray)(l1:List bN):Option (Int × ByteArray × Int × Int × ByteArray):=(sO.f k a0).bind fun s=>tV.l0 k l1 s.data.toList 0 0 (⟨#[]⟩:ByteArray) 0 0 (⟨#[]⟩:ByteArray)
mutual
def ik.j0:Nat→Int→List bn→Int→ByteArray→ByteArray→Int→Option (Int × ByteArray × ByteArray × Int × List ByteArray × (List aZ))
 | 0,_,_,_,_,_,_=>none
 | k+1,x0,x1,Xp,Xq,Xr,abt=>if 0<(x1.length:Int) then (if 0≤(wrap64 ((((av x1 0).f1).length:Int) - 1)) then (if (wrap64 ((((av x1 0).f1).length:Int) - 1))<(((av x1 0).f1).length:Int) then (if 0<(((aK ((av x1 0).f1) (wrap64 ((((av x1 0).f1).length:Int) - 1))).f0).length:Int) then ((oz.f k (bA ByteArray.empty ((aK ((av x1 0).f1) (wrap64 ((((av x1 0).f1).length:Int) - 1))).f0) 0) 0 100000).bind fun adc=>(if 1≤(x1.length:Int) then ((some (x1.drop 1:List bn)).bind fun aoS=>(ik.l0 k x0 aoS (aoS.length:Int) 0 Xp Xq Xr adc.1 ([]:List ByteArray) ([]:List aZ))) else none)) else none) else none) else none) else none
def ik.l0:Nat→Int→List bn→Int→Int→Int→ByteArray→ByteArray→Int→List ByteArray→List aZ→Option (Int × ByteArray × ByteArray × Int × List ByteArray × (List aZ))
 | 0,_,_,_,_,_,_,_,_,_,_=>none
 | k+1,x0,Gl,x58,CU,Xp,Xq,Xr,abt,abu,abv=>if CU<x58 then (if 0≤CU then (if CU<(Gl.length:Int) then (if ((av Gl CU).f0).toList=([78,79,84]:List UInt8) then (if 0<(((av Gl CU).f1).length:Int) then (if 0<(((aK ((av Gl CU).f1) 0).f0).length:Int) then (if abu.length<8796093022208 then (ik.l0 k x0 Gl x58 (wrap64 (CU+1)) Xp Xq Xr abt (abu++[bA ByteArray.empty ((aK ((av Gl CU).f1) 0).f0) 0]) abv) else none) else none) else none) else ((tV.f k x0 ((av Gl CU).f0) ((av Gl CU).f1)).bind fun Sa=>(if abv.length<2513169434916 then (ik.l0 k x0 Gl x58 (wrap64 (CU+1)) Xp Xq Xr abt abu (abv++[(⟨Sa.1,Sa.2.1,Sa.2.2.1,Sa.2.2.2.1,Sa.2.2.2.2⟩:aZ)])) else none))) else none) else none) else (some (Xp,Xq,Xr,abt,abu,abv))
end
def ik.f (k:Nat)(a0:Int)(l1:List bn):Option (Int × ByteArray × ByteArray × Int × List ByteArray × (List aZ)):=if 0<(l1.length:Int) then (if 0<(((av l1 0).f1).length:Int) then (if 0<(((aK ((av l1 0).f1) 0).f0).length:Int) then ((DL.f a0).bind fun aa1=>(if aa1=true then (if 1<(((av l1 0).f1).length:Int) then (if 0<(((aK ((av l1 0).f1) 1).f0).length:Int) then (ik.j0 k a0 l1 a0 (bA ByteArray.empty ((aK ((av l1 0).f1) 0).f0) 0) (bA ByteArray.empty ((aK ((av l1 0).f1) 1).f0) 0) 0) else none) else none) else (ik.j0 k a0 l1 a0 (bA ByteArray.empty ((aK ((av l1 0).f1) 0).f0) 0) (⟨#[]⟩:ByteArray) 0))) else none) else none) else none
def wU.l0:Nat→List ByteArray→List ByteArray→Int→Int→Option Bool
 | 0,_,_,_,_=>none
 | k+1,x0,x1,zN,qU=>if qU<zN then (if 0≤qU then (if qU<(x0.length:Int) then (if qU<(x1.length:Int) then (if (bA ByteArray.empty x0 qU).toList=(bA ByteArray.empty x1 qU).toList then (wU.l0 k x0 x1 zN (wrap64 (qU+1))) else (some false)) else none) else none) else none) else (some true)
def wU.f (k:Nat)(l0 l1:List ByteArray):Option Bool:=if (l0.length:Int)=(l1.length:Int) then (wU.l0 k l0 l1 (l0.length:Int) 0) else (some false)
def wy.l0:Nat→List aZ→List aZ→Int→Int→Option Bool
 | 0,_,_,_,_=>none
 | k+1,x0,x1,zN,qU=>if qU<zN then (if 0≤qU then (if qU<(x0.length:Int) then (if qU<(x1.length:Int) then (if (!(((ai x0 qU).f0) == ((ai x1 qU).f0)) || (!((((ai x0 qU).f1).toList) == (((ai x1 qU).f1).toList)) || (!(((ai x0 qU).f2) == ((ai x1 qU).f2)) || (!(((ai x0 qU).f3) == ((ai x1 qU).f3)) || (!((((ai x0 qU).f4).toList) == (((ai x1 qU).f4).toList)))))))=true then (some false) else (wy.l0 k x0 x1 zN (wrap64 (qU+1)))) else none) else none) else none) else (some true)
def wy.f (k:Nat)(l0 l1:List aZ):Option Bool:=if (l0.length:Int)=(l1.length:Int) then (wy.l0 k l0 l1 (l0.length:Int) 0) else (some false)
def Iy.f (k:Nat)(ag:Int)(aj ak:ByteArray)(aM:Int)(az:List ByteArray)(ah:List aZ)(aI:Int)(bX dA:ByteArray)(eU:Int)(iT:List ByteArray)(gV:List aZ):Option Bool:=if ag=aI then (if aj.toList=bX.toList then (if ak.toList=dA.toList then (if aM=eU then ((wU.f k az iT).bind fun aA9=>(if aA9=true then ((wy.f k ah gV).bind fun aBa=>(some aBa)) else (some false))) else (some false)) else (some false)) else (some false)) else (some false)
def DK.f (a0:Int):Option Bool:=(l9.f a0 1 4).bind fun aBb=>(some aBb)
def Ll.f (a0:Int):Option Bool:=if a0=1 then (some true) else (if a0=5 then (some true) else (some (a0 == 6)))
def Pq.f (ag:Int)(aj:ByteArray)(ak aM:Int)(oh:ByteArray)(uN:Int)(uh:ByteArray)(uO s1_3:Int)(uP:ByteArray):Option (Bool × Int × ByteArray × Int × Int × ByteArray):=some ((aj.toList == uh.toList),uN,uh,uO,s1_3,uP)
def xA.l0:Nat→List aZ→Int→Int→Int→ByteArray→Int→Int→ByteArray→Option (Int × Int × ByteArray × Int × Int × ByteArray)
 | 0,_,_,_,_,_,_,_,_=>none
 | k+1,x0,x7,x8,x2000,aos,aot,aou,aov=>if x8<x7 then (if 0≤x8 then (if x8<(x0.length:Int) then ((Pq.f ((ai x0 x8).f0) ((ai x0 x8).f1) ((ai x0 x8).f2) ((ai x0 x8).f3) ((ai x0 x8).f4) x2000 aos aot aou aov).bind fun BF=>(if BF.1=true then (some (x8,BF.2.1,BF.2.2.1,BF.2.2.2.1,BF.2.2.2.2.1,BF.2.2.2.2.2)) else (xA.l0 k x0 x7 (wrap64 (x8+1)) BF.2.1 BF.2.2.1 BF.2.2.2.1 BF.2.2.2.2.1 BF.2.2.2.2.2))) else none) else none) else (some ((-1),x2000,aos,aot,aou,aov))
def xA.f (k:Nat)(l0:List aZ)(uN:Int)(uh:ByteArray)(uO s1_3:Int)(uP:ByteArray):Option (Int × Int × ByteArray × Int × Int × ByteArray):=xA.l0 k l0 (l0.length:Int) 0 uN uh uO s1_3 uP
def Iw.f (k:Nat)(l0:List aZ)(uN:Int)(uh:ByteArray)(uO s1_3:Int)(uP:ByteArray):Option (Bool × Int × ByteArray × Int × Int × ByteArray):=(xA.f k l0 uN uh uO s1_3 uP).bind fun NY=>(some (decide (NY.1≥0),NY.2.1,NY.2.2.1,NY.2.2.2.1,NY.2.2.2.2.1,NY.2.2.2.2.2))
mutual
def jd.l0:Nat→List aZ→Int→Int→Int→ByteArray→ByteArray→Int→List ByteArray→List aZ→Option Int
 | 0,_,_,_,_,_,_,_,_,_=>none
 | k+1,x6,x7,x8,Gm,MZ,M0,M3,M4,CV=>if x8<x7 then (if 0≤x8 then (if x8<(x6.length:Int) then ((DK.f Gm).bind fun aBc=>(if aBc=true then ((l9.f ((ai x6 x8).f0) 1 999).bind fun aBd=>(if aBd=true then (if x8>0 then (if 0≤(wrap64 (x8 - 1)) then (if (wrap64 (x8 - 1))<(CV.length:Int) then (jd.j1 k x8 x6 x7 x8 (decide (((ai x6 x8).f0)≤((ai CV (wrap64 (x8 - 1))).f0))) Gm MZ M0 M3 M4 CV ((ai x6 x8).f0) ((ai x6 x8).f1) ((ai x6 x8).f2) ((ai x6 x8).f3) ((ai x6 x8).f4)) else none) else none) else (jd.j1 k x8 x6 x7 x8 false Gm MZ M0 M3 M4 CV ((ai x6 x8).f0) ((ai x6 x8).f1) ((ai x6 x8).f2) ((ai x6 x8).f3) ((ai x6 x8).f4))) else (jd.j1 k x8 x6 x7 x8 true Gm MZ M0 M3 M4 CV ((ai x6 x8).f0) ((ai x6 x8).f1) ((ai x6 x8).f2) ((ai x6 x8).f3) ((ai x6 x8).f4)))) else (jd.j1 k x8 x6 x7 x8 false Gm MZ M0 M3 M4 CV ((ai x6 x8).f0) ((ai x6 x8).f1) ((ai x6 x8).f2) ((ai x6 x8).f3) ((ai x6 x8).f4)))) else none) else none) else (some (-1))
def jd.j1:Nat→Int→List aZ→Int→Int→Bool→Int→ByteArray→ByteArray→Int→List ByteArray→List aZ→Int→ByteArray→Int→Int→ByteArray→Option Int
 | 0,_,_,_,_,_,_,_,_,_,_,_,_,_,_,_,_=>none
 | k+1,x3,x6,x7,x8,x37,Gm,MZ,M0,M3,M4,CV,aCR,aCS,aCT,aCU,aCV=>if x37=true then (some x3) else ((Ll.f Gm).bind fun aBe=>(if aBe=true then (if 0≤x3 then (if x3≤(CV.length:Int) then ((Iw.f k (CV.take (x3:Int).toNat) aCR aCS aCT aCU aCV).bind fun ade=>(if ade.1=true then (some x3) else (jd.l0 k x6 x7 (wrap64 (x8+1)) Gm MZ M0 M3 M4 CV))) else none) else none) else (jd.l0 k x6 x7 (wrap64 (x8+1)) Gm MZ M0 M3 M4 CV)))
end
def jd.f (k:Nat)(ag:Int)(aj ak:ByteArray)(aM:Int)(az:List ByteArray)(ah:List aZ):Option Int:=jd.l0 k ah (ah.length:Int) 0 ag aj ak aM az ah
def kD.j0:Nat→Bool→Int→ByteArray→ByteArray→Int→List ByteArray→List aZ→Option Bool
 | 0,_,_,_,_,_,_,_=>none
 | k+1,x19,Xv,agZ,ag0,ag1,ag2,ag3=>if x19=true then (some false) else ((gZ.f k Xv agZ ag0 ag1 ag2 ag3).bind fun an7=>((fH.f k Xv an7).bind fun att=>(if att.2.2=0 then ((ik.f k Xv an7).bind fun NZ=>((Iy.f k NZ.1 NZ.2.1 NZ.2.2.1 NZ.2.2.2.1 NZ.2.2.2.2.1 NZ.2.2.2.2.2 Xv agZ ag0 ag1 ag2 ag3).bind fun aBg=>(if aBg=true then ((jd.f k Xv agZ ag0 ag1 ag2 ag3).bind fun aBh=>(some (decide (aBh<0)))) else (some false)))) else (some false))))
def kD.f (k:Nat)(ag:Int)(aj ak:ByteArray)(aM:Int)(az:List ByteArray)(ah:List aZ):Option Bool:=(l9.f ag 1 7).bind fun aBf=>(if aBf=true then (if (az.length:Int)>2 then (kD.j0 k true ag aj ak aM az ah) else (kD.j0 k (decide ((ah.length:Int)>20)) ag aj ak aM az ah)) else (kD.j0 k true ag aj ak aM az ah))
def Pf.f (k:Nat)(ag:Int)(aj ak:ByteArray)(aM:Int)(az:List ByteArray)(ah:List aZ):Option Bool:=(kD.f k ag aj ak aM az ah).bind fun aBi=>(some (!aBi))
def xC.l0:Nat→List eT→Int→Int→Option Int
 | 0,_,_,_=>none
 | k+1,x0,x7,x8=>if x8<x7 then (if 0≤x8 then (if x8<(x0.length:Int) then ((Pf.f k ((aG x0 x8).f0) ((aG x0 x8).f1) ((aG x0 x8).f2) ((aG x0 x8).f3) ((aG x0 x8).f4) ((aG x0 x8).f5)).bind fun aBj=>(if aBj=true then (some x8) else (xC.l0 k x0 x7 (wrap64 (x8+1))))) else none) else none) else (some (-1))
def xC.f (k:Nat)(l0:List eT)  : Option Int:=xC.l0 k l0 (l0.length:Int) 0
def Pe.f (k:Nat)(l0:List eT)  : Option Bool:=(xC.f k l0).bind fun aBk=>(some (decide (aBk≥0)))
def jm.l1 (k:Nat)(p:eT)(i:Int)(l:List dR):Option (List dR):=if 0<l.length∧(bf l ((l.length:Int) - 1)).f2.length+1<4398046511104 then (gZ.f k p.f0 p.f1 p.f2 p.f3 p.f4 p.f5).bind fun b=>some (l.set (l.length - 1) ⟨(bf l ((l.length:Int) - 1)).f0,(bf l ((l.length:Int) - 1)).f1,(bf l ((l.length:Int) - 1)).f2++[(⟨wrap64 (i+1),b⟩:iG)]⟩) else none
def jm.l2 (k:Nat)(p:eT)(i:Int)(l:List dR):Option (List dR):=jm.l1 k p i (l++[(⟨p.f0,wrap64 ((l.length:Int)+1),[]⟩:dR)])
def jm.l0:Nat→List eT→Int→List dR→Option (List dR)
 | 0,_,_,_=>none
 | k+1,p,i,l=>if i<(p.length:Int) then (if 0≤i then (if l.length+1<3518437208883 then (if i=0 then jm.l2 k (aG p i) i l else if 0≤wrap64 (i - 1) then (if wrap64 (i - 1)<(p.length:Int) then (if (aG p i).f0=(aG p (wrap64 (i - 1))).f0 then jm.l1 k (aG p i) i l else jm.l2 k (aG p i) i l) else none) else none).bind fun c=>jm.l0 k p (wrap64 (i+1)) c else none) else none) else some l
def jm.f (k:Nat)(ag aj:ByteArray)(ak:Int)(au:List eT):Option (ByteArray × ByteArray × Int × List dR):=(jm.l0 k au 0 []).bind fun l=>some (ag,aj,ak,l)
def Cu.f (a0:Int):Option Bool:=(l9.f a0 1 999999).bind fun aBl=>(some aBl)
def Ph.f (k:Nat)(a0:ByteArray):Option Bool:=(FL.f k a0).bind fun aBm=>(some (!aBm))
def yG.l0:Nat→List ByteArray→Int→Int→Option Int
 | 0,_,_,_=>none
 | k+1,x0,x7,x8=>if x8<x7 then (if 0≤x8 then (if x8<(x0.length:Int) then ((Ph.f k (bA ByteArray.empty x0 x8)).bind fun aBn=>(if aBn=true then (some x8) else (yG.l0 k x0 x7 (wrap64 (x8+1))))) else none) else none) else (some (-1))
def yG.f (k:Nat)(l0:List ByteArray)  : Option Int:=yG.l0 k l0 (l0.length:Int) 0
def L8.f (k:Nat)(l0:List ByteArray)  : Option Bool:=(yG.f k l0).bind fun aBo=>(some (decide (aBo≥0)))
def Lf.f (a0:ByteArray):Option Bool:=if (a0.size:Int)=3 then (if 0<(a0.size:Int) then ((zA.f (bt a0 0)).bind fun aBp=>(if aBp=true then (if 1<(a0.size:Int) then ((zA.f (bt a0 1)).bind fun aBq=>(if aBq=true then (if 2<(a0.size:Int) then ((zA.f (bt a0 2)).bind fun aBr=>(some aBr)) else none) else (some false))) else none) else (some false))) else none) else (some false)
mutual
def nQ.l0:Nat→List bN→Int→Int→ByteArray→List bN→Option Bool
 | 0,_,_,_,_,_=>none
 | k+1,x7,x8,x9,QK,M5=>if x9<x8 then (if 0≤x9 then (if x9<(x7.length:Int) then ((l9.f (((aK x7 x9).f0).length:Int) 1 4).bind fun aBt=>(if aBt=true then ((L8.f k ((aK x7 x9).f0)).bind fun aBu=>(nQ.j1 k x9 (((aK x7 x9).f0).length:Int) x7 x8 x9 aBu QK M5 ((aK x7 x9).f0))) else (nQ.j1 k x9 (((aK x7 x9).f0).length:Int) x7 x8 x9 true QK M5 ((aK x7 x9).f0)))) else none) else none) else ((Lf.f QK).bind fun aBs=>(if aBs=true then (some (decide ((M5.length:Int)≤10))) else (some false)))
def nQ.j1:Nat→Int→Int→List bN→Int→Int→Bool→ByteArray→List bN→List ByteArray→Option Bool
 | 0,_,_,_,_,_,_,_,_,_=>none
 | k+1,x3,x5,x7,x8,x9,x24,QK,M5,aoE=>if x24=true then (some false) else (if 0≤(wrap64 (x5 - 1)) then (if (wrap64 (x5 - 1))<(aoE.length:Int) then (if (bA ByteArray.empty aoE (wrap64 (x5 - 1))).toList=([]:List UInt8) then (if x5>1 then (some false) else (if x3=(wrap64 ((M5.length:Int) - 1)) then (some false) else (nQ.l0 k x7 x8 (wrap64 (x9+1)) QK M5))) else (nQ.l0 k x7 x8 (wrap64 (x9+1)) QK M5)) else none) else none)
end
def nQ.f (k:Nat)(ag:ByteArray)(aN:List bN):Option Bool:=nQ.l0 k aN (aN.length:Int) 0 ag aN
def Pp.f  : Option (List ByteArray):=some (([(⟨#[73,88,72]⟩:ByteArray),(⟨#[71,82,72]⟩:ByteArray),(⟨#[77,83,72]⟩:ByteArray),(⟨#[77,83,84]⟩:ByteArray),(⟨#[71,82,84]⟩:ByteArray),(⟨#[73,88,84]⟩:ByteArray)]:List ByteArray))
def xL.l0:Nat→List ByteArray→ByteArray→Int→Int→Option Int
 | 0,_,_,_,_=>none
 | k+1,x0,x1,x7,x8=>if x8<x7 then (if 0≤x8 then (if x8<(x0.length:Int) then (if x1.toList=(bA ByteArray.empty x0 x8).toList then (some x8) else (xL.l0 k x0 x1 x7 (wrap64 (x8+1)))) else none) else none) else (some (-1))
def xL.f (k:Nat)(l0:List ByteArray)(a1:ByteArray):Option Int:=xL.l0 k l0 a1 (l0.length:Int) 0
def L9.f (k:Nat)(l0:List ByteArray)(a1:ByteArray):Option Bool:=(xL.f k l0 a1).bind fun aBv=>(some (decide (aBv≥0)))
def uH.f (k:Nat)(ag:ByteArray)(aN:List bN):Option Bool:=(nQ.f k ag aN).bind fun aBw=>(if aBw=true then ((Pp.f).bind fun aBx=>((L9.f k aBx ag).bind fun aBy=>(some (!aBy)))) else (some false))
def Po.f (k:Nat)(ag:ByteArray)(aN:List bN):Option Bool:=(uH.f k ag aN).bind fun aBz=>(some (!aBz))
def xD.l0:Nat→List bn→Int→Int→Option Int
 | 0,_,_,_=>none
 | k+1,x0,x7,x8=>if x8<x7 then (if 0≤x8 then (if x8<(x0.length:Int) then ((Po.f k ((av x0 x8).f0) ((av x0 x8).f1)).bind fun aBA=>(if aBA=true then (some x8) else (xD.l0 k x0 x7 (wrap64 (x8+1))))) else none) else none) else (some (-1))
def xD.f (k:Nat)(l0:List bn)  : Option Int:=xD.l0 k l0 (l0.length:Int) 0
def Pi.f (k:Nat)(l0:List bn)  : Option Bool:=(xD.f k l0).bind fun aBB=>(some (decide (aBB≥0)))
def Lj.f (k:Nat)(ag:Int)(aN:List bn):Option Bool:=(Cu.f ag).bind fun aBC=>(if aBC=true then (if (aN.length:Int)≤40 then ((Pi.f k aN).bind fun aBD=>(some (!aBD))) else (some false)) else (some false))
def Pj.f (k:Nat)(ag:Int)(aN:List bn):Option Bool:=(Lj.f k ag aN).bind fun aBE=>(some (!aBE))
def xB.l0:Nat→List iG→Int→Int→Option Int
 | 0,_,_,_=>none
 | k+1,x0,x7,x8=>if x8<x7 then (if 0≤x8 then (if x8<(x0.length:Int) then ((Pj.f k ((fJ x0 x8).f0) ((fJ x0 x8).f1)).bind fun aBF=>(if aBF=true then (some x8) else (xB.l0 k x0 x7 (wrap64 (x8+1))))) else none) else none) else (some (-1))
def xB.f (k:Nat)(l0:List iG)  : Option Int:=xB.l0 k l0 (l0.length:Int) 0
def Pd.f (k:Nat)(l0:List iG)  : Option Bool:=(xB.f k l0).bind fun aBG=>(some (decide (aBG≥0)))
def Le.f (k:Nat)(ag aj:Int)(lI:List iG):Option Bool:=(l9.f ag 1 7).bind fun aBH=>(if aBH=true then ((Cu.f aj).bind fun aBI=>(if aBI=true then ((l9.f (lI.length:Int) 1 10).bind fun aBJ=>(if aBJ=true then ((Pd.f k lI).bind fun aBK=>(some (!aBK))) else (some false))) else (some false))) else (some false))
def Pb.f (k:Nat)(ag aj:Int)(lI:List iG):Option Bool:=(Le.f k ag aj lI).bind fun aBL=>(some (!aBL))
def xz.l0:Nat→List dR→Int→Int→Option Int
 | 0,_,_,_=>none
 | k+1,x0,x7,x8=>if x8<x7 then (if 0≤x8 then (if x8<(x0.length:Int) then ((Pb.f k ((bf x0 x8).f0) ((bf x0 x8).f1) ((bf x0 x8).f2)).bind fun aBM=>(if aBM=true then (some x8) else (xz.l0 k x0 x7 (wrap64 (x8+1))))) else none) else none) else (some (-1))
def xz.f (k:Nat)(l0:List dR)  : Option Int:=xz.l0 k l0 (l0.length:Int) 0
def Lc.f (k:Nat)(l0:List dR)  : Option Bool:=(xz.f k l0).bind fun aBN=>(some (decide (aBN≥0)))
def Ld.f (k:Nat)(ag aj:ByteArray)(ak:Int)(au:List dR):Option Bool:=(qP.f k ag).bind fun aBO=>(if aBO=true then ((qP.f k aj).bind fun aBP=>(if aBP=true then ((Cu.f ak).bind fun aBQ=>(if aBQ=true then ((l9.f (au.length:Int) 1 5).bind fun aBR=>(if aBR=true then ((Lc.f k au).bind fun aBS=>(some (!aBS))) else (some false))) else (some false))) else (some false))) else (some false))
def wz.j0:Nat→Bool→ByteArray→ByteArray→Int→List eT→Option Bool
 | 0,_,_,_,_,_=>none
 | k+1,x11,aCW,aCX,aCY,aCZ=>if x11=true then (some false) else ((jm.f k aCW aCX aCY aCZ).bind fun Y2=>((Ld.f k Y2.1 Y2.2.1 Y2.2.2.1 Y2.2.2.2).bind fun aBU=>(some aBU)))
def wz.f (k:Nat)(ag aj:ByteArray)(ak:Int)(au:List eT):Option Bool:=if (au.length:Int)>50 then (wz.j0 k true ag aj ak au) else ((Pe.f k au).bind fun aBT=>(wz.j0 k aBT ag aj ak au))
def FI.f (k:Nat)(ag aj:ByteArray)(ak:Int)(au:List eT):Option (ByteArray × ByteArray × Int × (List dR)):=(wz.f k ag aj ak au).bind fun aBV=>(if aBV=true then ((jm.f k ag aj ak au).bind fun Y3=>(some (Y3.1,Y3.2.1,Y3.2.2.1,Y3.2.2.2))) else (some ((⟨#[]⟩:ByteArray),(⟨#[]⟩:ByteArray),0,([]:List dR))))
def uJ.l0:Nat→List ByteArray→List ByteArray→Int→Option Bool
 | 0,_,_,_=>none
 | k+1,x0,x1,x5=>if x5<(x0.length:Int) then (if 0≤x5 then (if x5<(x1.length:Int) then (if (bA ByteArray.empty x0 x5).toList=(bA ByteArray.empty x1 x5).toList then (uJ.l0 k x0 x1 (wrap64 (x5+1))) else (some false)) else none) else none) else (some true)
def uJ.f (k:Nat)(l0 l1:List ByteArray):Option Bool:=if (l0.length:Int)=(l1.length:Int) then (uJ.l0 k l0 l1 0) else (some false)
def Lu.f (k:Nat)(pY mE:List ByteArray):Option Bool:=(uJ.f k pY mE).bind fun aBW=>(if aBW=true then (some true) else (some false))
def nR.l0:Nat→List bN→List bN→Int→Option Bool
 | 0,_,_,_=>none
 | k+1,x0,x1,x5=>if x5<(x0.length:Int) then (if 0≤x5 then (if x5<(x1.length:Int) then ((Lu.f k ((aK x0 x5).f0) ((aK x1 x5).f0)).bind fun aBX=>(if aBX=true then (nR.l0 k x0 x1 (wrap64 (x5+1))) else (some false))) else none) else none) else (some true)
def nR.f (k:Nat)(l0 l1:List bN):Option Bool:=if (l0.length:Int)=(l1.length:Int) then (nR.l0 k l0 l1 0) else (some false)
def IG.f (k:Nat)(ag:ByteArray)(aN:List bN)(aI:ByteArray)(aT:List bN):Option Bool:=if ag.toList=aI.toList then ((nR.f k aN aT).bind fun aBY=>(if aBY=true then (some true) else (some false))) else (some false)
def nU.l0:Nat→List bn→List bn→Int→Option Bool
 | 0,_,_,_=>none
 | k+1,x0,x1,x5=>if x5<(x0.length:Int) then (if 0≤x5 then (if x5<(x1.length:Int) then ((IG.f k ((av x0 x5).f0) ((av x0 x5).f1) ((av x1 x5).f0) ((av x1 x5).f1)).bind fun aBZ=>(if aBZ=true then (nU.l0 k x0 x1 (wrap64 (x5+1))) else (some false))) else none) else none) else (some true)
def nU.f (k:Nat)(l0 l1:List bn):Option Bool:=if (l0.length:Int)=(l1.length:Int) then (nU.l0 k l0 l1 0) else (some false)
def Lx.f (k:Nat)(ag:Int)(aN:List bn)(aI:Int)(aT:List bn):Option Bool:=if ag=aI then ((nU.f k aN aT).bind fun aB0=>(if aB0=true then (some true) else (some false))) else (some false)
def nS.l0:Nat→List iG→List iG→Int→Option Bool
 | 0,_,_,_=>none
 | k+1,x0,x1,x5=>if x5<(x0.length:Int) then (if 0≤x5 then (if x5<(x1.length:Int) then ((Lx.f k ((fJ x0 x5).f0) ((fJ x0 x5).f1) ((fJ x1 x5).f0) ((fJ x1 x5).f1)).bind fun aB1=>(if aB1=true then (nS.l0 k x0 x1 (wrap64 (x5+1))) else (some false))) else none) else none) else (some true)
def nS.f (k:Nat)(l0 l1:List iG):Option Bool:=if (l0.length:Int)=(l1.length:Int) then (nS.l0 k l0 l1 0) else (some false)
def Lt.f (k:Nat)(ag aj:Int)(lI:List iG)(aI bX:Int)(Cw:List iG):Option Bool:=if ag=aI then (if aj=bX then ((nS.f k lI Cw).bind fun aB2=>(if aB2=true then (some true) else (some false))) else (some false)) else (some false)
def oD.l0:Nat→List dR→List dR→Int→Option Bool
 | 0,_,_,_=>none
 | k+1,x0,x1,x5=>if x5<(x0.length:Int) then (if 0≤x5 then (if x5<(x1.length:Int) then ((Lt.f k ((bf x0 x5).f0) ((bf x0 x5).f1) ((bf x0 x5).f2) ((bf x1 x5).f0) ((bf x1 x5).f1) ((bf x1 x5).f2)).bind fun aB3=>(if aB3=true then (oD.l0 k x0 x1 (wrap64 (x5+1))) else (some false))) else none) else none) else (some true)
def oD.f (k:Nat)(l0 l1:List dR):Option Bool:=if (l0.length:Int)=(l1.length:Int) then (oD.l0 k l0 l1 0) else (some false)
def Cx.f (k:Nat)(ag aj:ByteArray)(ak:Int)(au:List dR)(aI bX:ByteArray)(dA:Int)(oQ:List dR):Option Bool:=if ag.toList=aI.toList then (if aj.toList=bX.toList then (if ak=dA then ((oD.f k au oQ).bind fun aB4=>(if aB4=true then (some true) else (some false))) else (some false)) else (some false)) else (some false)
def Lv.f (ag:Int)(aj:ByteArray)(ak aM:Int)(oh:ByteArray)(aI:Int)(bX:ByteArray)(dA eU:Int)(ru:ByteArray):Option Bool:=if ag=aI then (if aj.toList=bX.toList then (if ak=dA then (if aM=eU then (if oh.toList=ru.toList then (some true) else none) else none) else none) else none) else none
def wE.l0:Nat→List aZ→List aZ→Int→Option Bool
 | 0,_,_,_=>none
 | k+1,x0,x1,x5=>if x5<(x0.length:Int) then (if 0≤x5 then (if x5<(x1.length:Int) then ((Lv.f ((ai x0 x5).f0) ((ai x0 x5).f1) ((ai x0 x5).f2) ((ai x0 x5).f3) ((ai x0 x5).f4) ((ai x1 x5).f0) ((ai x1 x5).f1) ((ai x1 x5).f2) ((ai x1 x5).f3) ((ai x1 x5).f4)).bind fun t=>(if t=true then (wE.l0 k x0 x1 (wrap64 (x5+1))) else none)) else none) else none) else (some true)
def wE.f (k:Nat)(l0 l1:List aZ):Option Bool:=if (l0.length:Int)=(l1.length:Int) then (wE.l0 k l0 l1 0) else none
def IE.f (k:Nat)(ag:Int)(aj ak:ByteArray)(aM:Int)(az:List ByteArray)(ah:List aZ)(aI:Int)(bX dA:ByteArray)(eU:Int)(iT:List ByteArray)(gV:List aZ):Option Bool:=if ag=aI then (if aj.toList=bX.toList then (if ak.toList=dA.toList then (if aM=eU then ((uJ.f k az iT).bind fun aB5=>(if aB5=true then ((wE.f k ah gV).bind fun aB6=>(if aB6=true then (some true) else (some false))) else (some false))) else (some false)) else (some false)) else (some false)) else (some false)
def nT.l0:Nat→List eT→List eT→Int→Option Bool
 | 0,_,_,_=>none
 | k+1,x0,x1,x5=>if x5<(x0.length:Int) then (if 0≤x5 then (if x5<(x1.length:Int) then ((IE.f k ((aG x0 x5).f0) ((aG x0 x5).f1) ((aG x0 x5).f2) ((aG x0 x5).f3) ((aG x0 x5).f4) ((aG x0 x5).f5) ((aG x1 x5).f0) ((aG x1 x5).f1) ((aG x1 x5).f2) ((aG x1 x5).f3) ((aG x1 x5).f4) ((aG x1 x5).f5)).bind fun aB7=>(if aB7=true then (nT.l0 k x0 x1 (wrap64 (x5+1))) else (some false))) else none) else none) else (some true)
def nT.f (k:Nat)(l0 l1:List eT):Option Bool:=if (l0.length:Int)=(l1.length:Int) then (nT.l0 k l0 l1 0) else (some false)
def LA.f (k:Nat)(ag aj:ByteArray)(ak:Int)(au:List eT)(aI bX:ByteArray)(dA:Int)(oQ:List eT):Option Bool:=if ag.toList=aI.toList then (if aj.toList=bX.toList then (if ak=dA then ((nT.f k au oQ).bind fun aB8=>(if aB8=true then (some true) else (some false))) else (some false)) else (some false)) else (some false)
def lu.l0:Nat→Int→ByteArray→Option ByteArray
 | 0,_,_=>none
 | k+1,x0,x3=>if x0>0 then ((some (([(wrap64 (48+(Int.tmod x0 10))) % 256]:List Int):List Int)).bind fun aoT=>(if (strOfNums aoT).size+x3.size≤9223372036854775807 then (lu.l0 k (wrap64 (Int.tdiv x0 10)) ((strOfNums aoT)++x3)) else none)) else (if 1+x3.size≤9223372036854775807 then (some ((⟨#[109]⟩:ByteArray)++x3)) else none)
def lu.f (k:Nat)(a0:Int):Option ByteArray:=if a0≤0 then (some (⟨#[109,48]⟩:ByteArray)) else (lu.l0 k a0 (⟨#[]⟩:ByteArray))
def tY.l0:Nat→List ByteArray→Int→Int→Option (Int × List ByteArray)
 | 0,_,_,_=>none
 | k+1,x0,x1,x5=>if x5<(x0.length:Int) then ((lu.f k x1).bind fun aB9=>(if 0≤x5 then (tY.l0 k (x0.set (x5:Int).toNat aB9) (wrap64 (x1+1)) (wrap64 (x5+1))) else none)) else (some (x1,x0))
def tY.f (k:Nat)(l0:List ByteArray)(a1:Int):Option (Int × List ByteArray):=tY.l0 k l0 a1 0
def wK.l0:Nat→List aZ→Int→Int→Option (Int × List aZ)
 | 0,_,_,_=>none
 | k+1,l,s,i=>if i<(l.length:Int) then if 0≤i then (lu.f k (wrap64 (s+1))).bind fun t1=>(lu.f k (wrap64 ((wrap64 ((wrap64 ((wrap64 (s+1))+1))+1))+1))).bind fun t4=>wK.l0 k (l.set i.toNat ⟨s,t1,wrap64 ((wrap64 (s+1))+1),wrap64 ((wrap64 ((wrap64 (s+1))+1))+1),t4⟩) (wrap64 ((wrap64 ((wrap64 ((wrap64 ((wrap64 (s+1))+1))+1))+1))+1)) (wrap64 (i+1)) else none else some (s,l)
def wK.f (k:Nat)(l0:List aZ)(a1:Int):Option (Int × List aZ):=wK.l0 k l0 a1 0
def vJ.l0:Nat→List eT→Int→Int→Option (Int × List eT)
 | 0,_,_,_=>none
 | k+1,l,s,i=>if i<(l.length:Int) then (if 0≤i then (lu.f k (wrap64 (s+1))).bind fun t1=>(lu.f k (wrap64 ((wrap64 (s+1))+1))).bind fun t2=>(tY.f k (aG l i).f4 (wrap64 ((wrap64 ((wrap64 ((wrap64 (s+1))+1))+1))+1))).bind fun r0=>(wK.f k (aG l i).f5 r0.1).bind fun r1=>vJ.l0 k (l.set i.toNat ⟨s,t1,t2,wrap64 ((wrap64 ((wrap64 (s+1))+1))+1),r0.2,r1.2⟩) r1.1 (wrap64 (i+1)) else none) else some (s,l)
def vJ.f (k:Nat)(l0:List eT)(a1:Int):Option (Int × List eT):=vJ.l0 k l0 a1 0
def wJ.l0:Nat→List bN→Int→Int→Option (Int × List bN)
 | 0,_,_,_=>none
 | k+1,l,s,i=>if i<(l.length:Int) then if 0≤i then (tY.f k (aK l i).f0 s).bind fun r=>wJ.l0 k (l.set i.toNat ⟨r.2⟩) r.1 (wrap64 (i+1)) else none else some (s,l)
def wJ.f (k:Nat)(l0:List bN)(a1:Int):Option (Int × List bN):=wJ.l0 k l0 a1 0
def wM.l0:Nat→List bn→Int→Int→Option (Int × List bn)
 | 0,_,_,_=>none
 | k+1,l,s,i=>if i<(l.length:Int) then (lu.f k s).bind fun t0=>if 0≤i then (wJ.f k (av l i).f1 (wrap64 (s+1))).bind fun r=>wM.l0 k (l.set i.toNat ⟨t0,r.2⟩) r.1 (wrap64 (i+1)) else none else some (s,l)
def wM.f (k:Nat)(l0:List bn)(a1:Int):Option (Int × List bn):=wM.l0 k l0 a1 0
def wL.l0:Nat→List iG→Int→Int→Option (Int × List iG)
 | 0,_,_,_=>none
 | k+1,l,s,i=>if i<(l.length:Int) then (if 0≤i then (wM.f k (fJ l i).f1 (wrap64 (s+1))).bind fun r0=>wL.l0 k (l.set i.toNat ⟨s,r0.2⟩) r0.1 (wrap64 (i+1)) else none) else some (s,l)
def wL.f (k:Nat)(l0:List iG)(a1:Int):Option (Int × List iG):=wL.l0 k l0 a1 0
def vI.l0:Nat→List dR→Int→Int→Option (Int × List dR)
 | 0,_,_,_=>none
 | k+1,l,s,i=>if i<(l.length:Int) then (if 0≤i then (wL.f k (bf l i).f2 (wrap64 ((wrap64 (s+1))+1))).bind fun r0=>vI.l0 k (l.set i.toNat ⟨s,wrap64 (s+1),r0.2⟩) r0.1 (wrap64 (i+1)) else none) else some (s,l)
def vI.f (k:Nat)(l0:List dR)(a1:Int):Option (Int × List dR):=vI.l0 k l0 a1 0
def wI.l0:Nat→List ByteArray→Int→Int→Option Int
 | 0,_,_,_=>none
 | k+1,x0,x1,x5=>if x5<(x0.length:Int) then (if 0≤x5 then ((lu.f k x1).bind fun aCa=>(if (bA ByteArray.empty x0 x5).toList=aCa.toList then (wI.l0 k x0 (wrap64 (x1+1)) (wrap64 (x5+1))) else (some (-1)))) else none) else (some x1)
def wI.f (k:Nat)(l0:List ByteArray)(a1:Int):Option Int:=wI.l0 k l0 a1 0
def wG.l0:Nat→List bN→Int→Int→Option Int
 | 0,_,_,_=>none
 | k+1,x0,x1,x5=>if x5<(x0.length:Int) then (if 0≤x5 then ((wI.f k ((aK x0 x5).f0) x1).bind fun an8=>(if an8<0 then (some (-1)) else (wG.l0 k x0 an8 (wrap64 (x5+1))))) else none) else (some x1)
def wG.f (k:Nat)(l0:List bN)(a1:Int):Option Int:=wG.l0 k l0 a1 0
def nV.l0:Nat→List bn→Int→Int→Option Int
 | 0,_,_,_=>none
 | k+1,x0,x1,x5=>if x5<(x0.length:Int) then (if 0≤x5 then ((lu.f k x1).bind fun aCb=>(if ((av x0 x5).f0).toList=aCb.toList then ((wG.f k ((av x0 x5).f1) (wrap64 (x1+1))).bind fun an9=>(if an9<0 then (some (-1)) else (nV.l0 k x0 an9 (wrap64 (x5+1))))) else (some (-1)))) else none) else (some x1)
def nV.f (k:Nat)(l0:List bn)(a1:Int):Option Int:=nV.l0 k l0 a1 0
def wH.l0:Nat→List iG→Int→Int→Option Int
 | 0,_,_,_=>none
 | k+1,x0,x1,x5=>if x5<(x0.length:Int) then (if 0≤x5 then (if ((fJ x0 x5).f0)=x1 then ((nV.f k ((fJ x0 x5).f1) (wrap64 (x1+1))).bind fun aoa=>(if aoa<0 then (some (-1)) else (wH.l0 k x0 aoa (wrap64 (x5+1))))) else (some (-1))) else none) else (some x1)
def wH.f (k:Nat)(l0:List iG)(a1:Int):Option Int:=wH.l0 k l0 a1 0
def wF.l0:Nat→List dR→Int→Int→Option Int
 | 0,_,_,_=>none
 | k+1,x0,x1,x5=>if x5<(x0.length:Int) then (if 0≤x5 then (if ((bf x0 x5).f0)=x1 then (if ((bf x0 x5).f1)=(wrap64 (x1+1)) then ((wH.f k ((bf x0 x5).f2) (wrap64 ((wrap64 (x1+1))+1))).bind fun aob=>(if aob<0 then (some (-1)) else (wF.l0 k x0 aob (wrap64 (x5+1))))) else (some (-1))) else (some (-1))) else none) else (some x1)
def wF.f (k:Nat)(l0:List dR)(a1:Int):Option Int:=wF.l0 k l0 a1 0
def FP.f (k:Nat)(ag aj:ByteArray)(ak:Int)(au:List dR)(a1:Int):Option Int:=(wF.f k au a1).bind fun aoc=>(if aoc<0 then (some (-1)) else (some aoc))
def IC.f (k:Nat)(ag aj:ByteArray)(ak:Int)(au:List mK):Option Bool :=
 (LD.f k ag aj ak au 1048576).bind fun t=>if t<0 then some true else
 (zF.f k ag aj ak au).bind fun a =>
 (Ma.f k a.1 a.2.1 a.2.2.1 a.2.2.2).bind fun b =>
 (zF.f k ag aj ak au).bind fun x =>
 (FI.f k x.1 x.2.1 x.2.2.1 x.2.2.2).bind fun g =>
 (Cx.f k g.1 g.2.1 g.2.2.1 g.2.2.2 b.1 b.2.1 b.2.2.1 b.2.2.2).bind fun e1=>if e1=true then
 (zF.f k ag aj ak au).bind fun y =>
 (LA.f k x.1 x.2.1 x.2.2.1 x.2.2.2 y.1 y.2.1 y.2.2.1 y.2.2.2).bind fun e2=>if e2=true then
 (vJ.f k x.2.2.2 1).bind fun m0=>if m0.1<0 then none else
 (Cx.f k g.1 g.2.1 g.2.2.1 g.2.2.2 b.1 b.2.1 b.2.2.1 b.2.2.2).bind fun e3=>if e3=true then
 (vI.f k g.2.2.2 1).bind fun m =>
 (FP.f k g.1 g.2.1 g.2.2.1 m.2 1).bind fun q=>if q<0 then none else if q=m.1 then
 (zF.f k ag aj ak au).bind fun z =>
 (FI.f k z.1 z.2.1 z.2.2.1 z.2.2.2).bind fun h =>
 (Cx.f k h.1 h.2.1 h.2.2.1 h.2.2.2 b.1 b.2.1 b.2.2.1 b.2.2.2).bind fun e4=>if e4=true then
 (FP.f k g.1 g.2.1 g.2.2.1 m.2 1).bind fun q2=>if q2<0 then none else if q2=m.1 then some true else none
 else none
 else none
 else none
 else none
 else none
theorem wP.calls (k:Nat)(A0:Option Addr)(c0:Nat)(l0:List ByteArray)(a1 r:Int)(w:World)(hr0:Kd.C Kd.string w A0 l0.length l0)(hc0:l0.length≤c0)(H:wP.f k l0 a1=some r) :
  Calls Tryz.prog 59 #[.slice A0 l0.length c0,.int .i64 a1] w fun e w'=>e=.returned (.int .i64 r)∧aW w w':=by
 have bG:=am hr0;have jC:=am hc0;clear hr0 hc0;unfold wP.f at H
 revert H;refine bK ?_ ?_
 ·intro aY H;obtain rfl:=si H
  go_in
  go_wp2
  go_ret
  exact ⟨fg,dr⟩
 ·intro aY H;have H':=am H;clear H
  go_in
  go_wp2
  go_loopg [1,5] k (fun kq v1 v5 w'=>∃ (iP:Int) (ax:Int),v1=.int .i64 iP∧v5=.int .i64 ax∧af (wP.l0 kq l0 iP ax=some r)∧af (kq≤k)∧aW w w')
  case atStart=>exact ⟨(wrap64 (a1 - (l0.length:Int))),(0),fg,fg,H',⟨Nat.le_refl _⟩,by repeat (first|exact aW.refl _|apply aW.step)⟩
  case round =>
   clear H'
   try clear aY
   obtain ⟨iP,ax,rfl,rfl,HA,aQ,⟨m1,rfl⟩⟩:=hrel
   cases gk with
   | zero=>exact absurd HA.o (by simp [wP.l0])
   | succ k1 =>
    have H:=HA.o;clear HA;simp only [wP.l0] at H
    revert H;refine bK ?_ ?_
    ·intro dF H
     revert H;refine bv ?_
     intro ja H
     revert H;refine bK ?_ ?_
     ·intro gu H;obtain rfl:=si H;obtain ⟨p7,q7,RY,e7,VY⟩:=wi (Kd.jw bG.o ax)
      cases e7
      go_wp2
      go_ret
      exact ⟨fg,dr⟩
     ·intro gu H;have H':=am H;clear H;obtain ⟨p7,q7,RY,e7,VY⟩:=wi (Kd.jw bG.o ax)
      cases e7
      go_wp2
      go_roundg k1
      case measure=>have:=aQ.o;omega
      case rel=>exact ⟨(wrap64 (iP - ((bA ByteArray.empty l0 ax).size:Int))),(wrap64 (ax+1)),fg,fg,H',⟨by have:=aQ.o;omega⟩,by repeat (first|exact aW.refl _|apply aW.step)⟩
    ·intro dF H;obtain rfl:=si H
     go_wp2
     go_ret
     exact ⟨fg,dr⟩
theorem LB.calls (ag:Int)(aj:ByteArray)(ak aM:Int)(oh:ByteArray)(a1 r:Int)(w:World)(H:LB.f ag aj ak aM oh a1=some r) :
  Calls Tryz.prog 104 #[.agg #[.int .i64 ag,.string aj,.int .i64 ak,.int .i64 aM,.string oh],.int .i64 a1] w fun e w'=>e=.returned (.int .i64 r)∧Below w.heap.size w w':=by
 have ams:=Tryz.underlying127;have HB:=am (Below.refl w.heap.size w);unfold LB.f at H
 revert H;refine bK ?_ ?_
 ·intro aY H;obtain rfl:=si H
  go_in
  go_wp2_with (first|((with_reducible refine aJ (N:=2) rfl ?_);refine bz 2 (cs:=#[.int .i64 ag,.string aj,.int .i64 ak,.int .i64 aM,.string oh]) (t:=127) HB ?_;clear HB;intro KG hg w4 jD Jz hb HB;clear hb hg;have BQ:=kW jD))
  go_ret
  exact ⟨ff,bs HB⟩
 ·intro aY H
  revert H;refine bK ?_ ?_
  ·intro gu H;obtain rfl:=si H
   go_in
   go_wp2_with (first|((with_reducible refine aJ (N:=2) rfl ?_);refine bz 2 (cs:=#[.int .i64 ag,.string aj,.int .i64 ak,.int .i64 aM,.string oh]) (t:=127) HB ?_;clear HB;intro KG hg w7 jD Jz hb HB;clear hb hg;have BU:=kW jD))
   go_ret
   exact ⟨ff,bs HB⟩
  ·intro gu H;obtain rfl:=si H
   go_in
   go_wp2_with (first|((with_reducible refine aJ (N:=2) rfl ?_);refine bz 2 (cs:=#[.int .i64 ag,.string aj,.int .i64 ak,.int .i64 aM,.string oh]) (t:=127) HB ?_;clear HB;intro KG hg w9 jD Jz hb HB;clear hb hg;have zo:=kW jD))
   go_ret
   exact ⟨ff,bs HB⟩
theorem wN.calls (k:Nat)(A0:Option Addr)(c0:Nat)(l0:List mJ)(a1 r:Int)(w:World)(hr0:Kd.C DN w A0 l0.length l0)(hc0:l0.length≤c0)(H:wN.f k l0 a1=some r) :
  Calls Tryz.prog 60 #[.slice A0 l0.length c0,.int .i64 a1] w fun e w'=>e=.returned (.int .i64 r)∧Below w.heap.size w w':=by
 have ams:=Tryz.underlying127;have bG:=am hr0;have jC:=am hc0;clear hr0 hc0;have HB:=am (Below.refl w.heap.size w);unfold wN.f at H
 revert H;refine bK ?_ ?_
 ·intro aY H;obtain rfl:=si H
  go_in
  go_wp2
  go_ret
  exact ⟨ff,bs HB⟩
 ·intro aY H;have H':=am H;clear H
  go_in
  go_wp2
  go_loopg [1,5] k (fun kq v1 v5 w'=>∃ (iP:Int) (ax:Int),v1=.int .i64 iP∧v5=.int .i64 ax∧af (wN.l0 kq l0 iP ax=some r)∧af (kq≤k)∧af (Below w.heap.size w w'))
  case atStart=>exact ⟨(wrap64 (a1 - (l0.length:Int))),(0),fg,fg,H',⟨Nat.le_refl _⟩,⟨bs HB⟩⟩
  case round =>
   clear H'
   try clear aY
   obtain ⟨iP,ax,rfl,rfl,HA,aQ,HB⟩:=hrel
   cases gk with
   | zero=>exact absurd HA.o (by simp [wN.l0])
   | succ k1 =>
    have H:=HA.o;clear HA;simp only [wN.l0] at H
    revert H;refine bK ?_ ?_
    ·intro dF H
     revert H;refine bv ?_
     intro ja H;replace H:=bo H;obtain ⟨rG,A6,H⟩:=H;obtain ⟨p9,q9,xe,e9,l8,nP,yB,Cr,Cs⟩:=wi (ajh bG.o ax)
     cases e9
     replace l8:=cb HB l8;replace nP:=cb HB nP;replace yB:=cb HB yB;replace Cr:=cb HB Cr;replace Cs:=cb HB Cs
     try go_wp2_with (fail)
     go_at_call 104;refine (LB.calls ((nH l0 ax).f0) ((nH l0 ax).f1) ((nH l0 ax).f2) ((nH l0 ax).f3) ((nH l0 ax).f4) iP rG _ A6.o).mono ?_;rintro e w7 ⟨rfl,hb⟩;replace HB:=bq HB hb;(try clear hb)
     revert H;refine bK ?_ ?_
     ·intro kr H;obtain rfl:=si H
      go_wp2
      go_ret
      exact ⟨ff,bs HB⟩
     ·intro kr H;have H':=am H;clear H
      go_wp2
      go_roundg k1
      case measure=>have:=aQ.o;omega
      case rel=>exact ⟨(rG),(wrap64 (ax+1)),fg,fg,H',⟨by have:=aQ.o;omega⟩,⟨bs HB⟩⟩
    ·intro dF H;obtain rfl:=si H
     go_wp2
     go_ret
     exact ⟨ff,bs HB⟩
theorem II.calls (k:Nat)(ag:Int)(aj ak:ByteArray)(aM:Int)(dB:Option Addr)(dx:Nat)(az:List ByteArray)(dJ:Option Addr)(df:Nat)(ah:List mJ)(a1 r:Int)(w:World)(lm:Kd.C Kd.string w dB az.length az)(kY:az.length≤dx)(lq:Kd.C DN w dJ ah.length ah)(kZ:ah.length≤df)(H:II.f k ag aj ak aM az ah a1=some r) :
  Calls Tryz.prog 31 #[.agg #[.int .i64 ag,.string aj,.string ak,.int .i64 aM,.slice dB az.length dx,.slice dJ ah.length df],.int .i64 a1] w fun e w'=>e=.returned (.int .i64 r)∧Below w.heap.size w w':=by
 have aeK:=Tryz.underlying56;have oI:=am lm;have rR:=am kY;clear lm kY;have ni:=am lq;have qW:=am kZ;clear lq kZ;have HB:=am (Below.refl w.heap.size w);unfold II.f at H
 revert H;refine bK ?_ ?_
 ·intro aY H;obtain rfl:=si H
  go_in
  go_wp2_with (first|((with_reducible refine aJ (N:=2) rfl ?_);refine bz 2 (cs:=#[.int .i64 ag,.string aj,.string ak,.int .i64 aM,.slice dB az.length dx,.slice dJ ah.length df]) (t:=56) HB ?_;clear HB;intro gy hg w4 bR Bi hb HB;clear hb hg;have BQ:=dO bR))
  go_ret
  exact ⟨ff,bs HB⟩
 ·intro aY H
  revert H;refine bK ?_ ?_
  ·intro gu H;obtain rfl:=si H
   go_in
   go_wp2_with (first|((with_reducible refine aJ (N:=2) rfl ?_);refine bz 2 (cs:=#[.int .i64 ag,.string aj,.string ak,.int .i64 aM,.slice dB az.length dx,.slice dJ ah.length df]) (t:=56) HB ?_;clear HB;intro gy hg w7 bR Bi hb HB;clear hb hg;have BU:=dO bR))
   go_ret
   exact ⟨ff,bs HB⟩
  ·intro gu H;replace H:=bo H;obtain ⟨lK,A9,H⟩:=H
   go_in
   try go_wp2_with (first|((with_reducible refine aJ (N:=2) rfl ?_);refine bz 2 (cs:=#[.int .i64 ag,.string aj,.string ak,.int .i64 aM,.slice dB az.length dx,.slice dJ ah.length df]) (t:=56) HB ?_;clear HB;intro gy hg qo bR Bi hb HB;clear hb hg;have zq:=dO bR))
   go_at_call 59;refine (wP.calls k _ _ az (wrap64 ((wrap64 (a1 - (aj.size:Int))) - (ak.size:Int))) lK _ (Kd.bi oI.o (bs HB)) rR.o A9.o).mono ?_;rintro e w' ⟨rfl,⟨nd,rfl⟩⟩
   revert H;refine bK ?_ ?_
   ·intro zk H;obtain rfl:=si H
    go_wp2
    go_ret
    exact ⟨ff,bs HB⟩
   ·intro zk H;replace H:=bo H;obtain ⟨mG,vS,H⟩:=H;have ad3:=dO bR
    try go_wp2_with (fail)
    go_at_call 60;refine (wN.calls k _ _ ah lK mG _ ?aR qW.o vS.o).mono ?_;(case aR=>repeat (first|exact (Kd.bi ni.o (bs HB))|(with_reducible refine Kd.rO ?_ _)|(with_reducible refine Kd.rQ ?_ _)|(with_reducible refine Kd.rP ?_)));rintro e CG ⟨rfl,hb⟩;replace bR:=bb bR hb;replace HB:=bq HB hb;(try clear hb)
    revert H;refine bK ?_ ?_
    ·intro yj H;obtain rfl:=si H
     go_wp2
     go_ret
     exact ⟨ff,bs HB⟩
    ·intro yj H;obtain rfl:=si H
     go_wp2
     go_ret
     exact ⟨ff,bs HB⟩
theorem wO.calls (k:Nat)(A0:Option Addr)(c0:Nat)(l0:List mK)(a1 r:Int)(w:World)(hr0:Kd.C DR w A0 l0.length l0)(hc0:l0.length≤c0)(H:wO.f k l0 a1=some r) :
  Calls Tryz.prog 16 #[.slice A0 l0.length c0,.int .i64 a1] w fun e w'=>e=.returned (.int .i64 r)∧Below w.heap.size w w':=by
 have aeK:=Tryz.underlying56;have bG:=am hr0;have jC:=am hc0;clear hr0 hc0;have HB:=am (Below.refl w.heap.size w);unfold wO.f at H
 revert H;refine bK ?_ ?_
 ·intro aY H;obtain rfl:=si H
  go_in
  go_wp2
  go_ret
  exact ⟨ff,bs HB⟩
 ·intro aY H;have H':=am H;clear H
  go_in
  go_wp2
  go_loopg [1,5] k (fun kq v1 v5 w'=>∃ (iP:Int) (ax:Int),v1=.int .i64 iP∧v5=.int .i64 ax∧af (wO.l0 kq l0 iP ax=some r)∧af (kq≤k)∧af (Below w.heap.size w w'))
  case atStart=>exact ⟨(wrap64 (a1 - (l0.length:Int))),(0),fg,fg,H',⟨Nat.le_refl _⟩,⟨bs HB⟩⟩
  case round =>
   clear H'
   try clear aY
   obtain ⟨iP,ax,rfl,rfl,HA,aQ,HB⟩:=hrel
   cases gk with
   | zero=>exact absurd HA.o (by simp [wO.l0])
   | succ k1 =>
    have H:=HA.o;clear HA;simp only [wO.l0] at H
    revert H;refine bK ?_ ?_
    ·intro dF H
     revert H;refine bv ?_
     intro ja H;replace H:=bo H;obtain ⟨rG,A6,H⟩:=H;obtain ⟨p9,q9,xe,ao9,auf,apa,aug,e9,l8,nP,yB,Cr,Cs,V4,UC,Uc,UD,Ud⟩:=wi (aji bG.o ax)
     cases e9
     replace l8:=cb HB l8;replace nP:=cb HB nP;replace yB:=cb HB yB;replace Cr:=cb HB Cr;replace Cs:=cb HB Cs;replace V4:=cb HB V4;have acA:=am Uc;have ace:=am UC;clear Uc UC;have acB:=am Ud;have acf:=am UD;clear Ud UD
     try go_wp2_with (fail)
     go_at_call 31;refine (II.calls k1 ((jW l0 ax).f0) ((jW l0 ax).f1) ((jW l0 ax).f2) ((jW l0 ax).f3) _ _ ((jW l0 ax).f4) _ _ ((jW l0 ax).f5) iP rG _ (Kd.bi acA.o (bs HB)) ace.o (Kd.bi acB.o (bs HB)) acf.o A6.o).mono ?_;rintro e w7 ⟨rfl,hb⟩;replace HB:=bq HB hb;(try clear hb)
     revert H;refine bK ?_ ?_
     ·intro kr H;obtain rfl:=si H
      go_wp2
      go_ret
      exact ⟨ff,bs HB⟩
     ·intro kr H;have H':=am H;clear H
      go_wp2
      go_roundg k1
      case measure=>have:=aQ.o;omega
      case rel=>exact ⟨(rG),(wrap64 (ax+1)),fg,fg,H',⟨by have:=aQ.o;omega⟩,⟨bs HB⟩⟩
    ·intro dF H;obtain rfl:=si H
     go_wp2
     go_ret
     exact ⟨ff,bs HB⟩
end Go.Proofs.YtapilmimgiaglaaGreatDoor.QX
