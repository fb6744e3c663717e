-- Merged by a program of this session (wip/tool/pack.py) out of its own texts for this claim.
import Derived.Test.YtapilmimgiaglaaGreatDoorKFnExactParcelRight4
set_option linter.unusedSimpArgs false
set_option linter.unusedVariables false
namespace Go.Proofs.YtapilmimgiaglaaGreatDoor.QA
open Go.RowKit Go.Proofs.bB.fA Go.Proofs.bB.PrintLast Go.Proofs.bB.PrintMore
attribute [local go_sem] o6 pg o9 pE o8 pz o7 pq   -- for this text's walks alone
def uB.l0:Nat→List ByteArray→Int→Int→Option (Int)
 | 0,_,_,_=>none
 | k+1,x0,x1,x5=>if x5<(x0.length:Int) then (if 0≤x5 then (if (wrap64 (x1 - ((aX ByteArray.empty x0 x5).size:Int)))<0 then (some (-1)) else (uB.l0 k x0 (wrap64 (x1 - ((aX ByteArray.empty x0 x5).size:Int))) (wrap64 (x5+1)))) else (none)) else (some x1)
def uB.f (k:Nat) (l0:List ByteArray) (a1:Int):Option (Int):=if (wrap64 (a1 - (l0.length:Int)))<0 then (some (-1)) else (uB.l0 k l0 (wrap64 (a1 - (l0.length:Int))) 0)
def IW.f (ag:Int) (aj:ByteArray) (ak:Int) (aD:Int) (mK:ByteArray) (a1:Int):Option (Int):=if (wrap64 (a1 - (aj.size:Int)))<0 then (some (-1)) else (if (wrap64 ((wrap64 (a1 - (aj.size:Int))) - (mK.size:Int)))<0 then (some (-1)) else (some (wrap64 ((wrap64 (a1 - (aj.size:Int))) - (mK.size:Int)))))
def uz.l0:Nat→List (lL)→Int→Int→Option (Int)
 | 0,_,_,_=>none
 | k+1,x0,x1,x5=>if x5<(x0.length:Int) then (if 0≤x5 then ((IW.f ((ma x0 x5).f0) ((ma x0 x5).f1) ((ma x0 x5).f2) ((ma x0 x5).f3) ((ma x0 x5).f4) x1).bind fun alb=>(if alb<0 then (some (-1)) else (uz.l0 k x0 alb (wrap64 (x5+1))))) else (none)) else (some x1)
def uz.f (k:Nat) (l0:List (lL)) (a1:Int):Option (Int):=if (wrap64 (a1 - (l0.length:Int)))<0 then (some (-1)) else (uz.l0 k l0 (wrap64 (a1 - (l0.length:Int))) 0)
def FI.f (k:Nat) (ag:Int) (aj:ByteArray) (ak:ByteArray) (aD:Int) (ay:List ByteArray) (ah:List (lL)) (a1:Int):Option (Int):=if (wrap64 (a1 - (aj.size:Int)))<0 then (some (-1)) else (if (wrap64 ((wrap64 (a1 - (aj.size:Int))) - (ak.size:Int)))<0 then (some (-1)) else ((uB.f k ay (wrap64 ((wrap64 (a1 - (aj.size:Int))) - (ak.size:Int)))).bind fun alc=>(if alc<0 then (some (-1)) else ((uz.f k ah alc).bind fun t107=>(if t107<0 then (some (-1)) else (some t107))))))
def uA.l0:Nat→List (lM)→Int→Int→Option (Int)
 | 0,_,_,_=>none
 | k+1,x0,x1,x5=>if x5<(x0.length:Int) then (if 0≤x5 then ((FI.f k ((jo x0 x5).f0) ((jo x0 x5).f1) ((jo x0 x5).f2) ((jo x0 x5).f3) ((jo x0 x5).f4) ((jo x0 x5).f5) x1).bind fun t109=>(if t109<0 then (some (-1)) else (uA.l0 k x0 t109 (wrap64 (x5+1))))) else (none)) else (some x1)
def uA.f (k:Nat) (l0:List (lM)) (a1:Int):Option (Int):=if (wrap64 (a1 - (l0.length:Int)))<0 then (some (-1)) else (uA.l0 k l0 (wrap64 (a1 - (l0.length:Int))) 0)
def IX.f (k:Nat) (ag:ByteArray) (aj:ByteArray) (ak:Int) (au:List (lM)) (a1:Int):Option (Int):=if (wrap64 (a1 - (ag.size:Int)))<0 then (some (-1)) else (if (wrap64 ((wrap64 (a1 - (ag.size:Int))) - (aj.size:Int)))<0 then (some (-1)) else ((uA.f k au (wrap64 ((wrap64 (a1 - (ag.size:Int))) - (aj.size:Int)))).bind fun ald=>(if ald<0 then (some (-1)) else (some ald))))
def rY.l0:Nat→List ByteArray→List ByteArray→Int→Option (List ByteArray)
 | 0,_,_,_=>none
 | k+1,x0,x3,x4=>if x4<(x0.length:Int) then (if 0≤x4 then (if x4<(x3.length:Int) then (rY.l0 k x0 (x3.set (x4:Int).toNat (aX ByteArray.empty x0 x4)) (wrap64 (x4+1))) else (none)) else (none)) else (some x3)
def rY.f (k:Nat) (l0:List ByteArray):Option (List ByteArray):=if 0≤(l0.length:Int) then (if ((l0.length:Int):Int).toNat≤17592186044416 then (rY.l0 k l0 (List.replicate ((l0.length:Int):Int).toNat (⟨#[]⟩:ByteArray)) 0) else (none)) else (none)
def MH.f (ag:Int) (aj:ByteArray) (ak:Int) (aD:Int) (mK:ByteArray):Option (Int × ByteArray × Int × Int × ByteArray):=some (ag,aj,ak,aD,mK)
def uC.l0:Nat→List lL→List aY→Int→Option (List aY)
 | 0,_,_,_=>none
 | k+1,x0,x3,x4=>if x4<(x0.length:Int) then (if 0≤x4 then ((MH.f ((ma x0 x4).f0) ((ma x0 x4).f1) ((ma x0 x4).f2) ((ma x0 x4).f3) ((ma x0 x4).f4)).bind fun bt=>(if x4<(x3.length:Int) then (uC.l0 k x0 (x3.set (x4:Int).toNat (⟨bt.1,bt.2.1,bt.2.2.1,bt.2.2.2.1,bt.2.2.2.2⟩:aY)) (wrap64 (x4+1))) else (none))) else (none)) else (some x3)
def uC.f (k:Nat) (l0:List lL):Option (List aY):=if 0≤(l0.length:Int) then (if ((l0.length:Int):Int).toNat≤5026338869833 then (uC.l0 k l0 (List.replicate ((l0.length:Int):Int).toNat D9) 0) else (none)) else (none)
def IY.f (k:Nat) (ag:Int) (aj:ByteArray) (ak:ByteArray) (aD:Int) (ay:List ByteArray) (ah:List (lL)):Option (Int × ByteArray × ByteArray × Int × List ByteArray × (List (aY))):=(rY.f k ay).bind fun awS=>((uC.f k ah).bind fun awT=>(some (ag,aj,ak,aD,awS,awT)))
def rX.l0:Nat→List (lM)→List (gN)→Int→Option ((List (gN)))
 | 0,_,_,_=>none
 | k+1,x0,x3,x4=>if x4<(x0.length:Int) then (if 0≤x4 then ((IY.f k ((jo x0 x4).f0) ((jo x0 x4).f1) ((jo x0 x4).f2) ((jo x0 x4).f3) ((jo x0 x4).f4) ((jo x0 x4).f5)).bind fun KY=>(if x4<(x3.length:Int) then (rX.l0 k x0 (x3.set (x4:Int).toNat (⟨KY.1,KY.2.1,KY.2.2.1,KY.2.2.2.1,KY.2.2.2.2.1,KY.2.2.2.2.2⟩:gN)) (wrap64 (x4+1))) else (none))) else (none)) else (some x3)
def rX.f (k:Nat) (l0:List (lM)):Option ((List (gN))):=if 0≤(l0.length:Int) then (if ((l0.length:Int):Int).toNat≤2932031007402 then (rX.l0 k l0 (List.replicate ((l0.length:Int):Int).toNat z45) 0) else (none)) else (none)
def yM.f (k:Nat) (ag:ByteArray) (aj:ByteArray) (ak:Int) (au:List (lM)):Option (ByteArray × ByteArray × Int × (List (gN))):=(rX.f k au).bind fun adz=>(some (ag,aj,ak,adz))
def fw.l0:Nat→Int→Bool→ByteArray→Option (ByteArray)
 | 0,_,_,_=>none
 | k+1,x0,x3,x4=>if x0=0 then (if x3=true then (if 1+x4.size≤9223372036854775807 then (some ((⟨#[45]⟩:ByteArray)++x4)) else (none)) else (some x4)) else (if (Int.tmod x0 10)<0 then ((some (([(wrap64 (48+(wrap64 (-(Int.tmod x0 10))))) % 256]:List Int):List Int)).bind fun y150=>(if (strOfNums y150).size+x4.size≤9223372036854775807 then (fw.l0 k (wrap64 (Int.tdiv x0 10)) x3 ((strOfNums y150)++x4)) else (none))) else ((some (([(wrap64 (48+(Int.tmod x0 10))) % 256]:List Int):List Int)).bind fun y153=>(if (strOfNums y153).size+x4.size≤9223372036854775807 then (fw.l0 k (wrap64 (Int.tdiv x0 10)) x3 ((strOfNums y153)++x4)) else (none))))
def fw.f (k:Nat) (a0:Int):Option (ByteArray):=if a0=0 then (some (⟨#[48]⟩:ByteArray)) else (fw.l0 k a0 (decide (a0<0)) (⟨#[]⟩:ByteArray))
def Bz.f (a0:Int):Option (Bool):=if a0=2 then (some true) else (if a0=3 then (some true) else (some (a0 == 4)))
def gI.l0:Nat→List ByteArray→Int→ByteArray→List (dw)→Option (ByteArray × (List (dw)))
 | 0,_,_,_,_=>none
 | k+1,x1,x6,alA,adS=>if x6<(x1.length:Int) then (if 0≤x6 then (if adS.length<5864062014805 then (gI.l0 k x1 (wrap64 (x6+1)) alA (adS++[(⟨(([aX ByteArray.empty x1 x6]:List ByteArray))⟩:dw)])) else (none)) else (none)) else (some (alA,adS))
def gI.f (k:Nat) (a0:ByteArray) (l1:List ByteArray):Option (ByteArray × (List (dw))):=gI.l0 k l1 0 a0 ([]:List (dw))
mutual
def eF.j0:Nat→Int→List ByteArray→Int→ByteArray→Int→Int→ByteArray→Option (ByteArray × (List (dw)))
 | 0,_,_,_,_,_,_,_=>none
 | k+1,x0,x5,aJu,aJv,aJw,aJx,alB=>if alB.toList=([]:List UInt8) then (eF.j1 k x0 x5) else (if x5.length<8796093022208 then (eF.j1 k x0 (x5++[alB])) else (none))
def eF.j1:Nat→Int→List ByteArray→Option (ByteArray × (List (dw)))
 | 0,_,_=>none
 | k+1,x0,x5=>if x0=6 then ((gI.f k (⟨#[73,84,77]⟩:ByteArray) x5).bind fun agD=>(some (agD.1,agD.2))) else ((gI.f k (⟨#[76,73,78]⟩:ByteArray) x5).bind fun agE=>(some (agE.1,agE.2)))
end
def eF.f (k:Nat) (a0:Int) (aM:Int) (dh:ByteArray) (dx:Int) (ek:Int) (oQ:ByteArray):Option (ByteArray × (List (dw))):=if a0=1 then ((fw.f k aM).bind fun vI=>((fw.f k dx).bind fun t171=>((some (([vI,dh,t171]:List ByteArray):List ByteArray)).bind fun wX=>(if ek=0 then ((gI.f k (⟨#[76,73,78]⟩:ByteArray) wX).bind fun Ew=>(some (Ew.1,Ew.2))) else ((fw.f k ek).bind fun BA=>(if wX.length<8796093022208 then ((gI.f k (⟨#[76,73,78]⟩:ByteArray) (wX++[BA])).bind fun zw=>(some (zw.1,zw.2))) else (none))))))) else (if a0=5 then ((fw.f k dx).bind fun BB=>((gI.f k (⟨#[73,84,77]⟩:ByteArray) (([dh,BB]:List ByteArray))).bind fun Ex=>(some (Ex.1,Ex.2)))) else (if a0=7 then ((fw.f k aM).bind fun vJ=>((fw.f k dx).bind fun t196=>((some (([vJ,t196]:List ByteArray):List ByteArray)).bind fun wY=>(if ek=0 then ((gI.f k (⟨#[65,67,75]⟩:ByteArray) wY).bind fun Ey=>(some (Ey.1,Ey.2))) else ((fw.f k ek).bind fun BC=>(if wY.length<8796093022208 then ((gI.f k (⟨#[65,67,75]⟩:ByteArray) (wY++[BC])).bind fun zx=>(some (zx.1,zx.2))) else (none))))))) else (if a0=6 then ((fw.f k dx).bind fun t212=>(eF.j0 k a0 (([dh,t212]:List ByteArray)) aM dh dx ek oQ)) else ((fw.f k aM).bind fun BD=>((fw.f k dx).bind fun BF=>(eF.j0 k a0 (([BD,BF]:List ByteArray)) aM dh dx ek oQ))))))
mutual
def fB.j0:Nat→List ByteArray→Int→ByteArray→ByteArray→Int→List ByteArray→List (aY)→Option ((List (bA)))
 | 0,_,_,_,_,_,_,_=>none
 | k+1,x3,JV,Nv,Nw,Ny,Ga,y5=>(gI.f k (⟨#[68,79,67]⟩:ByteArray) x3).bind fun agF=>(fB.l0 k (([(⟨agF.1,agF.2⟩:bA)]:List (bA))) 0 JV Nv Nw Ny Ga y5)
def fB.l0:Nat→List (bA)→Int→Int→ByteArray→ByteArray→Int→List ByteArray→List (aY)→Option ((List (bA)))
 | 0,_,_,_,_,_,_,_,_=>none
 | k+1,x4,x5,JV,Nv,Nw,Ny,Ga,y5=>if x5<(Ga.length:Int) then (if 0≤x5 then ((gI.f k (⟨#[78,79,84]⟩:ByteArray) (([aX ByteArray.empty Ga x5]:List ByteArray))).bind fun O0=>(if x4.length<3518437208883 then (fB.l0 k (x4++[(⟨O0.1,O0.2⟩:bA)]) (wrap64 (x5+1)) JV Nv Nw Ny Ga y5) else (none))) else (none)) else (fB.l1 k x4 0 JV Nv Nw Ny Ga y5)
def fB.l1:Nat→List (bA)→Int→Int→ByteArray→ByteArray→Int→List ByteArray→List (aY)→Option ((List (bA)))
 | 0,_,_,_,_,_,_,_,_=>none
 | k+1,x4,x6,JV,Nv,Nw,Ny,Ga,y5=>if x6<(y5.length:Int) then (if 0≤x6 then ((eF.f k JV ((ai y5 x6).f0) ((ai y5 x6).f1) ((ai y5 x6).f2) ((ai y5 x6).f3) ((ai y5 x6).f4)).bind fun agG=>(if x4.length<3518437208883 then (fB.l1 k (x4++[(⟨agG.1,agG.2⟩:bA)]) (wrap64 (x6+1)) JV Nv Nw Ny Ga y5) else (none))) else (none)) else (some x4)
end
def fB.f (k:Nat) (ag:Int) (aj:ByteArray) (ak:ByteArray) (aD:Int) (ay:List ByteArray) (ah:List (aY)):Option ((List (bA))):=(fw.f k aD).bind fun t233=>((Bz.f ag).bind fun M4=>(if M4=true then ((fw.f k aD).bind fun BG=>(fB.j0 k (([aj,ak,BG]:List ByteArray)) ag aj ak aD ay ah)) else (fB.j0 k (([aj,t233]:List ByteArray)) ag aj ak aD ay ah)))
def uG.l0:Nat→ByteArray→Int→Option (Bool)
 | 0,_,_=>none
 | k+1,x0,x3=>if x3<3 then (if 0≤x3 then (if x3<(x0.size:Int) then (if (bt x0 x3)<65 then (some false) else (if (bt x0 x3)>90 then (some false) else (uG.l0 k x0 (wrap64 (x3+1))))) else (none)) else (none)) else (some true)
def uG.f (k:Nat) (a0:ByteArray):Option (Bool):=if (a0.size:Int)=3 then (uG.l0 k a0 0) else (some false)
def rq.l0:Nat→ByteArray→Int→Option (Bool)
 | 0,_,_=>none
 | k+1,x0,x3=>if x3<(x0.size:Int) then (if 0≤x3 then (if (bt x0 x3)<32 then (some false) else (if (bt x0 x3)>126 then (some false) else (rq.l0 k x0 (wrap64 (x3+1))))) else (none)) else (some true)
def rq.f (k:Nat) (a0:ByteArray):Option (Bool):=if (a0.size:Int)>40 then (some false) else (rq.l0 k a0 0)
def Jg.f (wJ:List ByteArray):Option (Bool):=if (wJ.length:Int)=1 then (if 0<(wJ.length:Int) then (some ((aX ByteArray.empty wJ 0).toList == ([]:List UInt8))) else (none)) else (some false)
mutual
def iG.j0:Nat→Bool→ByteArray→List (dw)→Option (Bool)
 | 0,_,_,_=>none
 | k+1,x15,Aj,lI=>if x15=true then (some false) else (iG.l0 k 0 Aj lI)
def iG.l0:Nat→Int→ByteArray→List (dw)→Option (Bool)
 | 0,_,_,_=>none
 | k+1,x3,Aj,lI=>if x3<(lI.length:Int) then (if 0≤x3 then (if (((aH lI x3).f0).length:Int)<1 then (iG.j2 k x3 ((aH lI x3).f0) true Aj lI) else (if (((aH lI x3).f0).length:Int)>4 then (iG.j2 k x3 ((aH lI x3).f0) true Aj lI) else (if (((aH lI x3).f0).length:Int)>1 then (if 0≤(wrap64 ((((aH lI x3).f0).length:Int) - 1)) then (if (wrap64 ((((aH lI x3).f0).length:Int) - 1))<(((aH lI x3).f0).length:Int) then (iG.j2 k x3 ((aH lI x3).f0) ((aX ByteArray.empty ((aH lI x3).f0) (wrap64 ((((aH lI x3).f0).length:Int) - 1))).toList == ([]:List UInt8)) Aj lI) else (none)) else (none)) else (iG.j2 k x3 ((aH lI x3).f0) false Aj lI)))) else (none)) else (if (lI.length:Int)=0 then (some true) else (if 0≤(wrap64 ((lI.length:Int) - 1)) then (if (wrap64 ((lI.length:Int) - 1))<(lI.length:Int) then ((Jg.f ((aH lI (wrap64 ((lI.length:Int) - 1))).f0)).bind fun awW=>(some (!awW))) else (none)) else (none)))
def iG.j2:Nat→Int→List ByteArray→Bool→ByteArray→List (dw)→Option (Bool)
 | 0,_,_,_,_,_=>none
 | k+1,x3,x4,x50,Aj,lI=>if x50=true then (some false) else (iG.l1 k x3 x4 0 Aj lI)
def iG.l1:Nat→Int→List ByteArray→Int→ByteArray→List (dw)→Option (Bool)
 | 0,_,_,_,_,_=>none
 | k+1,x3,x4,x5,Aj,lI=>if x5<(x4.length:Int) then (if 0≤x5 then ((rq.f k (aX ByteArray.empty x4 x5)).bind fun awX=>(if awX=true then (iG.l1 k x3 x4 (wrap64 (x5+1)) Aj lI) else (some false))) else (none)) else (iG.l0 k (wrap64 (x3+1)) Aj lI)
end
def iG.f (k:Nat) (ag:ByteArray) (aK:List (dw)):Option (Bool):=(uG.f k ag).bind fun awV=>(if awV=true then (iG.j0 k (decide ((aK.length:Int)>10)) ag aK) else (iG.j0 k true ag aK))
def tF.j0:Nat→Int→Bool→ByteArray→Int→Int→ByteArray→ByteArray→Int→Int→ByteArray→ByteArray→Int→Int→ByteArray→Option ((List (aC)))
 | 0,_,_,_,_,_,_,_,_,_,_,_,_,_,_=>none
 | k+1,x9,Nn,adT,adU,adV,adW,alG,alH,alI,alJ,azf,azg,azh,azi=>if Nn=true then (some (([(⟨alG,alH,alI,alJ⟩:aC),(⟨(⟨#[76,73,78]⟩:ByteArray),1,20,(⟨#[110,113,63,116]⟩:ByteArray)⟩:aC)]:List (aC)))) else (if x9=3 then (some (([(⟨alG,alH,alI,alJ⟩:aC),(⟨azf,azg,azh,azi⟩:aC),(⟨(⟨#[76,73,78]⟩:ByteArray),1,20,(⟨#[110,113]⟩:ByteArray)⟩:aC)]:List (aC)))) else (if x9=5 then (some (([(⟨adT,adU,adV,adW⟩:aC),(⟨(⟨#[73,84,77]⟩:ByteArray),1,20,(⟨#[114,110]⟩:ByteArray)⟩:aC)]:List (aC)))) else (if x9=6 then (some (([(⟨adT,adU,adV,adW⟩:aC),(⟨(⟨#[73,84,77]⟩:ByteArray),1,20,(⟨#[114,122,63,116]⟩:ByteArray)⟩:aC)]:List (aC)))) else (if x9=7 then (some (([(⟨adT,adU,adV,adW⟩:aC),(⟨(⟨#[65,67,75]⟩:ByteArray),1,1,(⟨#[110,110,63,110]⟩:ByteArray)⟩:aC)]:List (aC)))) else (some (([]:List (aC))))))))
def tF.f (k:Nat) (a0:Int):Option ((List (aC))):=if a0=1 then (some (([(⟨(⟨#[68,79,67]⟩:ByteArray),1,1,(⟨#[114,100]⟩:ByteArray)⟩:aC),(⟨(⟨#[78,79,84]⟩:ByteArray),0,2,(⟨#[116]⟩:ByteArray)⟩:aC),(⟨(⟨#[76,73,78]⟩:ByteArray),1,20,(⟨#[110,114,113,63,110]⟩:ByteArray)⟩:aC)]:List (aC)))) else (if a0=2 then (tF.j0 k a0 (a0 == 2) (⟨#[68,79,67]⟩:ByteArray) 1 1 (⟨#[114,100]⟩:ByteArray) (⟨#[68,79,67]⟩:ByteArray) 1 1 (⟨#[114,114,100]⟩:ByteArray) (⟨#[78,79,84]⟩:ByteArray) 0 2 (⟨#[116]⟩:ByteArray)) else (tF.j0 k a0 (a0 == 4) (⟨#[68,79,67]⟩:ByteArray) 1 1 (⟨#[114,100]⟩:ByteArray) (⟨#[68,79,67]⟩:ByteArray) 1 1 (⟨#[114,114,100]⟩:ByteArray) (⟨#[78,79,84]⟩:ByteArray) 0 2 (⟨#[116]⟩:ByteArray)))
mutual
def gL.j0:Nat→ByteArray→Bool→Option (Int × Bool)
 | 0,_,_=>none
 | k+1,x0,x4=>if x4=true then (if 1≤(x0.size:Int) then (gL.j1 k x0 x4 (x0.extract 1 x0.size)) else (none)) else (gL.j1 k x0 x4 x0)
def gL.j1:Nat→ByteArray→Bool→ByteArray→Option (Int × Bool)
 | 0,_,_,_=>none
 | k+1,x0,x4,x5=>if (x5.size:Int)<1 then (gL.j2 k x0 x4 x5 true) else (gL.j2 k x0 x4 x5 (decide ((x5.size:Int)>12)))
def gL.j2:Nat→ByteArray→Bool→ByteArray→Bool→Option (Int × Bool)
 | 0,_,_,_,_=>none
 | k+1,x0,x4,x5,x27=>if x27=true then (some (0,false)) else (gL.l0 k x0 x4 x5 0 0)
def gL.l0:Nat→ByteArray→Bool→ByteArray→Int→Int→Option (Int × Bool)
 | 0,_,_,_,_,_=>none
 | k+1,x0,x4,x5,x6,x7=>if x7<(x5.size:Int) then (if 0≤x7 then (if (bt x5 x7)<48 then (some (0,false)) else (if (bt x5 x7)>57 then (some (0,false)) else (gL.l0 k x0 x4 x5 (wrap64 ((wrap64 (10 * x6))+(((bt x5 x7) - 48) % 256))) (wrap64 (x7+1))))) else (none)) else (if x4=true then ((fw.f k (wrap64 (-x6))).bind fun awY=>(some (wrap64 (-x6),(awY.toList == x0.toList)))) else ((fw.f k x6).bind fun awZ=>(some (x6,(awZ.toList == x0.toList)))))
end
def gL.f (k:Nat) (a0:ByteArray):Option (Int × Bool):=if (a0.size:Int)>0 then (if 0<(a0.size:Int) then (gL.j0 k a0 ((bt a0 0) == 45)) else (none)) else (gL.j0 k a0 false)
mutual
def jf.j0:Nat→ByteArray→Bool→Option (Bool)
 | 0,_,_=>none
 | k+1,x0,wU=>if wU=true then (some false) else (jf.l0 k x0 0)
def jf.l0:Nat→ByteArray→Int→Option (Bool)
 | 0,_,_=>none
 | k+1,x0,x3=>if x3<(x0.size:Int) then (if 0≤x3 then (if (bt x0 x3)≥65 then (if (bt x0 x3)≤90 then (jf.l0 k x0 (wrap64 (x3+1))) else (if (bt x0 x3)≥48 then (if (bt x0 x3)≤57 then (jf.l0 k x0 (wrap64 (x3+1))) else (if ((bt x0 x3)=45) then (jf.l0 k x0 (wrap64 (x3+1))) else (some false))) else (if ((bt x0 x3)=45) then (jf.l0 k x0 (wrap64 (x3+1))) else (some false)))) else (if (bt x0 x3)≥48 then (if (bt x0 x3)≤57 then (jf.l0 k x0 (wrap64 (x3+1))) else (if ((bt x0 x3)=45) then (jf.l0 k x0 (wrap64 (x3+1))) else (some false))) else (if ((bt x0 x3)=45) then (jf.l0 k x0 (wrap64 (x3+1))) else (some false)))) else (none)) else (some true)
end
def jf.f (k:Nat) (a0:ByteArray):Option (Bool):=if (a0.size:Int)<1 then (jf.j0 k a0 true) else (if (a0.size:Int)>12 then (jf.j0 k a0 true) else (if 0<(a0.size:Int) then (if (bt a0 0)<65 then (jf.j0 k a0 true) else (jf.j0 k a0 (decide ((bt a0 0)>90)))) else (none)))
def FU.f (a0:Int):Option (Bool):=if a0≥1 then (some (decide (a0≤1000000))) else (some false)
def FT.f (a0:Int):Option (Bool):=if a0≥0 then (some (decide (a0≤100000))) else (some false)
def yT.f (k:Nat) (a0:Int) (qB:List ByteArray):Option (Bool):=if (qB.length:Int)=1 then (if 0<(qB.length:Int) then ((gL.f k (aX ByteArray.empty qB 0)).bind fun zy=>(if a0=114 then ((jf.f k (aX ByteArray.empty qB 0)).bind fun aw0=>(some aw0)) else (if a0=110 then (if zy.2=true then (if zy.1≥0 then (some (decide (zy.1≤1000000000))) else (some false)) else (some false)) else (if a0=113 then (if zy.2=true then ((FU.f zy.1).bind fun aw1=>(some aw1)) else (some false)) else (if a0=122 then (if zy.2=true then (if zy.1≥(-1000000) then (if zy.1≤1000000 then (some (zy.1 != 0)) else (some false)) else (some false)) else (some false)) else (if a0=100 then (if zy.2=true then ((FT.f zy.1).bind fun aw2=>(some aw2)) else (some false)) else (if (aX ByteArray.empty qB 0).toList=([]:List UInt8) then (some false) else ((rq.f k (aX ByteArray.empty qB 0)).bind fun aw3=>(some aw3))))))))) else (none)) else (some false)
mutual
def dm.l0:Nat→ByteArray→List Int→Int→Int→ByteArray→List (dw)→Option (Int)
 | 0,_,_,_,_,_,_=>none
 | k+1,x0,x5,x6,x7,uH,qK=>if x7<(x0.size:Int) then (if 0≤x7 then (if (bt x0 x7)=63 then (if x6≥0 then (some 0) else (dm.l0 k x0 x5 (x5.length:Int) (wrap64 (x7+1)) uH qK)) else (if (bt x0 x7)=114 then (if x5.length<140737488355328 then (dm.l0 k x0 (x5++[bt x0 x7]) x6 (wrap64 (x7+1)) uH qK) else (none)) else (if (bt x0 x7)=110 then (if x5.length<140737488355328 then (dm.l0 k x0 (x5++[bt x0 x7]) x6 (wrap64 (x7+1)) uH qK) else (none)) else (if (bt x0 x7)=113 then (if x5.length<140737488355328 then (dm.l0 k x0 (x5++[bt x0 x7]) x6 (wrap64 (x7+1)) uH qK) else (none)) else (if (bt x0 x7)=122 then (if x5.length<140737488355328 then (dm.l0 k x0 (x5++[bt x0 x7]) x6 (wrap64 (x7+1)) uH qK) else (none)) else (if (bt x0 x7)=100 then (if x5.length<140737488355328 then (dm.l0 k x0 (x5++[bt x0 x7]) x6 (wrap64 (x7+1)) uH qK) else (none)) else (if (bt x0 x7)=116 then (if x5.length<140737488355328 then (dm.l0 k x0 (x5++[bt x0 x7]) x6 (wrap64 (x7+1)) uH qK) else (none)) else (some 0)))))))) else (none)) else (if x6<0 then (dm.j1 k x5 (x5.length:Int) uH qK) else (dm.j1 k x5 x6 uH qK))
def dm.j1:Nat→List Int→Int→ByteArray→List (dw)→Option (Int)
 | 0,_,_,_,_=>none
 | k+1,x5,x6,uH,qK=>dm.l1 k x5 x6 0 uH qK
def dm.l1:Nat→List Int→Int→Int→ByteArray→List (dw)→Option (Int)
 | 0,_,_,_,_,_=>none
 | k+1,x5,x6,x9,uH,qK=>if x9<(qK.length:Int) then (dm.j3 k x5 x6 x9 true uH qK) else (dm.j3 k x5 x6 x9 (decide (x9<x6)) uH qK)
def dm.j3:Nat→List Int→Int→Int→Bool→ByteArray→List (dw)→Option (Int)
 | 0,_,_,_,_,_,_=>none
 | k+1,x5,x6,x9,x68,uH,qK=>if x68=true then (if x9≥(qK.length:Int) then (some x9) else (if x9≥(x5.length:Int) then (some x9) else (if 0≤x9 then (if x9<(x5.length:Int) then (if x9<(qK.length:Int) then ((yT.f k (rd x5 x9) ((aH qK x9).f0)).bind fun adJ=>(if adJ=true then (dm.l1 k x5 x6 (wrap64 (x9+1)) uH qK) else (some x9))) else (none)) else (none)) else (none)))) else (some (-1))
end
def dm.f (k:Nat) (a0:ByteArray) (aM:ByteArray) (aR:List (dw)):Option (Int):=if (a0.size:Int)>20000 then (some 0) else (dm.l0 k a0 (([]:List Int)) (-1) 0 aM aR)
mutual
def dP.l0:Nat→List (bA)→List (aC)→Int→Int→Option (Int × Int × Int)
 | 0,_,_,_,_=>none
 | k+1,x1,x5,x6,x7=>if x7<(x5.length:Int) then (dP.l1 k x1 x5 x6 x7 0) else (if x6<(x1.length:Int) then (if 0≤x6 then (if 0≤(wrap64 ((x5.length:Int) - 1)) then (if (wrap64 ((x5.length:Int) - 1))<(x5.length:Int) then (if ((av x1 x6).f0).toList=((di x5 (wrap64 ((x5.length:Int) - 1))).f0).toList then (some (x6,0,7)) else (some (x6,0,3))) else (none)) else (none)) else (none)) else (some (0,0,0)))
def dP.l1:Nat→List (bA)→List (aC)→Int→Int→Int→Option (Int × Int × Int)
 | 0,_,_,_,_,_=>none
 | k+1,x1,x5,x6,x7,x8=>if 0≤x7 then (if x7<(x5.length:Int) then (if x8<((di x5 x7).f2) then (if x6<(x1.length:Int) then (if 0≤x6 then (dP.j2 k x1 x5 x6 x7 x8 (((av x1 x6).f0).toList == ((di x5 x7).f0).toList)) else (none)) else (dP.j2 k x1 x5 x6 x7 x8 false)) else (dP.j2 k x1 x5 x6 x7 x8 false)) else (none)) else (none)
def dP.j2:Nat→List (bA)→List (aC)→Int→Int→Int→Bool→Option (Int × Int × Int)
 | 0,_,_,_,_,_,_=>none
 | k+1,x1,x5,x6,x7,x8,x52=>if x52=true then (if 0≤x7 then (if x7<(x5.length:Int) then (if 0≤x6 then (if x6<(x1.length:Int) then ((dm.f k ((di x5 x7).f3) ((av x1 x6).f0) ((av x1 x6).f1)).bind fun alf=>(if alf≥0 then (some (x6,alf,3)) else (dP.l1 k x1 x5 (wrap64 (x6+1)) x7 (wrap64 (x8+1))))) else (none)) else (none)) else (none)) else (none)) else (if 0≤x7 then (if x7<(x5.length:Int) then (if x8<((di x5 x7).f1) then (some (x6,0,4)) else (dP.l0 k x1 x5 x6 (wrap64 (x7+1)))) else (none)) else (none))
end
def dP.f (k:Nat) (a0:Int) (l1:List (bA)):Option (Int × Int × Int):=if (l1.length:Int)>400 then (some (0,0,2)) else ((tF.f k a0).bind fun ale=>(if (ale.length:Int)=0 then (some (0,0,1)) else (dP.l0 k l1 ale 0 0)))
def nV.f (ag:ByteArray) (aK:List (dw)) (a1:Int) (a2:Int):Option (ByteArray):=if a1<0 then (some (⟨#[]⟩:ByteArray)) else (if a1≥(aK.length:Int) then (some (⟨#[]⟩:ByteArray)) else (if a2<0 then (some (⟨#[]⟩:ByteArray)) else (if 0≤a1 then (if a1<(aK.length:Int) then (if a2≥(((aH aK a1).f0).length:Int) then (some (⟨#[]⟩:ByteArray)) else (if 0≤a2 then (if a2<(((aH aK a1).f0).length:Int) then (some (aX ByteArray.empty ((aH aK a1).f0) a2)) else (none)) else (none))) else (none)) else (none))))
def jT.f (k:Nat) (ag:ByteArray) (aK:List (dw)) (a1:Int):Option (Int):=(nV.f ag aK a1 0).bind fun aw4=>((gL.f k aw4).bind fun aqj=>(some aqj.1))
def jd.f (k:Nat) (a0:Int) (aM:ByteArray) (aR:List (dw)):Option (Int × ByteArray × Int × Int × ByteArray):=if a0=1 then ((jT.f k aM aR 0).bind fun aw5=>((nV.f aM aR 1 0).bind fun aw6=>((jT.f k aM aR 2).bind fun aw7=>((jT.f k aM aR 3).bind fun aw8=>(some (aw5,aw6,aw7,aw8,(⟨#[]⟩:ByteArray))))))) else (if a0=5 then ((nV.f aM aR 0 0).bind fun aw9=>((jT.f k aM aR 1).bind fun axa=>(some (0,aw9,axa,0,(⟨#[]⟩:ByteArray))))) else (if a0=6 then ((nV.f aM aR 0 0).bind fun axb=>((jT.f k aM aR 1).bind fun axc=>((nV.f aM aR 2 0).bind fun axd=>(some (0,axb,axc,0,axd))))) else (if a0=7 then ((jT.f k aM aR 0).bind fun axe=>((jT.f k aM aR 1).bind fun axf=>((jT.f k aM aR 2).bind fun axg=>(some (axe,(⟨#[]⟩:ByteArray),axf,axg,(⟨#[]⟩:ByteArray)))))) else ((jT.f k aM aR 0).bind fun axh=>((jT.f k aM aR 1).bind fun axi=>((nV.f aM aR 2 0).bind fun axj=>(some (axh,(⟨#[]⟩:ByteArray),axi,0,axj))))))))
def Jh.f (a0:Int):Option (Bool):=if a0≥1 then (some (decide (a0≤4))) else (some false)
def Ji.f (a0:Int):Option (Bool):=if a0=1 then (some true) else (if a0=5 then (some true) else (some (a0 == 6)))
mutual
def kL.j0:Nat→Bool→ByteArray→List (dw)→ByteArray→List (dw)→Option (Bool)
 | 0,_,_,_,_,_=>none
 | k+1,x20,Nz,Ak,NA,Am=>if x20=true then (some false) else (kL.l0 k 0 Nz Ak NA Am)
def kL.l0:Nat→Int→ByteArray→List (dw)→ByteArray→List (dw)→Option (Bool)
 | 0,_,_,_,_,_=>none
 | k+1,x5,Nz,Ak,NA,Am=>if x5<(Ak.length:Int) then (if 0≤x5 then (if x5<(Am.length:Int) then (if (((aH Ak x5).f0).length:Int)=(((aH Am x5).f0).length:Int) then (kL.l1 k x5 0 Nz Ak NA Am) else (some false)) else (none)) else (none)) else (some true)
def kL.l1:Nat→Int→Int→ByteArray→List (dw)→ByteArray→List (dw)→Option (Bool)
 | 0,_,_,_,_,_,_=>none
 | k+1,x5,x6,Nz,Ak,NA,Am=>if 0≤x5 then (if x5<(Ak.length:Int) then (if x6<(((aH Ak x5).f0).length:Int) then (if 0≤x6 then (if x5<(Am.length:Int) then (if x6<(((aH Am x5).f0).length:Int) then (if (aX ByteArray.empty ((aH Ak x5).f0) x6).toList=(aX ByteArray.empty ((aH Am x5).f0) x6).toList then (kL.l1 k x5 (wrap64 (x6+1)) Nz Ak NA Am) else (some false)) else (none)) else (none)) else (none)) else (kL.l0 k (wrap64 (x5+1)) Nz Ak NA Am)) else (none)) else (none)
end
def kL.f (k:Nat) (ag:ByteArray) (aK:List (dw)) (aM:ByteArray) (aR:List (dw)):Option (Bool):=if ag.toList=aM.toList then (kL.j0 k ((aK.length:Int) != (aR.length:Int)) ag aK aM aR) else (kL.j0 k true ag aK aM aR)
mutual
def bK.j0:Nat→Int→List (bA)→Int→ByteArray→ByteArray→Int→Option (Int × ByteArray × ByteArray × Int × List ByteArray × (List (aY)) × Int × Int)
 | 0,_,_,_,_,_,_=>none
 | k+1,x0,x1,sw,sD,sF,sG=>bK.l0 k x0 x1 1 sw sD sF sG ([]:List ByteArray) ([]:List (aY))
def bK.l0:Nat→Int→List (bA)→Int→Int→ByteArray→ByteArray→Int→List ByteArray→List (aY)→Option (Int × ByteArray × ByteArray × Int × List ByteArray × (List (aY)) × Int × Int)
 | 0,_,_,_,_,_,_,_,_,_=>none
 | k+1,x0,x1,x7,sw,sD,sF,sG,tQ,mY=>if x7<(x1.length:Int) then (if 0≤x7 then (if ((av x1 x7).f0).toList=([78,79,84]:List UInt8) then ((nV.f ((av x1 x7).f0) ((av x1 x7).f1) 0 0).bind fun M5=>(if tQ.length<8796093022208 then (bK.l0 k x0 x1 (wrap64 (x7+1)) sw sD sF sG (tQ++[M5]) mY) else (none))) else ((jd.f k x0 ((av x1 x7).f0) ((av x1 x7).f1)).bind fun AV=>(if (mY.length:Int)>0 then (if 0≤(wrap64 ((mY.length:Int) - 1)) then (if (wrap64 ((mY.length:Int) - 1))<(mY.length:Int) then (bK.j2 k x0 x1 x7 ((ai mY (wrap64 ((mY.length:Int) - 1))).f0) sw sD sF sG tQ mY AV.1 AV.2.1 AV.2.2.1 AV.2.2.2.1 AV.2.2.2.2) else (none)) else (none)) else (bK.j2 k x0 x1 x7 0 sw sD sF sG tQ mY AV.1 AV.2.1 AV.2.2.1 AV.2.2.2.1 AV.2.2.2.2)))) else (none)) else (some (sw,sD,sF,sG,tQ,mY,0,0))
def bK.j2:Nat→Int→List (bA)→Int→Int→Int→ByteArray→ByteArray→Int→List ByteArray→List (aY)→Int→ByteArray→Int→Int→ByteArray→Option (Int × ByteArray × ByteArray × Int × List ByteArray × (List (aY)) × Int × Int)
 | 0,_,_,_,_,_,_,_,_,_,_,_,_,_,_,_=>none
 | k+1,x0,x1,x7,x9,sw,sD,sF,sG,tQ,mY,wW,yf,y7,y8,y9=>(Jh.f x0).bind fun XR=>(if XR=true then (if wW≤x9 then (bK.j3 k x0 x1 x7 true sw sD sF sG tQ mY wW yf y7 y8 y9) else (bK.j3 k x0 x1 x7 (decide (wW>999)) sw sD sF sG tQ mY wW yf y7 y8 y9)) else (bK.j3 k x0 x1 x7 false sw sD sF sG tQ mY wW yf y7 y8 y9))
def bK.j3:Nat→Int→List (bA)→Int→Bool→Int→ByteArray→ByteArray→Int→List ByteArray→List (aY)→Int→ByteArray→Int→Int→ByteArray→Option (Int × ByteArray × ByteArray × Int × List ByteArray × (List (aY)) × Int × Int)
 | 0,_,_,_,_,_,_,_,_,_,_,_,_,_,_,_=>none
 | k+1,x0,x1,x7,x97,sw,sD,sF,sG,tQ,mY,wW,yf,y7,y8,y9=>if x97=true then (some (0,(⟨#[]⟩:ByteArray),(⟨#[]⟩:ByteArray),0,([]:List ByteArray),([]:List (aY)),x7,11)) else (bK.l1 k x0 x1 x7 0 sw sD sF sG tQ mY wW yf y7 y8 y9)
def bK.l1:Nat→Int→List (bA)→Int→Int→Int→ByteArray→ByteArray→Int→List ByteArray→List (aY)→Int→ByteArray→Int→Int→ByteArray→Option (Int × ByteArray × ByteArray × Int × List ByteArray × (List (aY)) × Int × Int)
 | 0,_,_,_,_,_,_,_,_,_,_,_,_,_,_,_=>none
 | k+1,x0,x1,x7,yY,sw,sD,sF,sG,tQ,mY,wW,yf,y7,y8,y9=>if yY<(mY.length:Int) then ((Ji.f x0).bind fun XT=>(bK.j5 k x0 x1 x7 yY XT sw sD sF sG tQ mY wW yf y7 y8 y9)) else (bK.j5 k x0 x1 x7 yY false sw sD sF sG tQ mY wW yf y7 y8 y9)
def bK.j5:Nat→Int→List (bA)→Int→Int→Bool→Int→ByteArray→ByteArray→Int→List ByteArray→List (aY)→Int→ByteArray→Int→Int→ByteArray→Option (Int × ByteArray × ByteArray × Int × List ByteArray × (List (aY)) × Int × Int)
 | 0,_,_,_,_,_,_,_,_,_,_,_,_,_,_,_,_=>none
 | k+1,x0,x1,x7,yY,aze,sw,sD,sF,sG,tQ,mY,wW,yf,y7,y8,y9=>if aze=true then (if 0≤yY then (if yY<(mY.length:Int) then (if ((ai mY yY).f1).toList=yf.toList then (some (0,(⟨#[]⟩:ByteArray),(⟨#[]⟩:ByteArray),0,([]:List ByteArray),([]:List (aY)),x7,11)) else (bK.l1 k x0 x1 x7 (wrap64 (yY+1)) sw sD sF sG tQ mY wW yf y7 y8 y9)) else (none)) else (none)) else ((eF.f k x0 wW yf y7 y8 y9).bind fun agI=>(if 0≤x7 then (if x7<(x1.length:Int) then ((kL.f k agI.1 agI.2 ((av x1 x7).f0) ((av x1 x7).f1)).bind fun adK=>(if adK=true then (if mY.length<2513169434916 then (bK.l0 k x0 x1 (wrap64 (x7+1)) sw sD sF sG tQ (mY++[(⟨wW,yf,y7,y8,y9⟩:aY)])) else (none)) else (some (0,(⟨#[]⟩:ByteArray),(⟨#[]⟩:ByteArray),0,([]:List ByteArray),([]:List (aY)),x7,3)))) else (none)) else (none)))
end
def bK.f (k:Nat) (a0:Int) (l1:List (bA)):Option (Int × ByteArray × ByteArray × Int × List ByteArray × (List (aY)) × Int × Int):=(dP.f k a0 l1).bind fun aax=>(if aax.2.2=0 then (if 0<(l1.length:Int) then ((nV.f ((av l1 0).f0) ((av l1 0).f1) 0 0).bind fun mG=>((jT.f k ((av l1 0).f0) ((av l1 0).f1) 1).bind fun yU=>((Bz.f a0).bind fun XP=>(if XP=true then ((nV.f ((av l1 0).f0) ((av l1 0).f1) 1 0).bind fun Jl=>((jT.f k ((av l1 0).f0) ((av l1 0).f1) 2).bind fun XQ=>(bK.j0 k a0 l1 a0 mG Jl XQ))) else (bK.j0 k a0 l1 a0 mG (⟨#[]⟩:ByteArray) yU))))) else (none)) else (some (0,(⟨#[]⟩:ByteArray),(⟨#[]⟩:ByteArray),0,([]:List ByteArray),([]:List (aY)),aax.1,aax.2.2)))
mutual
def jM.j0:Nat→Bool→Int→ByteArray→ByteArray→Int→List ByteArray→List (aY)→Int→ByteArray→ByteArray→Int→List ByteArray→List (aY)→Option (Bool)
 | 0,_,_,_,_,_,_,_,_,_,_,_,_,_=>none
 | k+1,x50,NB,NC,ND,NE,Gb,za,NF,NG,NH,NI,Gc,zb=>if x50=true then (some false) else (jM.l0 k 0 NB NC ND NE Gb za NF NG NH NI Gc zb)
def jM.l0:Nat→Int→Int→ByteArray→ByteArray→Int→List ByteArray→List (aY)→Int→ByteArray→ByteArray→Int→List ByteArray→List (aY)→Option (Bool)
 | 0,_,_,_,_,_,_,_,_,_,_,_,_,_=>none
 | k+1,x5,NB,NC,ND,NE,Gb,za,NF,NG,NH,NI,Gc,zb=>if x5<(Gb.length:Int) then (if 0≤x5 then (if x5<(Gc.length:Int) then (if (aX ByteArray.empty Gb x5).toList=(aX ByteArray.empty Gc x5).toList then (jM.l0 k (wrap64 (x5+1)) NB NC ND NE Gb za NF NG NH NI Gc zb) else (some false)) else (none)) else (none)) else (jM.l1 k 0 NB NC ND NE Gb za NF NG NH NI Gc zb)
def jM.l1:Nat→Int→Int→ByteArray→ByteArray→Int→List ByteArray→List (aY)→Int→ByteArray→ByteArray→Int→List ByteArray→List (aY)→Option (Bool)
 | 0,_,_,_,_,_,_,_,_,_,_,_,_,_=>none
 | k+1,x6,NB,NC,ND,NE,Gb,za,NF,NG,NH,NI,Gc,zb=>if x6<(za.length:Int) then (if 0≤x6 then (if x6<(zb.length:Int) then (if (!(((ai za x6).f0) == ((ai zb x6).f0)) || (!((((ai za x6).f1).toList) == (((ai zb x6).f1).toList)) || (!(((ai za x6).f2) == ((ai zb x6).f2)) || (!(((ai za x6).f3) == ((ai zb x6).f3)) || (!((((ai za x6).f4).toList) == (((ai zb x6).f4).toList)))))))=true then (some false) else (jM.l1 k (wrap64 (x6+1)) NB NC ND NE Gb za NF NG NH NI Gc zb)) else (none)) else (none)) else (some true)
end
def jM.f (k:Nat) (ag:Int) (aj:ByteArray) (ak:ByteArray) (aD:Int) (ay:List ByteArray) (ah:List (aY)) (aM:Int) (dh:ByteArray) (dx:ByteArray) (ek:Int) (iB:List ByteArray) (gD:List (aY)):Option (Bool):=if ag=aM then (if aj.toList=dh.toList then (if ak.toList=dx.toList then (if aD=ek then (if (ay.length:Int)=(iB.length:Int) then (jM.j0 k ((ah.length:Int) != (gD.length:Int)) ag aj ak aD ay ah aM dh dx ek iB gD) else (jM.j0 k true ag aj ak aD ay ah aM dh dx ek iB gD)) else (jM.j0 k true ag aj ak aD ay ah aM dh dx ek iB gD)) else (jM.j0 k true ag aj ak aD ay ah aM dh dx ek iB gD)) else (jM.j0 k true ag aj ak aD ay ah aM dh dx ek iB gD)) else (jM.j0 k true ag aj ak aD ay ah aM dh dx ek iB gD)
mutual
def jA.j0:Nat→Bool→Int→ByteArray→ByteArray→Int→List ByteArray→List (aY)→Option (Bool)
 | 0,_,_,_,_,_,_,_=>none
 | k+1,x15,NJ,TK,TL,TM,TN,TP=>if x15=true then (some false) else ((fB.f k NJ TK TL TM TN TP).bind fun axk=>(jA.l0 k axk 0 NJ TK TL TM TN TP))
def jA.l0:Nat→List (bA)→Int→Int→ByteArray→ByteArray→Int→List ByteArray→List (aY)→Option (Bool)
 | 0,_,_,_,_,_,_,_,_=>none
 | k+1,x3,x4,NJ,TK,TL,TM,TN,TP=>if x4<(x3.length:Int) then (if 0≤x4 then ((iG.f k ((av x3 x4).f0) ((av x3 x4).f1)).bind fun axl=>(if axl=true then (jA.l0 k x3 (wrap64 (x4+1)) NJ TK TL TM TN TP) else (some false))) else (none)) else ((bK.f k NJ x3).bind fun He=>(if He.2.2.2.2.2.2.2=0 then ((jM.f k He.1 He.2.1 He.2.2.1 He.2.2.2.1 He.2.2.2.2.1 He.2.2.2.2.2.1 NJ TK TL TM TN TP).bind fun axm=>(some axm)) else (some false)))
end
def jA.f (k:Nat) (ag:Int) (aj:ByteArray) (ak:ByteArray) (aD:Int) (ay:List ByteArray) (ah:List (aY)):Option (Bool):=if (ay.length:Int)>40 then (jA.j0 k true ag aj ak aD ay ah) else (jA.j0 k (decide ((ah.length:Int)>20)) ag aj ak aD ay ah)
def iX.l1 (k:Nat) (p:gN) (i:Int) (l:List gP):Option (List gP):=if 0<l.length∧(cu l ((l.length:Int) - 1)).f2.length+1<4398046511104 then (fB.f k p.f0 p.f1 p.f2 p.f3 p.f4 p.f5).bind fun b=>some (l.set (l.length - 1) ⟨(cu l ((l.length:Int) - 1)).f0,(cu l ((l.length:Int) - 1)).f1,(cu l ((l.length:Int) - 1)).f2++[(⟨wrap64 (i+1),b⟩:kN)]⟩) else none
def iX.l2 (k:Nat) (p:gN) (i:Int) (l:List gP):Option (List gP):=iX.l1 k p i (l++[(⟨p.f0,wrap64 ((l.length:Int)+1),[]⟩:gP)])
def iX.l0:Nat→List gN→Int→List gP→Option (List gP)
 | 0,_,_,_=>none
 | k+1,p,i,l=>if i<(p.length:Int) then (if 0≤i then (if l.length+1<3518437208883 then (if (l.length:Int)=0 then iX.l2 k (aG p i) i l else if (cu l ((l.length:Int) - 1)).f0=(aG p i).f0 then iX.l1 k (aG p i) i l else iX.l2 k (aG p i) i l).bind fun c=>iX.l0 k p (wrap64 (i+1)) c else none) else none) else some l
def iX.f (k:Nat) (ag:ByteArray) (aj:ByteArray) (ak:Int) (au:List gN):Option (ByteArray × ByteArray × Int × List gP):=(iX.l0 k au 0 []).bind fun l=>some (ag,aj,ak,l)
def Ad.f (a0:Int):Option (Bool):=if a0≥1 then (some (decide (a0≤999999))) else (some false)
def FV.f (a0:ByteArray):Option (Bool):=if a0.toList=([73,88,72]:List UInt8) then (some true) else (if a0.toList=([71,82,72]:List UInt8) then (some true) else (if a0.toList=([77,83,72]:List UInt8) then (some true) else (if a0.toList=([77,83,84]:List UInt8) then (some true) else (if a0.toList=([71,82,84]:List UInt8) then (some true) else (some (a0.toList == ([73,88,84]:List UInt8)))))))
mutual
def eP.j0:Nat→Bool→ByteArray→ByteArray→Int→List (gP)→Option (Bool)
 | 0,_,_,_,_,_=>none
 | k+1,x35,sH,sI,sJ,jG=>if x35=true then (some false) else (eP.l0 k 0 sH sI sJ jG)
def eP.l0:Nat→Int→ByteArray→ByteArray→Int→List (gP)→Option (Bool)
 | 0,_,_,_,_,_=>none
 | k+1,x3,sH,sI,sJ,jG=>if x3<(jG.length:Int) then (if 0≤x3 then (if ((cu jG x3).f0)<1 then (eP.j2 k x3 true sH sI sJ jG ((cu jG x3).f0) ((cu jG x3).f1) ((cu jG x3).f2)) else (if ((cu jG x3).f0)>7 then (eP.j2 k x3 true sH sI sJ jG ((cu jG x3).f0) ((cu jG x3).f1) ((cu jG x3).f2)) else ((Ad.f ((cu jG x3).f1)).bind fun axq=>(if axq=true then (if (((cu jG x3).f2).length:Int)<1 then (eP.j2 k x3 true sH sI sJ jG ((cu jG x3).f0) ((cu jG x3).f1) ((cu jG x3).f2)) else (eP.j2 k x3 (decide ((((cu jG x3).f2).length:Int)>10)) sH sI sJ jG ((cu jG x3).f0) ((cu jG x3).f1) ((cu jG x3).f2))) else (eP.j2 k x3 true sH sI sJ jG ((cu jG x3).f0) ((cu jG x3).f1) ((cu jG x3).f2)))))) else (none)) else (some true)
def eP.j2:Nat→Int→Bool→ByteArray→ByteArray→Int→List (gP)→Int→Int→List (kN)→Option (Bool)
 | 0,_,_,_,_,_,_,_,_,_=>none
 | k+1,x3,x73,sH,sI,sJ,jG,DX,DY,uI=>if x73=true then (some false) else (eP.l1 k x3 0 sH sI sJ jG DX DY uI)
def eP.l1:Nat→Int→Int→ByteArray→ByteArray→Int→List (gP)→Int→Int→List (kN)→Option (Bool)
 | 0,_,_,_,_,_,_,_,_,_=>none
 | k+1,x3,x5,sH,sI,sJ,jG,DX,DY,uI=>if x5<(uI.length:Int) then (if 0≤x5 then ((Ad.f ((lg uI x5).f0)).bind fun axr=>(if axr=true then (eP.j4 k x3 x5 (decide ((((lg uI x5).f1).length:Int)>40)) sH sI sJ jG DX DY uI ((lg uI x5).f0) ((lg uI x5).f1)) else (eP.j4 k x3 x5 true sH sI sJ jG DX DY uI ((lg uI x5).f0) ((lg uI x5).f1)))) else (none)) else (eP.l0 k (wrap64 (x3+1)) sH sI sJ jG)
def eP.j4:Nat→Int→Int→Bool→ByteArray→ByteArray→Int→List (gP)→Int→Int→List (kN)→Int→List (bA)→Option (Bool)
 | 0,_,_,_,_,_,_,_,_,_,_,_,_=>none
 | k+1,x3,x5,x95,sH,sI,sJ,jG,DX,DY,uI,adX,JW=>if x95=true then (some false) else (eP.l2 k x3 x5 0 sH sI sJ jG DX DY uI adX JW)
def eP.l2:Nat→Int→Int→Int→ByteArray→ByteArray→Int→List (gP)→Int→Int→List (kN)→Int→List (bA)→Option (Bool)
 | 0,_,_,_,_,_,_,_,_,_,_,_,_=>none
 | k+1,x3,x5,x7,sH,sI,sJ,jG,DX,DY,uI,adX,JW=>if x7<(JW.length:Int) then (if 0≤x7 then ((iG.f k ((av JW x7).f0) ((av JW x7).f1)).bind fun axs=>(if axs=true then ((FV.f ((av JW x7).f0)).bind fun axt=>(if axt=true then (some false) else (eP.l2 k x3 x5 (wrap64 (x7+1)) sH sI sJ jG DX DY uI adX JW))) else (some false))) else (none)) else (eP.l1 k x3 (wrap64 (x5+1)) sH sI sJ jG DX DY uI)
end
def eP.f (k:Nat) (ag:ByteArray) (aj:ByteArray) (ak:Int) (au:List (gP)):Option (Bool):=(jf.f k ag).bind fun axn=>(if axn=true then ((jf.f k aj).bind fun axo=>(if axo=true then ((Ad.f ak).bind fun axp=>(if axp=true then (if (au.length:Int)<1 then (eP.j0 k true ag aj ak au) else (eP.j0 k (decide ((au.length:Int)>5)) ag aj ak au)) else (eP.j0 k true ag aj ak au))) else (eP.j0 k true ag aj ak au))) else (eP.j0 k true ag aj ak au))
def qH.l0:Nat→Int→ByteArray→ByteArray→Int→List (gN)→Option (Bool)
 | 0,_,_,_,_,_=>none
 | k+1,x3,alK,alL,alM,DZ=>if x3<(DZ.length:Int) then (if 0≤x3 then ((jA.f k ((aG DZ x3).f0) ((aG DZ x3).f1) ((aG DZ x3).f2) ((aG DZ x3).f3) ((aG DZ x3).f4) ((aG DZ x3).f5)).bind fun axu=>(if axu=true then (qH.l0 k (wrap64 (x3+1)) alK alL alM DZ) else (some false))) else (none)) else ((iX.f k alK alL alM DZ).bind fun Vm=>((eP.f k Vm.1 Vm.2.1 Vm.2.2.1 Vm.2.2.2).bind fun axv=>(some axv)))
def qH.f (k:Nat) (ag:ByteArray) (aj:ByteArray) (ak:Int) (au:List (gN)):Option (Bool):=if (au.length:Int)>50 then (some false) else (qH.l0 k 0 ag aj ak au)
def kY.f (a0:Int) (a1:Int) (a2:Int):Option (Bool):=if a1≤a0 then (some (decide (a0≤a2))) else (some false)
def Bq.f (a0:Int):Option (Bool):=(kY.f a0 2 4).bind fun axw=>(some axw)
def M3.f (a0 a1:Int):Option ByteArray:=if a1=10 then (if -9223372036854775808≤a0 then (if a0≤9223372036854775807 then some (⟨(Lib.itoa a0).toArray⟩:ByteArray) else none) else none) else none
def wH.f (a0:Int):Option (ByteArray):=(M3.f a0 10).bind fun axx=>(some axx)
def mW.l0:Nat→List ByteArray→Int→Int→ByteArray→List (dw)→Option (ByteArray × (List (dw)))
 | 0,_,_,_,_,_=>none
 | k+1,yY,Yc,xZ,alN,adY=>if xZ<Yc then (if 0≤xZ then (if xZ<(yY.length:Int) then (if adY.length<5864062014805 then (mW.l0 k yY Yc (wrap64 (xZ+1)) alN (adY++[(⟨(([aX ByteArray.empty yY xZ]:List ByteArray))⟩:dw)])) else (none)) else (none)) else (none)) else (some (alN,adY))
def mW.f (k:Nat) (a0:ByteArray) (l1:List ByteArray):Option (ByteArray × (List (dw))):=mW.l0 k l1 (l1.length:Int) 0 a0 ([]:List (dw))
def rW.f (a0:ByteArray):Option (ByteArray × Int × Int × ByteArray):=some ((⟨#[68,79,67]⟩:ByteArray),1,1,a0)
def uu.f (a0:ByteArray) (a1:ByteArray):Option (ByteArray × Int × Int × ByteArray):=some (a0,1,20,a1)
def qV.j0:Nat→Int→Bool→ByteArray→Int→Int→ByteArray→Option ((List (aC)))
 | 0,_,_,_,_,_,_=>none
 | k+1,x7,Nn,azj,azk,azl,azm=>if Nn=true then ((rW.f (⟨#[114,114,100]⟩:ByteArray)).bind fun Vp=>((uu.f (⟨#[76,73,78]⟩:ByteArray) (⟨#[110,113,63,116]⟩:ByteArray)).bind fun Vq=>(some (([(⟨Vp.1,Vp.2.1,Vp.2.2.1,Vp.2.2.2⟩:aC),(⟨Vq.1,Vq.2.1,Vq.2.2.1,Vq.2.2.2⟩:aC)]:List (aC)))))) else (if x7=3 then ((rW.f (⟨#[114,114,100]⟩:ByteArray)).bind fun Vr=>((uu.f (⟨#[76,73,78]⟩:ByteArray) (⟨#[110,113]⟩:ByteArray)).bind fun Vs=>(some (([(⟨Vr.1,Vr.2.1,Vr.2.2.1,Vr.2.2.2⟩:aC),(⟨azj,azk,azl,azm⟩:aC),(⟨Vs.1,Vs.2.1,Vs.2.2.1,Vs.2.2.2⟩:aC)]:List (aC)))))) else (if x7=5 then ((rW.f (⟨#[114,100]⟩:ByteArray)).bind fun Vt=>((uu.f (⟨#[73,84,77]⟩:ByteArray) (⟨#[114,110]⟩:ByteArray)).bind fun Vu=>(some (([(⟨Vt.1,Vt.2.1,Vt.2.2.1,Vt.2.2.2⟩:aC),(⟨Vu.1,Vu.2.1,Vu.2.2.1,Vu.2.2.2⟩:aC)]:List (aC)))))) else (if x7=6 then ((rW.f (⟨#[114,100]⟩:ByteArray)).bind fun Vv=>((uu.f (⟨#[73,84,77]⟩:ByteArray) (⟨#[114,122,63,116]⟩:ByteArray)).bind fun Vw=>(some (([(⟨Vv.1,Vv.2.1,Vv.2.2.1,Vv.2.2.2⟩:aC),(⟨Vw.1,Vw.2.1,Vw.2.2.1,Vw.2.2.2⟩:aC)]:List (aC)))))) else (if x7=7 then ((rW.f (⟨#[114,100]⟩:ByteArray)).bind fun Vx=>(some (([(⟨Vx.1,Vx.2.1,Vx.2.2.1,Vx.2.2.2⟩:aC),(⟨(⟨#[65,67,75]⟩:ByteArray),1,1,(⟨#[110,110,63,110]⟩:ByteArray)⟩:aC)]:List (aC))))) else (some ([]:List (aC)))))))
def qV.f (k:Nat) (a0:Int):Option ((List (aC))):=if a0=1 then ((rW.f (⟨#[114,100]⟩:ByteArray)).bind fun Vn=>((uu.f (⟨#[76,73,78]⟩:ByteArray) (⟨#[110,114,113,63,110]⟩:ByteArray)).bind fun Vo=>(some (([(⟨Vn.1,Vn.2.1,Vn.2.2.1,Vn.2.2.2⟩:aC),(⟨(⟨#[78,79,84]⟩:ByteArray),0,2,(⟨#[116]⟩:ByteArray)⟩:aC),(⟨Vo.1,Vo.2.1,Vo.2.2.1,Vo.2.2.2⟩:aC)]:List (aC)))))) else (if a0=2 then (qV.j0 k a0 (a0 == 2) (⟨#[78,79,84]⟩:ByteArray) 0 2 (⟨#[116]⟩:ByteArray)) else (qV.j0 k a0 (a0 == 4) (⟨#[78,79,84]⟩:ByteArray) 0 2 (⟨#[116]⟩:ByteArray)))
def IL.f (k:Nat) (a0:Int):Option (ByteArray):=(qV.f k a0).bind fun Te=>(if 0≤(wrap64 ((Te.length:Int) - 1)) then (if (wrap64 ((Te.length:Int) - 1))<(Te.length:Int) then (some ((di Te (wrap64 ((Te.length:Int) - 1))).f0)) else (none)) else (none))
def qy.j0:Nat→Int→Bool→Option (ByteArray)
 | 0,_,_=>none
 | k+1,x3,x6=>if x6=true then (some (⟨#[78,81,84]⟩:ByteArray)) else (if x3=3 then (some (⟨#[78,81]⟩:ByteArray)) else (if x3=5 then (some (⟨#[73,81]⟩:ByteArray)) else (if x3=6 then (some (⟨#[73,81,84]⟩:ByteArray)) else (if x3=7 then (some (⟨#[78,81,77]⟩:ByteArray)) else (some (⟨#[]⟩:ByteArray))))))
def qy.f (k:Nat) (a0:Int):Option (ByteArray):=if a0=1 then (some (⟨#[78,73,81,77]⟩:ByteArray)) else (if a0=2 then (qy.j0 k a0 (a0 == 2)) else (qy.j0 k a0 (a0 == 4)))
def xP.f (a0:Int):Option (Bool):=if a0=73 then (some true) else (some (a0 == 84))
def nE.l0 (f0:Int) (f1:ByteArray) (f2 f3:Int) (f4:ByteArray):List UInt8→List ByteArray→Option (List ByteArray)
 | [],acc=>some acc
 | c :: cs,acc=>if acc.length<1000 then
   (if c=77 then (if f3=0 then nE.l0 f0 f1 f2 f3 f4 cs acc else (wH.f f3).bind fun d=>nE.l0 f0 f1 f2 f3 f4 cs (acc++[d]))
   else if c=84 then (if f4.toList=[] then nE.l0 f0 f1 f2 f3 f4 cs acc else nE.l0 f0 f1 f2 f3 f4 cs (acc++[f4]))
   else if c=73 then nE.l0 f0 f1 f2 f3 f4 cs (acc++[f1])
   else if c=78 then (wH.f f0).bind fun d=>nE.l0 f0 f1 f2 f3 f4 cs (acc++[d])
   else if c=81 then (wH.f f2).bind fun d=>nE.l0 f0 f1 f2 f3 f4 cs (acc++[d])
   else none) else none
def nE.f (k:Nat) (a0 f0:Int) (f1:ByteArray) (f2 f3:Int) (f4:ByteArray):Option (List ByteArray):=(qy.f k a0).bind fun s=>nE.l0 f0 f1 f2 f3 f4 s.data.toList []
end Go.Proofs.YtapilmimgiaglaaGreatDoor.QA
