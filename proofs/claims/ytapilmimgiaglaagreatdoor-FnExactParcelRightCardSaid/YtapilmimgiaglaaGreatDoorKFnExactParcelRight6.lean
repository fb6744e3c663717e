-- Merged by a program of this session (wip/tool/pack.py) out of its own texts for this claim.
import Derived.Test.YtapilmimgiaglaaGreatDoorKFnExactParcelRight5
set_option maxHeartbeats 8000000
set_option maxRecDepth 100000
set_option linter.unusedSimpArgs false
set_option linter.unusedVariables false
namespace Go.Proofs.YtapilmimgiaglaaGreatDoor.QA
open Go.RowKit Go.Proofs.bB.fA Go.Proofs.bB.PrintLast Go.Proofs.bB.PrintMore
attribute [local go_sem] o6 pg o9 pE o8 pz o7 pq   -- for this text's walks alone
mutual
def gH.j0:Nat→List ByteArray→Int→ByteArray→ByteArray→Int→List ByteArray→List (aY)→Option ((List (bA)))
 | 0,_,_,_,_,_,_,_=>none
 | k+1,x3,Gd,NK,NL,JX,Gf,Gg=>(wH.f JX).bind fun JB=>(if x3.length<8796093022208 then ((mW.f k (⟨#[68,79,67]⟩:ByteArray) (x3++[JB])).bind fun O1=>(gH.l0 k (([(⟨O1.1,O1.2⟩:bA)]:List (bA))) Gf (Gf.length:Int) 0 Gd NK NL JX Gf Gg)) else (none))
def gH.l0:Nat→List (bA)→List ByteArray→Int→Int→Int→ByteArray→ByteArray→Int→List ByteArray→List (aY)→Option ((List (bA)))
 | 0,_,_,_,_,_,_,_,_,_,_=>none
 | k+1,x4,x29,x30,x31,Gd,NK,NL,JX,Gf,Gg=>if x31<x30 then (if 0≤x31 then (if x31<(x29.length:Int) then ((mW.f k (⟨#[78,79,84]⟩:ByteArray) (([aX ByteArray.empty x29 x31]:List ByteArray))).bind fun O3=>(if x4.length<3518437208883 then (gH.l0 k (x4++[(⟨O3.1,O3.2⟩:bA)]) x29 x30 (wrap64 (x31+1)) Gd NK NL JX Gf Gg) else (none))) else (none)) else (none)) else (gH.l1 k x4 Gg (Gg.length:Int) 0 Gd NK NL JX Gf Gg)
def gH.l1:Nat→List (bA)→List (aY)→Int→Int→Int→ByteArray→ByteArray→Int→List ByteArray→List (aY)→Option ((List (bA)))
 | 0,_,_,_,_,_,_,_,_,_,_=>none
 | k+1,x4,x43,x44,DW,Gd,NK,NL,JX,Gf,Gg=>if DW<x44 then (if 0≤DW then (if DW<(x43.length:Int) then ((IL.f k Gd).bind fun Tk=>((nE.f k Gd ((ai x43 DW).f0) ((ai x43 DW).f1) ((ai x43 DW).f2) ((ai x43 DW).f3) ((ai x43 DW).f4)).bind fun FX=>((mW.f k Tk FX).bind fun agJ=>(if x4.length<3518437208883 then (gH.l1 k (x4++[(⟨agJ.1,agJ.2⟩:bA)]) x43 x44 (wrap64 (DW+1)) Gd NK NL JX Gf Gg) else (none))))) else (none)) else (none)) else (some x4)
end
def gH.f (k:Nat) (ag:Int) (aj:ByteArray) (ak:ByteArray) (aD:Int) (ay:List ByteArray) (ah:List (aY)):Option ((List (bA))):=(some (([aj]:List ByteArray):List ByteArray)).bind fun BS=>((Bq.f ag).bind fun M8=>(if M8=true then (if BS.length<8796093022208 then (gH.j0 k (BS++[ak]) ag aj ak aD ay ah) else (none)) else (gH.j0 k BS ag aj ak aD ay ah)))
def Mk.f (l0:List (bA)):Option (Bool):=some (decide ((l0.length:Int)>400))
def strings_Cut.f (a0 a1:ByteArray):Option (ByteArray × ByteArray × Bool):=if a0.size<4294967281 then some ((⟨(Lib.cut a0.data.toList a1.data.toList).1.toArray⟩:ByteArray),(⟨(Lib.cut a0.data.toList a1.data.toList).2.1.toArray⟩:ByteArray),(Lib.cut a0.data.toList a1.data.toList).2.2) else none
def strings_IndexByte.f (a0:ByteArray) (a1:Int):Option Int:=some (Lib.indexByte a0.data.toList a1.toNat.toUInt8)
def Ms.f (a0:ByteArray):Option (Bool):=some (decide ((a0.size:Int)>20000))
def vE.l0:Nat→List ByteArray→Int→Int→Option (Int)
 | 0,_,_,_=>none
 | k+1,x0,x7,x8=>if x8<x7 then (if 0≤x8 then (if x8<(x0.length:Int) then ((Ms.f (aX ByteArray.empty x0 x8)).bind fun axy=>(if axy=true then (some x8) else (vE.l0 k x0 x7 (wrap64 (x8+1))))) else (none)) else (none)) else (some (-1))
def vE.f (k:Nat) (l0:List ByteArray)  : Option (Int):=vE.l0 k l0 (l0.length:Int) 0
def MW.f (k:Nat) (l0:List ByteArray)  : Option (Bool):=(vE.f k l0).bind fun axz=>(some (decide (axz≥0)))
def Dn.f (k:Nat) (l0:List ByteArray):Option (Bool):=(MW.f k l0).bind fun axA=>(some axA)
def xO.f (a0:Int):Option (Bool):=if a0≥65 then (some (decide (a0≤90))) else (some false)
def Dl.f (a0:Int):Option (Bool):=if a0≥48 then (some (decide (a0≤57))) else (some false)
def oI.l0:Nat→ByteArray→Int→Int→Option (Bool)
 | 0,_,_,_=>none
 | k+1,x0,x5,x6=>if x6<x5 then (if 0≤x6 then (if x6<(x0.size:Int) then ((xO.f (bt x0 x6)).bind fun axC=>(if axC=true then (oI.l0 k x0 x5 (wrap64 (x6+1))) else (if x6=0 then (some false) else ((Dl.f (bt x0 x6)).bind fun axD=>(if axD=true then (oI.l0 k x0 x5 (wrap64 (x6+1))) else (if (bt x0 x6)=45 then (oI.l0 k x0 x5 (wrap64 (x6+1))) else (some false))))))) else (none)) else (none)) else ((kY.f (x0.size:Int) 1 12).bind fun axB=>(some axB))
def oI.f (k:Nat) (a0:ByteArray):Option (Bool):=oI.l0 k a0 (a0.size:Int) 0
mutual
def kF.j0:Nat→ByteArray→ByteArray→Bool→Option (Bool)
 | 0,_,_,_=>none
 | k+1,x0,x3,xZ=>if xZ=true then (if 1≤(x0.size:Int) then (kF.j1 k x0 (x0.extract 1 x0.size)) else (none)) else (kF.j1 k x0 x3)
def kF.j1:Nat→ByteArray→ByteArray→Option (Bool)
 | 0,_,_=>none
 | k+1,x0,x3=>kF.l0 k x0 x3 (x3.size:Int) 0
def kF.l0:Nat→ByteArray→ByteArray→Int→Int→Option (Bool)
 | 0,_,_,_,_=>none
 | k+1,x0,x3,Nn,Tz=>if Tz<Nn then (if 0≤Tz then (if Tz<(x3.size:Int) then ((Dl.f (bt x3 Tz)).bind fun axE=>(if axE=true then (kF.l0 k x0 x3 Nn (wrap64 (Tz+1))) else (some false))) else (none)) else (none)) else (if x3.toList=([]:List UInt8) then (some false) else (if 0<(x3.size:Int) then (if (bt x3 0)=48 then (some (x0.toList == ([48]:List UInt8))) else (some true)) else (none)))
end
def kF.f (k:Nat) (a0:ByteArray):Option (Bool):=if a0.toList=([]:List UInt8) then (kF.j0 k a0 a0 false) else (if 0<(a0.size:Int) then (kF.j0 k a0 a0 ((bt a0 0) == 45)) else (none))
def mV.f (k:Nat) (a0:ByteArray) (a1 a2:Int):Option (Int × Bool):=if a0.size≤281474976710656 then (match Lib.parseIntB 64 a0.data.toList with | .ok v=>((kF.f k a0).bind fun b=>if b=true then ((kY.f v a1 a2).bind fun c=>some (v,c)) else some (v,false)) | .«syntax»=>some (0,false) | .range=>some (Lib.intSat 64 a0.data.toList,false)) else none
def vw.l0:Nat→ByteArray→Int→Int→Option (Bool)
 | 0,_,_,_=>none
 | k+1,x0,x5,x6=>if x6<x5 then (if 0≤x6 then (if x6<(x0.size:Int) then (if (bt x0 x6)<32 then (some false) else (if (bt x0 x6)>126 then (some false) else (vw.l0 k x0 x5 (wrap64 (x6+1))))) else (none)) else (none)) else (some true)
def vw.f (k:Nat) (a0:ByteArray):Option (Bool):=vw.l0 k a0 (a0.size:Int) 0
def Dm.f (k:Nat) (a0:ByteArray):Option (Bool):=if (a0.size:Int)≤40 then ((vw.f k a0).bind fun axF=>(some axF)) else (some false)
def qz.f (k:Nat) (a0:Int) (a1:ByteArray):Option (Bool):=if a0=114 then ((oI.f k a1).bind fun axG=>(some axG)) else (if a0=110 then ((mV.f k a1 0 1000000000).bind fun aqk=>(some aqk.2)) else (if a0=113 then ((mV.f k a1 1 1000000).bind fun aql=>(some aql.2)) else (if a0=122 then ((mV.f k a1 (-1000000) 1000000).bind fun aqm=>(if aqm.2=true then (some (a1.toList != ([48]:List UInt8))) else (some false))) else (if a0=100 then ((mV.f k a1 0 100000).bind fun aqn=>(some aqn.2)) else (if a0=116 then (if a1.toList=([]:List UInt8) then (some false) else ((Dm.f k a1).bind fun axH=>(some axH))) else (some false))))))
mutual
def eX.l0:Nat→ByteArray→ByteArray→ByteArray→Int→Int→ByteArray→List (dw)→Option (Int)
 | 0,_,_,_,_,_,_,_=>none
 | k+1,x0,x5,x8,wU,qa,Yt,Gh=>if qa<wU then (if 0≤qa then (if qa<(x8.size:Int) then ((strings_IndexByte.f (⟨#[114,110,113,122,100,116]⟩:ByteArray) (bt x8 qa)).bind fun axI=>(if axI<0 then (some 0) else (eX.l0 k x0 x5 x8 wU (wrap64 (qa+1)) Yt Gh))) else (none)) else (none)) else ((Dn.f k (([x0]:List ByteArray))).bind fun axJ=>(if axJ=true then (some 0) else (eX.l1 k x5 x8 Gh (Gh.length:Int) 0 Yt Gh)))
def eX.l1:Nat→ByteArray→ByteArray→List (dw)→Int→Int→ByteArray→List (dw)→Option (Int)
 | 0,_,_,_,_,_,_,_=>none
 | k+1,x5,x8,TH,Ym,x38,Yt,Gh=>if x38<Ym then (if 0≤x38 then (if x38<(TH.length:Int) then (if x38=(x8.size:Int) then (some x38) else (if (((aH TH x38).f0).length:Int)=1 then (if x38<(x8.size:Int) then (if 0<(((aH TH x38).f0).length:Int) then ((qz.f k (bt x8 x38) (aX ByteArray.empty ((aH TH x38).f0) 0)).bind fun axK=>(if axK=true then (eX.l1 k x5 x8 TH Ym (wrap64 (x38+1)) Yt Gh) else (some x38))) else (none)) else (none)) else (some x38))) else (none)) else (none)) else (if (Gh.length:Int)<(x5.size:Int) then (some (Gh.length:Int)) else (some (-1)))
end
def eX.f (k:Nat) (a0:ByteArray) (aM:ByteArray) (aR:List (dw)):Option (Int):=(strings_Cut.f a0 (⟨#[63]⟩:ByteArray)).bind fun Hf=>(if Hf.1.size+Hf.2.1.size≤9223372036854775807 then (eX.l0 k a0 Hf.1 (Hf.1++Hf.2.1) ((Hf.1++Hf.2.1).size:Int) 0 aM aR) else (none))
mutual
def eY.l0:Nat→List (bA)→Int→ByteArray→List (aC)→Int→Int→Option (Int × Int × Int)
 | 0,_,_,_,_,_,_=>none
 | k+1,x1,x5,x6,yc,wU,qa=>if qa<wU then (if 0≤qa then (if qa<(yc.length:Int) then (eY.l1 k x1 x5 0 yc wU qa ((di yc qa).f0) ((di yc qa).f1) ((di yc qa).f2) ((di yc qa).f3)) else (none)) else (none)) else (if x5=(x1.length:Int) then (some (0,0,0)) else (if 0≤x5 then (if x5<(x1.length:Int) then (if ((av x1 x5).f0).toList=x6.toList then (some (x5,0,7)) else (some (x5,0,3))) else (none)) else (none)))
def eY.l1:Nat→List (bA)→Int→Int→List (aC)→Int→Int→ByteArray→Int→Int→ByteArray→Option (Int × Int × Int)
 | 0,_,_,_,_,_,_,_,_,_,_=>none
 | k+1,x1,x5,x9,yc,wU,qa,JY,NN,NP,NQ=>if x9<NP then (if x5<(x1.length:Int) then (if 0≤x5 then (eY.j2 k x1 x5 x9 yc wU qa (((av x1 x5).f0).toList == JY.toList) JY NN NP NQ) else (none)) else (eY.j2 k x1 x5 x9 yc wU qa false JY NN NP NQ)) else (eY.j2 k x1 x5 x9 yc wU qa false JY NN NP NQ)
def eY.j2:Nat→List (bA)→Int→Int→List (aC)→Int→Int→Bool→ByteArray→Int→Int→ByteArray→Option (Int × Int × Int)
 | 0,_,_,_,_,_,_,_,_,_,_,_=>none
 | k+1,x1,x5,x9,yc,wU,qa,x46,JY,NN,NP,NQ=>if x46=true then (if 0≤x5 then (if x5<(x1.length:Int) then ((eX.f k NQ ((av x1 x5).f0) ((av x1 x5).f1)).bind fun alh=>(if alh≥0 then (some (x5,alh,3)) else (eY.l1 k x1 (wrap64 (x5+1)) (wrap64 (x9+1)) yc wU qa JY NN NP NQ))) else (none)) else (none)) else (if x9<NN then (some (x5,0,4)) else (eY.l0 k x1 x5 JY yc wU (wrap64 (qa+1))))
end
def eY.f (k:Nat) (a0:Int) (l1:List (bA)):Option (Int × Int × Int):=(Mk.f l1).bind fun axL=>(if axL=true then (some (0,0,2)) else ((kY.f a0 1 7).bind fun axM=>(if axM=true then ((qV.f k a0).bind fun alg=>(eY.l0 k l1 0 (⟨#[]⟩:ByteArray) alg (alg.length:Int) 0)) else (some (0,0,1)))))
def qU.l0 (k:Nat) (l1:List (dw)):List UInt8→Nat→Int→ByteArray→Int→Int→ByteArray→Option (Int × ByteArray × Int × Int × ByteArray)
 | [],_,f0,f1,f2,f3,f4=>some (f0,f1,f2,f3,f4)
 | c :: cs,i,f0,f1,f2,f3,f4=>if c.toNat<128 then (if i=l1.length then some (f0,f1,f2,f3,f4) else if (i:Int)<(l1.length:Int) then
   (if 0<(((aH l1 i).f0).length:Int) then
    (if c=77 then ((mV.f k (aX ByteArray.empty ((aH l1 i).f0) 0) (-1000000) 1000000000).bind fun v=>qU.l0 k l1 cs (i+1) f0 f1 f2 v.1 f4)
    else if c=84 then qU.l0 k l1 cs (i+1) f0 f1 f2 f3 (aX ByteArray.empty ((aH l1 i).f0) 0)
    else if c=73 then qU.l0 k l1 cs (i+1) f0 (aX ByteArray.empty ((aH l1 i).f0) 0) f2 f3 f4
    else if c=78 then ((mV.f k (aX ByteArray.empty ((aH l1 i).f0) 0) (-1000000) 1000000000).bind fun v=>qU.l0 k l1 cs (i+1) v.1 f1 f2 f3 f4)
    else if c=81 then ((mV.f k (aX ByteArray.empty ((aH l1 i).f0) 0) (-1000000) 1000000000).bind fun v=>qU.l0 k l1 cs (i+1) f0 f1 v.1 f3 f4)
    else none) else none) else none) else none
def qU.f (k:Nat) (a0:Int) (a1:ByteArray) (l1:List (dw)):Option (Int × ByteArray × Int × Int × ByteArray):=(qy.f k a0).bind fun s=>qU.l0 k l1 s.data.toList 0 0 (⟨#[]⟩:ByteArray) 0 0 (⟨#[]⟩:ByteArray)
mutual
def gK.j0:Nat→Int→List (bA)→Int→ByteArray→ByteArray→Int→Option (Int × ByteArray × ByteArray × Int × List ByteArray × (List (aY)))
 | 0,_,_,_,_,_,_=>none
 | k+1,x0,x1,TS,TT,TU,Yu=>if 0<(x1.length:Int) then (if 0≤(wrap64 ((((av x1 0).f1).length:Int) - 1)) then (if (wrap64 ((((av x1 0).f1).length:Int) - 1))<(((av x1 0).f1).length:Int) then (if 0<(((aH ((av x1 0).f1) (wrap64 ((((av x1 0).f1).length:Int) - 1))).f0).length:Int) then ((mV.f k (aX ByteArray.empty ((aH ((av x1 0).f1) (wrap64 ((((av x1 0).f1).length:Int) - 1))).f0) 0) 0 100000).bind fun aay=>(if 1≤(x1.length:Int) then ((some (x1.drop 1:List (bA))).bind fun al2=>(gK.l0 k x0 al2 (al2.length:Int) 0 TS TT TU aay.1 ([]:List ByteArray) ([]:List (aY)))) else (none))) else (none)) else (none)) else (none)) else (none)
def gK.l0:Nat→Int→List (bA)→Int→Int→Int→ByteArray→ByteArray→Int→List ByteArray→List (aY)→Option (Int × ByteArray × ByteArray × Int × List ByteArray × (List (aY)))
 | 0,_,_,_,_,_,_,_,_,_,_=>none
 | k+1,x0,D5,x58,Ao,TS,TT,TU,Yu,Yv,Yw=>if Ao<x58 then (if 0≤Ao then (if Ao<(D5.length:Int) then (if ((av D5 Ao).f0).toList=([78,79,84]:List UInt8) then (if 0<(((av D5 Ao).f1).length:Int) then (if 0<(((aH ((av D5 Ao).f1) 0).f0).length:Int) then (if Yv.length<8796093022208 then (gK.l0 k x0 D5 x58 (wrap64 (Ao+1)) TS TT TU Yu (Yv++[aX ByteArray.empty ((aH ((av D5 Ao).f1) 0).f0) 0]) Yw) else (none)) else (none)) else (none)) else ((qU.f k x0 ((av D5 Ao).f0) ((av D5 Ao).f1)).bind fun O4=>(if Yw.length<2513169434916 then (gK.l0 k x0 D5 x58 (wrap64 (Ao+1)) TS TT TU Yu Yv (Yw++[(⟨O4.1,O4.2.1,O4.2.2.1,O4.2.2.2.1,O4.2.2.2.2⟩:aY)])) else (none)))) else (none)) else (none)) else (some (TS,TT,TU,Yu,Yv,Yw))
end
def gK.f (k:Nat) (a0:Int) (l1:List (bA)):Option (Int × ByteArray × ByteArray × Int × List ByteArray × (List (aY))):=if 0<(l1.length:Int) then (if 0<(((av l1 0).f1).length:Int) then (if 0<(((aH ((av l1 0).f1) 0).f0).length:Int) then ((Bq.f a0).bind fun XW=>(if XW=true then (if 1<(((av l1 0).f1).length:Int) then (if 0<(((aH ((av l1 0).f1) 1).f0).length:Int) then (gK.j0 k a0 l1 a0 (aX ByteArray.empty ((aH ((av l1 0).f1) 0).f0) 0) (aX ByteArray.empty ((aH ((av l1 0).f1) 1).f0) 0) 0) else (none)) else (none)) else (gK.j0 k a0 l1 a0 (aX ByteArray.empty ((aH ((av l1 0).f1) 0).f0) 0) (⟨#[]⟩:ByteArray) 0))) else (none)) else (none)) else (none)
def uF.l0:Nat→List ByteArray→List ByteArray→Int→Int→Option (Bool)
 | 0,_,_,_,_=>none
 | k+1,x0,x1,xZ,oK=>if oK<xZ then (if 0≤oK then (if oK<(x0.length:Int) then (if oK<(x1.length:Int) then (if (aX ByteArray.empty x0 oK).toList=(aX ByteArray.empty x1 oK).toList then (uF.l0 k x0 x1 xZ (wrap64 (oK+1))) else (some false)) else (none)) else (none)) else (none)) else (some true)
def uF.f (k:Nat) (l0:List ByteArray) (l1:List ByteArray):Option (Bool):=if (l0.length:Int)=(l1.length:Int) then (uF.l0 k l0 l1 (l0.length:Int) 0) else (some false)
def uq.l0:Nat→List (aY)→List (aY)→Int→Int→Option (Bool)
 | 0,_,_,_,_=>none
 | k+1,x0,x1,xZ,oK=>if oK<xZ then (if 0≤oK then (if oK<(x0.length:Int) then (if oK<(x1.length:Int) then (if (!(((ai x0 oK).f0) == ((ai x1 oK).f0)) || (!((((ai x0 oK).f1).toList) == (((ai x1 oK).f1).toList)) || (!(((ai x0 oK).f2) == ((ai x1 oK).f2)) || (!(((ai x0 oK).f3) == ((ai x1 oK).f3)) || (!((((ai x0 oK).f4).toList) == (((ai x1 oK).f4).toList)))))))=true then (some false) else (uq.l0 k x0 x1 xZ (wrap64 (oK+1)))) else (none)) else (none)) else (none)) else (some true)
def uq.f (k:Nat) (l0:List (aY)) (l1:List (aY)):Option (Bool):=if (l0.length:Int)=(l1.length:Int) then (uq.l0 k l0 l1 (l0.length:Int) 0) else (some false)
def Fx.f (k:Nat) (ag:Int) (aj:ByteArray) (ak:ByteArray) (aD:Int) (ay:List ByteArray) (ah:List (aY)) (aM:Int) (dh:ByteArray) (dx:ByteArray) (ek:Int) (iB:List ByteArray) (gD:List (aY)):Option (Bool):=if ag=aM then (if aj.toList=dh.toList then (if ak.toList=dx.toList then (if aD=ek then ((uF.f k ay iB).bind fun axO=>(if axO=true then ((uq.f k ah gD).bind fun axP=>(some axP)) else (some false))) else (some false)) else (some false)) else (some false)) else (some false)
def Bp.f (a0:Int):Option (Bool):=(kY.f a0 1 4).bind fun axQ=>(some axQ)
def IP.f (a0:Int):Option (Bool):=if a0=1 then (some true) else (if a0=5 then (some true) else (some (a0 == 6)))
def Mw.f (ag:Int) (aj:ByteArray) (ak:Int) (aD:Int) (mK:ByteArray) (r9:Int) (qY:ByteArray) (sj:Int) (s1_3:Int) (su:ByteArray):Option (Bool × Int × ByteArray × Int × Int × ByteArray):=some ((aj.toList == qY.toList),r9,qY,sj,s1_3,su)
def u6.l0:Nat→List (aY)→Int→Int→Int→ByteArray→Int→Int→ByteArray→Option (Int × Int × ByteArray × Int × Int × ByteArray)
 | 0,_,_,_,_,_,_,_,_=>none
 | k+1,x0,x7,x8,x2000,alC,alD,alE,alF=>if x8<x7 then (if 0≤x8 then (if x8<(x0.length:Int) then ((Mw.f ((ai x0 x8).f0) ((ai x0 x8).f1) ((ai x0 x8).f2) ((ai x0 x8).f3) ((ai x0 x8).f4) x2000 alC alD alE alF).bind fun zz=>(if zz.1=true then (some (x8,zz.2.1,zz.2.2.1,zz.2.2.2.1,zz.2.2.2.2.1,zz.2.2.2.2.2)) else (u6.l0 k x0 x7 (wrap64 (x8+1)) zz.2.1 zz.2.2.1 zz.2.2.2.1 zz.2.2.2.2.1 zz.2.2.2.2.2))) else (none)) else (none)) else (some ((-1),x2000,alC,alD,alE,alF))
def u6.f (k:Nat) (l0:List (aY)) (r9:Int) (qY:ByteArray) (sj:Int) (s1_3:Int) (su:ByteArray):Option (Int × Int × ByteArray × Int × Int × ByteArray):=u6.l0 k l0 (l0.length:Int) 0 r9 qY sj s1_3 su
def Fw.f (k:Nat) (l0:List (aY)) (r9:Int) (qY:ByteArray) (sj:Int) (s1_3:Int) (su:ByteArray):Option (Bool × Int × ByteArray × Int × Int × ByteArray):=(u6.f k l0 r9 qY sj s1_3 su).bind fun KZ=>(some (decide (KZ.1≥0),KZ.2.1,KZ.2.2.1,KZ.2.2.2.1,KZ.2.2.2.2.1,KZ.2.2.2.2.2))
mutual
def iN.l0:Nat→List (aY)→Int→Int→Int→ByteArray→ByteArray→Int→List ByteArray→List (aY)→Option (Int)
 | 0,_,_,_,_,_,_,_,_,_=>none
 | k+1,x6,x7,x8,D6,JZ,J6,J7,J8,Ap=>if x8<x7 then (if 0≤x8 then (if x8<(x6.length:Int) then ((Bp.f D6).bind fun axR=>(if axR=true then ((kY.f ((ai x6 x8).f0) 1 999).bind fun axS=>(if axS=true then (if x8>0 then (if 0≤(wrap64 (x8 - 1)) then (if (wrap64 (x8 - 1))<(Ap.length:Int) then (iN.j1 k x8 x6 x7 x8 (decide (((ai x6 x8).f0)≤((ai Ap (wrap64 (x8 - 1))).f0))) D6 JZ J6 J7 J8 Ap ((ai x6 x8).f0) ((ai x6 x8).f1) ((ai x6 x8).f2) ((ai x6 x8).f3) ((ai x6 x8).f4)) else (none)) else (none)) else (iN.j1 k x8 x6 x7 x8 false D6 JZ J6 J7 J8 Ap ((ai x6 x8).f0) ((ai x6 x8).f1) ((ai x6 x8).f2) ((ai x6 x8).f3) ((ai x6 x8).f4))) else (iN.j1 k x8 x6 x7 x8 true D6 JZ J6 J7 J8 Ap ((ai x6 x8).f0) ((ai x6 x8).f1) ((ai x6 x8).f2) ((ai x6 x8).f3) ((ai x6 x8).f4)))) else (iN.j1 k x8 x6 x7 x8 false D6 JZ J6 J7 J8 Ap ((ai x6 x8).f0) ((ai x6 x8).f1) ((ai x6 x8).f2) ((ai x6 x8).f3) ((ai x6 x8).f4)))) else (none)) else (none)) else (some (-1))
def iN.j1:Nat→Int→List (aY)→Int→Int→Bool→Int→ByteArray→ByteArray→Int→List ByteArray→List (aY)→Int→ByteArray→Int→Int→ByteArray→Option (Int)
 | 0,_,_,_,_,_,_,_,_,_,_,_,_,_,_,_,_=>none
 | k+1,x3,x6,x7,x8,Ym,D6,JZ,J6,J7,J8,Ap,azn,azo,azp,azq,azr=>if Ym=true then (some x3) else ((IP.f D6).bind fun axT=>(if axT=true then (if 0≤x3 then (if x3≤(Ap.length:Int) then ((Fw.f k (Ap.take (x3:Int).toNat) azn azo azp azq azr).bind fun aaz=>(if aaz.1=true then (some x3) else (iN.l0 k x6 x7 (wrap64 (x8+1)) D6 JZ J6 J7 J8 Ap))) else (none)) else (none)) else (iN.l0 k x6 x7 (wrap64 (x8+1)) D6 JZ J6 J7 J8 Ap)))
end
def iN.f (k:Nat) (ag:Int) (aj:ByteArray) (ak:ByteArray) (aD:Int) (ay:List ByteArray) (ah:List (aY)):Option (Int):=iN.l0 k ah (ah.length:Int) 0 ag aj ak aD ay ah
def jD.j0:Nat→Bool→Int→ByteArray→ByteArray→Int→List ByteArray→List (aY)→Option (Bool)
 | 0,_,_,_,_,_,_,_=>none
 | k+1,x19,TY,ad4,ad5,aea,aeb,aec=>if x19=true then (some false) else ((gH.f k TY ad4 ad5 aea aeb aec).bind fun ali=>((eY.f k TY ali).bind fun aqo=>(if aqo.2.2=0 then ((gK.f k TY ali).bind fun K3=>((Fx.f k K3.1 K3.2.1 K3.2.2.1 K3.2.2.2.1 K3.2.2.2.2.1 K3.2.2.2.2.2 TY ad4 ad5 aea aeb aec).bind fun axV=>(if axV=true then ((iN.f k TY ad4 ad5 aea aeb aec).bind fun axW=>(some (decide (axW<0)))) else (some false)))) else (some false))))
def jD.f (k:Nat) (ag:Int) (aj:ByteArray) (ak:ByteArray) (aD:Int) (ay:List ByteArray) (ah:List (aY)):Option (Bool):=(kY.f ag 1 7).bind fun axU=>(if axU=true then (if (ay.length:Int)>2 then (jD.j0 k true ag aj ak aD ay ah) else (jD.j0 k (decide ((ah.length:Int)>20)) ag aj ak aD ay ah)) else (jD.j0 k true ag aj ak aD ay ah))
def Mj.f (k:Nat) (ag:Int) (aj:ByteArray) (ak:ByteArray) (aD:Int) (ay:List ByteArray) (ah:List (aY)):Option (Bool):=(jD.f k ag aj ak aD ay ah).bind fun axX=>(some (!axX))
def vk.l0:Nat→List (gN)→Int→Int→Option (Int)
 | 0,_,_,_=>none
 | k+1,x0,x7,x8=>if x8<x7 then (if 0≤x8 then (if x8<(x0.length:Int) then ((Mj.f k ((aG x0 x8).f0) ((aG x0 x8).f1) ((aG x0 x8).f2) ((aG x0 x8).f3) ((aG x0 x8).f4) ((aG x0 x8).f5)).bind fun axY=>(if axY=true then (some x8) else (vk.l0 k x0 x7 (wrap64 (x8+1))))) else (none)) else (none)) else (some (-1))
def vk.f (k:Nat) (l0:List (gN))  : Option (Int):=vk.l0 k l0 (l0.length:Int) 0
def Mi.f (k:Nat) (l0:List (gN))  : Option (Bool):=(vk.f k l0).bind fun axZ=>(some (decide (axZ≥0)))
def iW.l1 (k:Nat) (p:gN) (i:Int) (l:List gP):Option (List gP):=if 0<l.length∧(cu l ((l.length:Int) - 1)).f2.length+1<4398046511104 then (gH.f k p.f0 p.f1 p.f2 p.f3 p.f4 p.f5).bind fun b=>some (l.set (l.length - 1) ⟨(cu l ((l.length:Int) - 1)).f0,(cu l ((l.length:Int) - 1)).f1,(cu l ((l.length:Int) - 1)).f2++[(⟨wrap64 (i+1),b⟩:kN)]⟩) else none
def iW.l2 (k:Nat) (p:gN) (i:Int) (l:List gP):Option (List gP):=iW.l1 k p i (l++[(⟨p.f0,wrap64 ((l.length:Int)+1),[]⟩:gP)])
def iW.l0:Nat→List gN→Int→List gP→Option (List gP)
 | 0,_,_,_=>none
 | k+1,p,i,l=>if i<(p.length:Int) then (if 0≤i then (if l.length+1<3518437208883 then (if i=0 then iW.l2 k (aG p i) i l else if 0≤wrap64 (i - 1) then (if wrap64 (i - 1)<(p.length:Int) then (if (aG p i).f0=(aG p (wrap64 (i - 1))).f0 then iW.l1 k (aG p i) i l else iW.l2 k (aG p i) i l) else none) else none).bind fun c=>iW.l0 k p (wrap64 (i+1)) c else none) else none) else some l
def iW.f (k:Nat) (ag:ByteArray) (aj:ByteArray) (ak:Int) (au:List gN):Option (ByteArray × ByteArray × Int × List gP):=(iW.l0 k au 0 []).bind fun l=>some (ag,aj,ak,l)
def zX.f (a0:Int):Option (Bool):=(kY.f a0 1 999999).bind fun ax0=>(some ax0)
def Ml.f (k:Nat) (a0:ByteArray):Option (Bool):=(Dm.f k a0).bind fun ax1=>(some (!ax1))
def wN.l0:Nat→List ByteArray→Int→Int→Option (Int)
 | 0,_,_,_=>none
 | k+1,x0,x7,x8=>if x8<x7 then (if 0≤x8 then (if x8<(x0.length:Int) then ((Ml.f k (aX ByteArray.empty x0 x8)).bind fun ax2=>(if ax2=true then (some x8) else (wN.l0 k x0 x7 (wrap64 (x8+1))))) else (none)) else (none)) else (some (-1))
def wN.f (k:Nat) (l0:List ByteArray)  : Option (Int):=wN.l0 k l0 (l0.length:Int) 0
def Je.f (k:Nat) (l0:List ByteArray)  : Option (Bool):=(wN.f k l0).bind fun ax3=>(some (decide (ax3≥0)))
def II.f (a0:ByteArray):Option (Bool):=if (a0.size:Int)=3 then (if 0<(a0.size:Int) then ((xO.f (bt a0 0)).bind fun ax4=>(if ax4=true then (if 1<(a0.size:Int) then ((xO.f (bt a0 1)).bind fun ax5=>(if ax5=true then (if 2<(a0.size:Int) then ((xO.f (bt a0 2)).bind fun ax6=>(some ax6)) else (none)) else (some false))) else (none)) else (some false))) else (none)) else (some false)
mutual
def mD.l0:Nat→List (dw)→Int→Int→ByteArray→List (dw)→Option (Bool)
 | 0,_,_,_,_,_=>none
 | k+1,x7,x8,x9,NT,J9=>if x9<x8 then (if 0≤x9 then (if x9<(x7.length:Int) then ((kY.f (((aH x7 x9).f0).length:Int) 1 4).bind fun ax8=>(if ax8=true then ((Je.f k ((aH x7 x9).f0)).bind fun ax9=>(mD.j1 k x9 (((aH x7 x9).f0).length:Int) x7 x8 x9 ax9 NT J9 ((aH x7 x9).f0))) else (mD.j1 k x9 (((aH x7 x9).f0).length:Int) x7 x8 x9 true NT J9 ((aH x7 x9).f0)))) else (none)) else (none)) else ((II.f NT).bind fun ax7=>(if ax7=true then (some (decide ((J9.length:Int)≤10))) else (some false)))
def mD.j1:Nat→Int→Int→List (dw)→Int→Int→Bool→ByteArray→List (dw)→List ByteArray→Option (Bool)
 | 0,_,_,_,_,_,_,_,_,_=>none
 | k+1,x3,x5,x7,x8,x9,x24,NT,J9,alO=>if x24=true then (some false) else (if 0≤(wrap64 (x5 - 1)) then (if (wrap64 (x5 - 1))<(alO.length:Int) then (if (aX ByteArray.empty alO (wrap64 (x5 - 1))).toList=([]:List UInt8) then (if x5>1 then (some false) else (if x3=(wrap64 ((J9.length:Int) - 1)) then (some false) else (mD.l0 k x7 x8 (wrap64 (x9+1)) NT J9))) else (mD.l0 k x7 x8 (wrap64 (x9+1)) NT J9)) else (none)) else (none))
end
def mD.f (k:Nat) (ag:ByteArray) (aK:List (dw)):Option (Bool):=mD.l0 k aK (aK.length:Int) 0 ag aK
def Mv.f  : Option (List ByteArray):=some (([(⟨#[73,88,72]⟩:ByteArray),(⟨#[71,82,72]⟩:ByteArray),(⟨#[77,83,72]⟩:ByteArray),(⟨#[77,83,84]⟩:ByteArray),(⟨#[71,82,84]⟩:ByteArray),(⟨#[73,88,84]⟩:ByteArray)]:List ByteArray))
def vF.l0:Nat→List ByteArray→ByteArray→Int→Int→Option (Int)
 | 0,_,_,_,_=>none
 | k+1,x0,x1,x7,x8=>if x8<x7 then (if 0≤x8 then (if x8<(x0.length:Int) then (if x1.toList=(aX ByteArray.empty x0 x8).toList then (some x8) else (vF.l0 k x0 x1 x7 (wrap64 (x8+1)))) else (none)) else (none)) else (some (-1))
def vF.f (k:Nat) (l0:List ByteArray) (a1:ByteArray):Option (Int):=vF.l0 k l0 a1 (l0.length:Int) 0
def Jf.f (k:Nat) (l0:List ByteArray) (a1:ByteArray):Option (Bool):=(vF.f k l0 a1).bind fun aya=>(some (decide (aya≥0)))
def rV.f (k:Nat) (ag:ByteArray) (aK:List (dw)):Option (Bool):=(mD.f k ag aK).bind fun ayb=>(if ayb=true then ((Mv.f).bind fun ayc=>((Jf.f k ayc ag).bind fun ayd=>(some (!ayd)))) else (some false))
def Mt.f (k:Nat) (ag:ByteArray) (aK:List (dw)):Option (Bool):=(rV.f k ag aK).bind fun aye=>(some (!aye))
def vv.l0:Nat→List (bA)→Int→Int→Option (Int)
 | 0,_,_,_=>none
 | k+1,x0,x7,x8=>if x8<x7 then (if 0≤x8 then (if x8<(x0.length:Int) then ((Mt.f k ((av x0 x8).f0) ((av x0 x8).f1)).bind fun ayf=>(if ayf=true then (some x8) else (vv.l0 k x0 x7 (wrap64 (x8+1))))) else (none)) else (none)) else (some (-1))
def vv.f (k:Nat) (l0:List (bA))  : Option (Int):=vv.l0 k l0 (l0.length:Int) 0
def Mm.f (k:Nat) (l0:List (bA))  : Option (Bool):=(vv.f k l0).bind fun ayg=>(some (decide (ayg≥0)))
def IM.f (k:Nat) (ag:Int) (aK:List (bA)):Option (Bool):=(zX.f ag).bind fun ayh=>(if ayh=true then (if (aK.length:Int)≤40 then ((Mm.f k aK).bind fun ayi=>(some (!ayi))) else (some false)) else (some false))
def Mo.f (k:Nat) (ag:Int) (aK:List (bA)):Option (Bool):=(IM.f k ag aK).bind fun ayj=>(some (!ayj))
def u7.l0:Nat→List (kN)→Int→Int→Option (Int)
 | 0,_,_,_=>none
 | k+1,x0,x7,x8=>if x8<x7 then (if 0≤x8 then (if x8<(x0.length:Int) then ((Mo.f k ((lg x0 x8).f0) ((lg x0 x8).f1)).bind fun ayk=>(if ayk=true then (some x8) else (u7.l0 k x0 x7 (wrap64 (x8+1))))) else (none)) else (none)) else (some (-1))
def u7.f (k:Nat) (l0:List (kN))  : Option (Int):=u7.l0 k l0 (l0.length:Int) 0
def Mh.f (k:Nat) (l0:List (kN))  : Option (Bool):=(u7.f k l0).bind fun ayl=>(some (decide (ayl≥0)))
def IG.f (k:Nat) (ag:Int) (aj:Int) (o5:List (kN)):Option (Bool):=(kY.f ag 1 7).bind fun aym=>(if aym=true then ((zX.f aj).bind fun ayn=>(if ayn=true then ((kY.f (o5.length:Int) 1 10).bind fun ayo=>(if ayo=true then ((Mh.f k o5).bind fun ayp=>(some (!ayp))) else (some false))) else (some false))) else (some false))
def Mg.f (k:Nat) (ag:Int) (aj:Int) (o5:List (kN)):Option (Bool):=(IG.f k ag aj o5).bind fun ayq=>(some (!ayq))
def uZ.l0:Nat→List (gP)→Int→Int→Option (Int)
 | 0,_,_,_=>none
 | k+1,x0,x7,x8=>if x8<x7 then (if 0≤x8 then (if x8<(x0.length:Int) then ((Mg.f k ((cu x0 x8).f0) ((cu x0 x8).f1) ((cu x0 x8).f2)).bind fun ayr=>(if ayr=true then (some x8) else (uZ.l0 k x0 x7 (wrap64 (x8+1))))) else (none)) else (none)) else (some (-1))
def uZ.f (k:Nat) (l0:List (gP))  : Option (Int):=uZ.l0 k l0 (l0.length:Int) 0
def IC.f (k:Nat) (l0:List (gP))  : Option (Bool):=(uZ.f k l0).bind fun ays=>(some (decide (ays≥0)))
def IE.f (k:Nat) (ag:ByteArray) (aj:ByteArray) (ak:Int) (au:List (gP)):Option (Bool):=(oI.f k ag).bind fun ayt=>(if ayt=true then ((oI.f k aj).bind fun ayu=>(if ayu=true then ((zX.f ak).bind fun ayv=>(if ayv=true then ((kY.f (au.length:Int) 1 5).bind fun ayw=>(if ayw=true then ((IC.f k au).bind fun ayx=>(some (!ayx))) else (some false))) else (some false))) else (some false))) else (some false))
def ut.j0:Nat→Bool→ByteArray→ByteArray→Int→List (gN)→Option (Bool)
 | 0,_,_,_,_,_=>none
 | k+1,Yc,azs,azt,azu,azv=>if Yc=true then (some false) else ((iW.f k azs azt azu azv).bind fun Vy=>((IE.f k Vy.1 Vy.2.1 Vy.2.2.1 Vy.2.2.2).bind fun ayz=>(some ayz)))
def ut.f (k:Nat) (ag:ByteArray) (aj:ByteArray) (ak:Int) (au:List (gN)):Option (Bool):=if (au.length:Int)>50 then (ut.j0 k true ag aj ak au) else ((Mi.f k au).bind fun ayy=>(ut.j0 k ayy ag aj ak au))
def uy.l0:Nat→List ByteArray→List ByteArray→Int→Option (Bool)
 | 0,_,_,_=>none
 | k+1,x0,x1,x5=>if x5<(x0.length:Int) then (if 0≤x5 then (if x5<(x1.length:Int) then (if (aX ByteArray.empty x0 x5).toList=(aX ByteArray.empty x1 x5).toList then (uy.l0 k x0 x1 (wrap64 (x5+1))) else (some false)) else (none)) else (none)) else (some true)
def uy.f (k:Nat) (l0:List ByteArray) (l1:List ByteArray):Option (Bool):=if (l0.length:Int)=(l1.length:Int) then (uy.l0 k l0 l1 0) else (some false)
def IV.f (ag:Int) (aj:ByteArray) (ak:Int) (aD:Int) (mK:ByteArray) (aM:Int) (dh:ByteArray) (dx:Int) (ek:Int) (oQ:ByteArray):Option Bool:=if ag=aM then (if aj.toList=dh.toList then (if ak=dx then (if aD=ek then (if mK.toList=oQ.toList then (some true) else none) else none) else none) else none) else none
def uw.l0:Nat→List aY→List aY→Int→Option Bool
 | 0,_,_,_=>none
 | k+1,x0,x1,x5=>if x5<(x0.length:Int) then (if 0≤x5 then (if x5<(x1.length:Int) then ((IV.f ((ai x0 x5).f0) ((ai x0 x5).f1) ((ai x0 x5).f2) ((ai x0 x5).f3) ((ai x0 x5).f4) ((ai x1 x5).f0) ((ai x1 x5).f1) ((ai x1 x5).f2) ((ai x1 x5).f3) ((ai x1 x5).f4)).bind fun t=>(if t=true then (uw.l0 k x0 x1 (wrap64 (x5+1))) else (none))) else (none)) else (none)) else (some true)
def uw.f (k:Nat) (l0:List aY) (l1:List aY):Option Bool:=if (l0.length:Int)=(l1.length:Int) then (uw.l0 k l0 l1 0) else (none)
def FE.f (k:Nat) (ag:Int) (aj:ByteArray) (ak:ByteArray) (aD:Int) (ay:List ByteArray) (ah:List (aY)) (aM:Int) (dh:ByteArray) (dx:ByteArray) (ek:Int) (iB:List ByteArray) (gD:List (aY)):Option (Bool):=if ag=aM then (if aj.toList=dh.toList then (if ak.toList=dx.toList then (if aD=ek then ((uy.f k ay iB).bind fun ayA=>(if ayA=true then ((uw.f k ah gD).bind fun ayB=>(if ayB=true then (some true) else (some false))) else (some false))) else (some false)) else (some false)) else (some false)) else (some false)
def mE.l0:Nat→List (gN)→List (gN)→Int→Option (Bool)
 | 0,_,_,_=>none
 | k+1,x0,x1,x5=>if x5<(x0.length:Int) then (if 0≤x5 then (if x5<(x1.length:Int) then ((FE.f k ((aG x0 x5).f0) ((aG x0 x5).f1) ((aG x0 x5).f2) ((aG x0 x5).f3) ((aG x0 x5).f4) ((aG x0 x5).f5) ((aG x1 x5).f0) ((aG x1 x5).f1) ((aG x1 x5).f2) ((aG x1 x5).f3) ((aG x1 x5).f4) ((aG x1 x5).f5)).bind fun ayC=>(if ayC=true then (mE.l0 k x0 x1 (wrap64 (x5+1))) else (some false))) else (none)) else (none)) else (some true)
def mE.f (k:Nat) (l0:List (gN)) (l1:List (gN)):Option (Bool):=if (l0.length:Int)=(l1.length:Int) then (mE.l0 k l0 l1 0) else (some false)
def FH.f (k:Nat) (ag:ByteArray) (aj:ByteArray) (ak:Int) (au:List (gN)) (aM:ByteArray) (dh:ByteArray) (dx:Int) (yL:List (gN)):Option (Bool):=if ag.toList=aM.toList then (if aj.toList=dh.toList then (if ak=dx then ((mE.f k au yL).bind fun ayD=>(if ayD=true then (some true) else (some false))) else (some false)) else (some false)) else (some false)
def FD.f (k:Nat) (ag:ByteArray) (aj:ByteArray) (ak:Int) (au:List (lM)):Option (Bool):=(IX.f k ag aj ak au 1048576).bind fun ayE=>(if ayE<0 then (some true) else ((yM.f k ag aj ak au).bind fun Vz=>((qH.f k Vz.1 Vz.2.1 Vz.2.2.1 Vz.2.2.2).bind fun ayF=>((yM.f k ag aj ak au).bind fun Ez=>((ut.f k Ez.1 Ez.2.1 Ez.2.2.1 Ez.2.2.2).bind fun ayG=>(if (ayG != ayF)=true then (some false) else ((yM.f k ag aj ak au).bind fun VA=>((FH.f k Ez.1 Ez.2.1 Ez.2.2.1 Ez.2.2.2 VA.1 VA.2.1 VA.2.2.1 VA.2.2.2).bind fun ayH=>(if ayH=true then (some true) else (some false))))))))))
theorem uB.calls (k:Nat) (A0:Option Addr) (c0:Nat) (l0:List ByteArray) (a1:Int) (r:Int) (w:World) (hr0:Kd.C Kd.string w A0 l0.length l0) (hc0:l0.length≤c0) (H:uB.f k l0 a1=some r) :
  Calls Tryz.prog 59 #[.slice A0 l0.length c0,.int .i64 a1] w fun e w'=>e=.returned (.int .i64 r)∧aT w w':=by
 have fZ:=am hr0;have ku:=am hc0;clear hr0 hc0;unfold uB.f at H
 revert H;refine cB ?_ ?_
 ·intro bN H;obtain rfl:=si H
  go_in
  go_wp2
  go_ret
  exact ⟨fg,dr⟩
 ·intro bN H;have H':=am H;clear H
  go_in
  go_wp2
  go_loopg [1,5] k (fun kq v1 v5 w'=>∃ (wT:Int) (bi:Int),v1=.int .i64 wT∧v5=.int .i64 bi∧af (uB.l0 kq l0 wT bi=some r)∧af (kq≤k)∧aT w w')
  case atStart=>exact ⟨(wrap64 (a1 - (l0.length:Int))),(0),fg,fg,H',⟨Nat.le_refl _⟩,by repeat (first|exact aT.refl _|apply aT.step)⟩
  case round =>
   clear H'
   try clear bN
   obtain ⟨wT,bi,rfl,rfl,HA,aU,⟨m1,rfl⟩⟩:=hrel
   cases gk with
   | zero=>exact absurd HA.out (by simp [uB.l0])
   | succ k1 =>
    have H:=HA.out;clear HA;simp only [uB.l0] at H
    revert H;refine cB ?_ ?_
    ·intro dS H
     revert H;refine bu ?_
     intro kv H
     revert H;refine cB ?_ ?_
     ·intro gQ H;obtain rfl:=si H;obtain ⟨p7,q7,OV,e7,Sg⟩:=wi (Kd.iZ fZ.out bi)
      cases e7
      go_wp2
      go_ret
      exact ⟨fg,dr⟩
     ·intro gQ H;have H':=am H;clear H;obtain ⟨p7,q7,OV,e7,Sg⟩:=wi (Kd.iZ fZ.out bi)
      cases e7
      go_wp2
      go_roundg k1
      case measure=>have:=aU.out;omega
      case rel=>exact ⟨(wrap64 (wT - ((aX ByteArray.empty l0 bi).size:Int))),(wrap64 (bi+1)),fg,fg,H',⟨by have:=aU.out;omega⟩,by repeat (first|exact aT.refl _|apply aT.step)⟩
    ·intro dS H;obtain rfl:=si H
     go_wp2
     go_ret
     exact ⟨fg,dr⟩
theorem IW.calls (ag:Int) (aj:ByteArray) (ak:Int) (aD:Int) (mK:ByteArray) (a1:Int) (r:Int) (w:World) (H:IW.f ag aj ak aD mK a1=some r) :
  Calls Tryz.prog 104 #[.agg #[.int .i64 ag,.string aj,.int .i64 ak,.int .i64 aD,.string mK],.int .i64 a1] w fun e w'=>e=.returned (.int .i64 r)∧Below w.heap.size w w':=by
 have ajC:=Tryz.underlying127;have HB:=am (Below.refl w.heap.size w);unfold IW.f at H
 revert H;refine cB ?_ ?_
 ·intro bN H;obtain rfl:=si H
  go_in
  go_wp2_with (first|((with_reducible refine aN (N:=2) rfl ?_);refine bz 2 (cs:=#[.int .i64 ag,.string aj,.int .i64 ak,.int .i64 aD,.string mK]) (t:=127) HB ?_;clear HB;intro aba hg w4 uJ YU hb HB;clear hb hg;have Bf:=jY uJ))
  go_ret
  exact ⟨ff,bs HB⟩
 ·intro bN H
  revert H;refine cB ?_ ?_
  ·intro gQ H;obtain rfl:=si H
   go_in
   go_wp2_with (first|((with_reducible refine aN (N:=2) rfl ?_);refine bz 2 (cs:=#[.int .i64 ag,.string aj,.int .i64 ak,.int .i64 aD,.string mK]) (t:=127) HB ?_;clear HB;intro aba hg w7 uJ YU hb HB;clear hb hg;have CR:=jY uJ))
   go_ret
   exact ⟨ff,bs HB⟩
  ·intro gQ H;obtain rfl:=si H
   go_in
   go_wp2_with (first|((with_reducible refine aN (N:=2) rfl ?_);refine bz 2 (cs:=#[.int .i64 ag,.string aj,.int .i64 ak,.int .i64 aD,.string mK]) (t:=127) HB ?_;clear HB;intro aba hg w9 uJ YU hb HB;clear hb hg;have zK:=jY uJ))
   go_ret
   exact ⟨ff,bs HB⟩
theorem uz.calls (k:Nat) (A0:Option Addr) (c0:Nat) (l0:List (lL)) (a1:Int) (r:Int) (w:World) (hr0:Kd.C Br w A0 l0.length l0) (hc0:l0.length≤c0) (H:uz.f k l0 a1=some r) :
  Calls Tryz.prog 60 #[.slice A0 l0.length c0,.int .i64 a1] w fun e w'=>e=.returned (.int .i64 r)∧Below w.heap.size w w':=by
 have ajC:=Tryz.underlying127;have fZ:=am hr0;have ku:=am hc0;clear hr0 hc0;have HB:=am (Below.refl w.heap.size w);unfold uz.f at H
 revert H;refine cB ?_ ?_
 ·intro bN H;obtain rfl:=si H
  go_in
  go_wp2
  go_ret
  exact ⟨ff,bs HB⟩
 ·intro bN H;have H':=am H;clear H
  go_in
  go_wp2
  go_loopg [1,5] k (fun kq v1 v5 w'=>∃ (wT:Int) (bi:Int),v1=.int .i64 wT∧v5=.int .i64 bi∧af (uz.l0 kq l0 wT bi=some r)∧af (kq≤k)∧af (Below w.heap.size w w'))
  case atStart=>exact ⟨(wrap64 (a1 - (l0.length:Int))),(0),fg,fg,H',⟨Nat.le_refl _⟩,⟨bs HB⟩⟩
  case round =>
   clear H'
   try clear bN
   obtain ⟨wT,bi,rfl,rfl,HA,aU,HB⟩:=hrel
   cases gk with
   | zero=>exact absurd HA.out (by simp [uz.l0])
   | succ k1 =>
    have H:=HA.out;clear HA;simp only [uz.l0] at H
    revert H;refine cB ?_ ?_
    ·intro dS H
     revert H;refine bu ?_
     intro kv H;replace H:=bo H;obtain ⟨pF,A6,H⟩:=H;obtain ⟨p9,q9,yj,e9,nD,qw,wG,zU,zV⟩:=wi (agn fZ.out bi)
     cases e9
     replace nD:=cb HB nD;replace qw:=cb HB qw;replace wG:=cb HB wG;replace zU:=cb HB zU;replace zV:=cb HB zV
     try go_wp2_with (fail)
     go_at_call 104;(with_reducible refine (IW.calls ((ma l0 bi).f0) ((ma l0 bi).f1) ((ma l0 bi).f2) ((ma l0 bi).f3) ((ma l0 bi).f4) wT pF _ A6.out).mono ?_);rintro e w7 ⟨rfl,hb⟩;replace HB:=bq HB hb;(try clear hb)
     revert H;refine cB ?_ ?_
     ·intro jR H;obtain rfl:=si H
      go_wp2
      go_ret
      exact ⟨ff,bs HB⟩
     ·intro jR H;have H':=am H;clear H
      go_wp2
      go_roundg k1
      case measure=>have:=aU.out;omega
      case rel=>exact ⟨(pF),(wrap64 (bi+1)),fg,fg,H',⟨by have:=aU.out;omega⟩,⟨bs HB⟩⟩
    ·intro dS H;obtain rfl:=si H
     go_wp2
     go_ret
     exact ⟨ff,bs HB⟩
theorem FI.calls (k:Nat) (ag:Int) (aj:ByteArray) (ak:ByteArray) (aD:Int) (bY:Option Addr) (bW:Nat) (ay:List ByteArray) (df:Option Addr) (bR:Nat) (ah:List (lL)) (a1:Int) (r:Int) (w:World) (ko:Kd.C Kd.string w bY ay.length ay) (j6:ay.length≤bW) (kr:Kd.C Br w df ah.length ah) (kg:ah.length≤bR) (H:FI.f k ag aj ak aD ay ah a1=some r) :
  Calls Tryz.prog 31 #[.agg #[.int .i64 ag,.string aj,.string ak,.int .i64 aD,.slice bY ay.length bW,.slice df ah.length bR],.int .i64 a1] w fun e w'=>e=.returned (.int .i64 r)∧Below w.heap.size w w':=by
 have abO:=Tryz.underlying56;have ng:=am ko;have pR:=am j6;clear ko j6;have lW:=am kr;have oM:=am kg;clear kr kg;have HB:=am (Below.refl w.heap.size w);unfold FI.f at H
 revert H;refine cB ?_ ?_
 ·intro bN H;obtain rfl:=si H
  go_in
  go_wp2_with (first|((with_reducible refine aN (N:=2) rfl ?_);refine bz 2 (cs:=#[.int .i64 ag,.string aj,.string ak,.int .i64 aD,.slice bY ay.length bW,.slice df ah.length bR]) (t:=56) HB ?_;clear HB;intro iQ hg w4 dL Oc hb HB;clear hb hg;have Bf:=dC dL))
  go_ret
  exact ⟨ff,bs HB⟩
 ·intro bN H
  revert H;refine cB ?_ ?_
  ·intro gQ H;obtain rfl:=si H
   go_in
   go_wp2_with (first|((with_reducible refine aN (N:=2) rfl ?_);refine bz 2 (cs:=#[.int .i64 ag,.string aj,.string ak,.int .i64 aD,.slice bY ay.length bW,.slice df ah.length bR]) (t:=56) HB ?_;clear HB;intro iQ hg w7 dL Oc hb HB;clear hb hg;have CR:=dC dL))
   go_ret
   exact ⟨ff,bs HB⟩
  ·intro gQ H;replace H:=bo H;obtain ⟨mf,A9,H⟩:=H
   go_in
   try go_wp2_with (first|((with_reducible refine aN (N:=2) rfl ?_);refine bz 2 (cs:=#[.int .i64 ag,.string aj,.string ak,.int .i64 aD,.slice bY ay.length bW,.slice df ah.length bR]) (t:=56) HB ?_;clear HB;intro iQ hg DI dL Oc hb HB;clear hb hg;have Bd:=dC dL))
   go_at_call 59;(with_reducible refine (uB.calls k _ _ ay (wrap64 ((wrap64 (a1 - (aj.size:Int))) - (ak.size:Int))) mf _ (Kd.bJ ng.out (bs HB)) pR.out A9.out).mono ?_);rintro e w' ⟨rfl,⟨nd,rfl⟩⟩
   revert H;refine cB ?_ ?_
   ·intro xG H;obtain rfl:=si H
    go_wp2
    go_ret
    exact ⟨ff,bs HB⟩
   ·intro xG H;replace H:=bo H;obtain ⟨nW,ry,H⟩:=H;have Wo:=dC dL
    try go_wp2_with (fail)
    go_at_call 60;(with_reducible refine (uz.calls k _ _ ah mf nW _ ?aI oM.out ry.out).mono ?_);(case aI=>repeat (first|exact (Kd.bJ lW.out (bs HB))|(with_reducible refine Kd.pM ?_ _)|(with_reducible refine Kd.pQ ?_ _)|(with_reducible refine Kd.pO ?_)));rintro e DJ ⟨rfl,hb⟩;replace dL:=bb dL hb;replace HB:=bq HB hb;(try clear hb)
    revert H;refine cB ?_ ?_
    ·intro vZ H;obtain rfl:=si H
     go_wp2
     go_ret
     exact ⟨ff,bs HB⟩
    ·intro vZ H;obtain rfl:=si H
     go_wp2
     go_ret
     exact ⟨ff,bs HB⟩
theorem uA.calls (k:Nat) (A0:Option Addr) (c0:Nat) (l0:List (lM)) (a1:Int) (r:Int) (w:World) (hr0:Kd.C Bt w A0 l0.length l0) (hc0:l0.length≤c0) (H:uA.f k l0 a1=some r) :
  Calls Tryz.prog 16 #[.slice A0 l0.length c0,.int .i64 a1] w fun e w'=>e=.returned (.int .i64 r)∧Below w.heap.size w w':=by
 have abO:=Tryz.underlying56;have fZ:=am hr0;have ku:=am hc0;clear hr0 hc0;have HB:=am (Below.refl w.heap.size w);unfold uA.f at H
 revert H;refine cB ?_ ?_
 ·intro bN H;obtain rfl:=si H
  go_in
  go_wp2
  go_ret
  exact ⟨ff,bs HB⟩
 ·intro bN H;have H':=am H;clear H
  go_in
  go_wp2
  go_loopg [1,5] k (fun kq v1 v5 w'=>∃ (wT:Int) (bi:Int),v1=.int .i64 wT∧v5=.int .i64 bi∧af (uA.l0 kq l0 wT bi=some r)∧af (kq≤k)∧af (Below w.heap.size w w'))
  case atStart=>exact ⟨(wrap64 (a1 - (l0.length:Int))),(0),fg,fg,H',⟨Nat.le_refl _⟩,⟨bs HB⟩⟩
  case round =>
   clear H'
   try clear bN
   obtain ⟨wT,bi,rfl,rfl,HA,aU,HB⟩:=hrel
   cases gk with
   | zero=>exact absurd HA.out (by simp [uA.l0])
   | succ k1 =>
    have H:=HA.out;clear HA;simp only [uA.l0] at H
    revert H;refine cB ?_ ?_
    ·intro dS H
     revert H;refine bu ?_
     intro kv H;replace H:=bo H;obtain ⟨pF,A6,H⟩:=H;obtain ⟨p9,q9,yj,amh,aq4,ami,aq5,e9,nD,qw,wG,zU,zV,Sk,QM,Qq,QN,Qr⟩:=wi (agp fZ.out bi)
     cases e9
     replace nD:=cb HB nD;replace qw:=cb HB qw;replace wG:=cb HB wG;replace zU:=cb HB zU;replace zV:=cb HB zV;replace Sk:=cb HB Sk;have ZQ:=am Qq;have Zt:=am QM;clear Qq QM;have ZR:=am Qr;have Zu:=am QN;clear Qr QN
     try go_wp2_with (fail)
     go_at_call 31;(with_reducible refine (FI.calls k1 ((jo l0 bi).f0) ((jo l0 bi).f1) ((jo l0 bi).f2) ((jo l0 bi).f3) _ _ ((jo l0 bi).f4) _ _ ((jo l0 bi).f5) wT pF _ (Kd.bJ ZQ.out (bs HB)) Zt.out (Kd.bJ ZR.out (bs HB)) Zu.out A6.out).mono ?_);rintro e w7 ⟨rfl,hb⟩;replace HB:=bq HB hb;(try clear hb)
     revert H;refine cB ?_ ?_
     ·intro jR H;obtain rfl:=si H
      go_wp2
      go_ret
      exact ⟨ff,bs HB⟩
     ·intro jR H;have H':=am H;clear H
      go_wp2
      go_roundg k1
      case measure=>have:=aU.out;omega
      case rel=>exact ⟨(pF),(wrap64 (bi+1)),fg,fg,H',⟨by have:=aU.out;omega⟩,⟨bs HB⟩⟩
    ·intro dS H;obtain rfl:=si H
     go_wp2
     go_ret
     exact ⟨ff,bs HB⟩
theorem IX.calls (k:Nat) (ag:ByteArray) (aj:ByteArray) (ak:Int) (fP:Option Addr) (eZ:Nat) (au:List (lM)) (a1:Int) (r:Int) (w:World) (kE:Kd.C Bt w fP au.length au) (kD:au.length≤eZ) (H:IX.f k ag aj ak au a1=some r) :
  Calls Tryz.prog 5 #[.agg #[.string ag,.string aj,.int .i64 ak,.slice fP au.length eZ],.int .i64 a1] w fun e w'=>e=.returned (.int .i64 r)∧Below w.heap.size w w':=by
 have ajD:=Tryz.underlying24;have pV:=am kE;have qN:=am kD;clear kE kD;have HB:=am (Below.refl w.heap.size w);unfold IX.f at H
 revert H;refine cB ?_ ?_
 ·intro bN H;obtain rfl:=si H
  go_in
  go_wp2_with (first|((with_reducible refine aN (N:=2) rfl ?_);refine bz 2 (cs:=#[.string ag,.string aj,.int .i64 ak,.slice fP au.length eZ]) (t:=24) HB ?_;clear HB;intro Wd hg w4 mg Us hb HB;clear hb hg;have Bf:=eU mg))
  go_ret
  exact ⟨ff,bs HB⟩
 ·intro bN H
  revert H;refine cB ?_ ?_
  ·intro gQ H;obtain rfl:=si H
   go_in
   go_wp2_with (first|((with_reducible refine aN (N:=2) rfl ?_);refine bz 2 (cs:=#[.string ag,.string aj,.int .i64 ak,.slice fP au.length eZ]) (t:=24) HB ?_;clear HB;intro Wd hg w7 mg Us hb HB;clear hb hg;have CR:=eU mg))
   go_ret
   exact ⟨ff,bs HB⟩
  ·intro gQ H;replace H:=bo H;obtain ⟨vH,A9,H⟩:=H
   go_in
   try go_wp2_with (first|((with_reducible refine aN (N:=2) rfl ?_);refine bz 2 (cs:=#[.string ag,.string aj,.int .i64 ak,.slice fP au.length eZ]) (t:=24) HB ?_;clear HB;intro Wd hg DI mg Us hb HB;clear hb hg;have Bd:=eU mg))
   go_at_call 16;(with_reducible refine (uA.calls k _ _ au (wrap64 ((wrap64 (a1 - (ag.size:Int))) - (aj.size:Int))) vH _ (Kd.bJ pV.out (bs HB)) qN.out A9.out).mono ?_);rintro e wS ⟨rfl,hb⟩;replace mg:=bb mg hb;replace HB:=bq HB hb;(try clear hb)
   revert H;refine cB ?_ ?_
   ·intro lC H;obtain rfl:=si H
    go_wp2
    go_ret
    exact ⟨ff,bs HB⟩
   ·intro lC H;obtain rfl:=si H
    go_wp2
    go_ret
    exact ⟨ff,bs HB⟩
theorem rY.calls (k:Nat) (A0:Option Addr) (c0:Nat) (l0:List ByteArray) (r:List ByteArray) (w:World) (hr0:Kd.C Kd.string w A0 l0.length l0) (hc0:l0.length≤c0) (H:rY.f k l0=some r) :
  Calls Tryz.prog 75 #[.slice A0 l0.length c0] w fun e w'=>∃ kT:Value,e=.returned (kT)∧Kd.R Kd.string 9 w' w.heap.size (fun _=>True) kT r∧Below w.heap.size w w':=by
 have fZ:=am hr0;have ku:=am hc0;clear hr0 hc0;have HB:=am (Below.refl w.heap.size w);unfold rY.f at H
 revert H;refine gz ?_ ?_
 ·intro c2 H;have gJ:=eq_true c2;have ja:decide (0≤(l0.length:Int))=true:=decide_eq_true c2;clear c2
  revert H;refine jE ?_
  intro c3 H;have bN:=eq_true c3;have fo:decide (((l0.length:Int):Int).toNat≤17592186044416)=true:=decide_eq_true c3;clear c3;obtain ⟨y13,ab0⟩:∃ y_:List ByteArray,y_=(List.replicate ((l0.length:Int):Int).toNat (⟨#[]⟩:ByteArray)):=⟨_,rfl⟩
  replace H:(rY.l0 k l0 y13 0)=some r:=ye ab0 H
  have afw:=am ab0;clear ab0;have H':=am H;clear H
  go_in
  go_wp2_with (first|((with_reducible refine aN (N:=7) rfl ?_);refine Kd.aal Kd.string _ 9 rfl (N:=7) rfl 42 _ _ rfl (l0.length:Int) rfl rfl Tryz.underlying42 (.string ⟨#[]⟩) 16 xQ rfl (by decide) (by omega) (⟨#[]⟩:ByteArray) (ok:=fun _=>True) (okp:=fun _=>True) rfl (fun _ hk=>hk) trivial (oa) (Nat.le_trans (Nat.mul_le_mul_right _ (oa:(l0.length:Int).toNat≤17592186044416)) (by omega)) (Below.refl _ _) (Nat.le_refl _) ?_;intro v15 w4 zP hb hg_ hnew_;clear hg_ hnew_;(first|rw [← afw.out] at zP|(simp only [Int.reduceToNat] at zP;rw [← afw.out] at zP));have Zz:=am (Kd.gU zP (bC (bs HB)));replace HB:=bq HB hb;clear hb zP))
  go_loopg [4] k (fun kq v4 w'=>∃ (dW:List ByteArray) (dM:Int),v4=.int .i64 dM∧af (rY.l0 kq l0 dW dM=some r)∧af (kq≤k)∧af (Kd.R Kd.string 9 w' w.heap.size (fun _=>True) v15 dW)∧af (Below w.heap.size w w'))
  case atStart=>exact ⟨(y13),(0),fg,H',⟨Nat.le_refl _⟩,⟨rz Zz.out⟩,⟨bs HB⟩⟩
  case round =>
   clear H'
   try clear c2
   try clear gJ
   try clear ja
   try clear c3
   try clear bN
   try clear fo
   obtain ⟨dW,dM,rfl,HA,aU,gu,HB⟩:=hrel
   cases gk with
   | zero=>exact absurd HA.out (by simp [rY.l0])
   | succ k1 =>
    have H:=HA.out;clear HA;simp only [rY.l0] at H
    revert H;refine cB ?_ ?_
    ·intro gQ H
     revert H;refine bu ?_
     intro kJ H
     revert H;refine bu ?_
     intro jR H;obtain ⟨y14,ab1⟩:∃ y_:List ByteArray,y_=(dW.set (dM:Int).toNat (aX ByteArray.empty l0 dM)):=⟨_,rfl⟩
     replace H:(rY.l0 k1 l0 y14 (wrap64 (dM+1)))=some r:=ye ab1 H
     have ao1:=am ab1;clear ab1;have H':=am H;clear H;obtain ⟨iq,ik,KR,e12,nS⟩:=wi (Kd.iZ fZ.out dM)
     cases e12
     replace nS:=cb HB nS;have p9:0≤(dM:Int):=oa;have q9:(dM:Int)<((dW.length:Int):Int):=oa;obtain ⟨go9,co9,eo9,uo,gl9,cl9,HG9⟩:=Kd.af2 gu.out (by omega)
     (first|cases eo9|(injection eo9 with ea_ en_ ec_;(first|subst ea_|(injection ea_ with ea_;subst ea_));subst ec_;clear en_))
     have GB9:=am uo;have GG9:=am HG9;clear uo gl9 HG9;obtain ⟨nD,aC4⟩:=Kd.apq (⟨#[]⟩:ByteArray) gu.out (dM:Int) p9 q9;replace p9:=eq_true p9;replace q9:=eq_true q9;have ZI:=Kd.apu gu.out (dM:Int) (aX ByteArray.empty l0 dM)
     go_wp2_with (first|((with_reducible refine H8 (t:=9) (p:=20) rfl ?_);refine Jk (t:=9) (p:=20) (v:=?aJf) (w1:=(wr.setCell ⟨go9,(dM:Int).toNat,none⟩ (.string (aX ByteArray.empty l0 dM)))) ?hg ?ho ?hn ?hr ?_;(case ho=>rfl);(case hg=>rfl);(case hn=>rfl);(case hr=>first|(go_simp;done)|(go_simp;rfl));intro kU hw;have hg:wr.grownBy kU (some go9):=(by rw [hw];exact ZI.2);have hp_:Kd.R Kd.string 9 kU w.heap.size (fun _=>True) (.slice (some ⟨go9,0,none⟩) dW.length co9) y14:=(by rw [hw,ao1.out];exact ZI.1);clear ZI;replace gu:=am (hp_);replace HB:=am ((by rw [hw];exact eD (HB.out) GB9.out:Below w.heap.size w kU));clear hg hw hp_))
     go_roundg k1
     case measure=>have:=aU.out;omega
     case rel=>exact ⟨(y14),(wrap64 (dM+1)),fg,H',⟨by have:=aU.out;omega⟩,⟨rz gu.out⟩,⟨bs HB⟩⟩
    ·intro gQ H;obtain rfl:=si H
     go_wp2
     go_ret
     exact ⟨_,ff,by (with_reducible repeat (first|apply Kd.jW|apply Kd.jk|apply Kd.dY));exact gu.out,bs HB⟩
 ·intro c2 H
  exact absurd H (by simp)
theorem MH.calls (ag:Int) (aj:ByteArray) (ak:Int) (aD:Int) (mK:ByteArray) (r1:Int) (r2:ByteArray) (r3:Int) (r4:Int) (r5:ByteArray) (w:World) (H:MH.f ag aj ak aD mK=some (r1,r2,r3,r4,r5)) :
  Calls Tryz.prog 108 #[.agg #[.int .i64 ag,.string aj,.int .i64 ak,.int .i64 aD,.string mK]] w fun e w'=>e=.returned (.agg #[.int .i64 r1,.string r2,.int .i64 r3,.int .i64 r4,.string r5])∧Below w.heap.size w w':=by
 have ajC:=Tryz.underlying127;have Bh:=Tryz.underlying95;have HB:=am (Below.refl w.heap.size w);unfold MH.f at H;replace H:=FQ H;obtain ⟨rfl,rfl,rfl,rfl,rfl⟩:=H
 go_in
 go_wp2_with (first|((with_reducible refine aN (N:=1) rfl ?_);refine bz 1 (cs:=#[.int .i64 ag,.string aj,.int .i64 ak,.int .i64 aD,.string mK]) (t:=127) HB ?_;clear HB;intro aba hg w2 uJ YU hb HB;clear hb hg)|((with_reducible refine aN (N:=2) rfl ?_);refine bz 2 (cs:=#[.int .i64 0,.string (⟨#[]⟩:ByteArray),.int .i64 0,.int .i64 0,.string (⟨#[]⟩:ByteArray)]) (t:=95) HB ?_;clear HB;intro Ld hg w3 jH amQ hb HB;have aoB:=na hg uJ;have aoD:=nc hg uJ;replace uJ:=bb uJ hb;clear hb hg)|((with_reducible refine aN (N:=3) rfl ?_);refine bz 3 (cs:=#[.int .i64 0,.string (⟨#[]⟩:ByteArray),.int .i64 0,.int .i64 0,.string (⟨#[]⟩:ByteArray)]) (t:=95) HB ?_;clear HB;intro wu hg w4 dz vS hb HB;have aoC:=na hg uJ;have aoF:=nc hg uJ;replace uJ:=bb uJ hb;have aoE:=na hg jH;have aoG:=nc hg jH;replace jH:=bb jH hb;clear hb hg;have ajf:=aoB.out;have ajr:=aoD.out;have aji:=aoC.out;have aju:=aoF.out;have Bg:=jY uJ;have atT:=aoG.out;have auo:=aoE.out;have CS:=jY dz;have zK:=jY jH))
 refine bodyPost_ret (results_cell_row rfl _ _ Ld 95 #[.int .i64 ag,.string aj,.int .i64 ak,.int .i64 aD,.string mK] (0,0) _ rfl (kp jH) Tryz.underlying95 rfl (by kernel_rfl)) rfl ?_
 exact ⟨ff,bs HB⟩
theorem uC.calls (k:Nat) (A0:Option Addr) (c0:Nat) (l0:List (lL)) (r:List (aY)) (w:World) (hr0:Kd.C Br w A0 l0.length l0) (hc0:l0.length≤c0) (H:uC.f k l0=some r) :
  Calls Tryz.prog 76 #[.slice A0 l0.length c0] w fun e w'=>∃ kT:Value,e=.returned (kT)∧Kd.R iR 95 w' w.heap.size (fun _=>True) kT r∧Below w.heap.size w w':=by
 have hu:=Tryz.underlying127;have hu2:=Tryz.underlying95;have fZ:=am hr0;clear hr0 hc0;have HB:=am (Below.refl w.heap.size w);unfold uC.f at H
 revert H;refine jE ?_;intro c2 H;have gJ:=eq_true c2;have ja:decide (0≤(l0.length:Int))=true:=decide_eq_true c2;clear c2
 revert H;refine jE ?_;intro c3 H;have bN:=eq_true c3;have fo:decide (((l0.length:Int):Int).toNat≤5026338869833)=true:=decide_eq_true c3;clear c3;have H':=am H;clear H
 go_in
 go_wp2_with (first|((with_reducible refine aN (N:=7) rfl ?_);refine Kd.aal iR _ 95 rfl (N:=7) rfl 43 _ _ rfl (l0.length:Int) rfl rfl Tryz.underlying43 ((.agg #[(.int .i64 0),(.string ⟨#[]⟩),(.int .i64 0),(.int .i64 0),(.string ⟨#[]⟩)])) 56 Xg rfl (by decide) (by omega) D9 (ok:=fun _=>True) (okp:=fun _=>True) (Su _ _ _ D9) (fun _ hk=>hk) trivial (oa) (Nat.le_trans (Nat.mul_le_mul_right _ (oa:(l0.length:Int).toNat≤5026338869833)) (by omega)) (Below.refl _ _) (Nat.le_refl _) ?_;intro v wa ho hb hg_ hn_;clear hg_ hn_;have HO:=am (Kd.dI (ok':=(fun k_=>(False∨w.heap.size≤k_))) (Kd.tY (Kd.gU ho (bC (bs HB)))) (fun _ q=>.inr q.2.1));replace HB:=bq HB hb;clear hb ho))
 go_loopg [4] k (fun kq v4 w'=>∃ (x3:List (aY)) (x4:Int),v4=.int .i64 x4∧af (uC.l0 kq l0 x3 x4=some r)∧af (kq≤k)∧af (Kd.R iR 95 w' w.heap.size (fun k_=>(False∨w.heap.size≤k_)) v x3)∧af (Below w.heap.size w w'))
 case atStart=>exact ⟨_,0,fg,H',⟨Nat.le_refl _⟩,HO,HB⟩
 case round =>
  clear H' HO;(try clear gJ);(try clear ja);(try clear bN);(try clear fo);obtain ⟨x3,x4,rfl,HA,aU,HO,HB⟩:=hrel
  cases gk with
  | zero=>exact absurd HA.out (by simp [uC.l0])
  | succ k1 =>
   have H:=HA.out;clear HA;simp only [uC.l0] at H
   revert H;refine cB ?_ ?_
   ·intro gQ H;revert H;refine bu ?_;intro kJ H;replace H:=bo H;obtain ⟨⟨t0,t1,t2,t3,t4⟩,A8,H⟩:=H;(try dsimp only at H);revert H;refine bu ?_;intro nk H;have H':=am H;clear H;have p1:0≤(x4:Int):=oa;have q1:x4<(l0.length:Int):=oa;have q2:(x4:Int)<(x3.length:Int):=oa;obtain ⟨ad,ea,g0,g1,g2,g3,g4⟩:=agn fZ.out x4 p1 q1;cases ea;replace g0:=cb HB g0;replace g1:=cb HB g1;replace g2:=cb HB g2;replace g3:=cb HB g3;replace g4:=cb HB g4;obtain ⟨g,cap,oki,c,eo,hM,hL⟩:=hol D9 x4 (apy (fun _ _ _ _ _ h=>by obtain rfl:=akl h;exact Su _ _ _ _) HO.out) HB.out (Kept.of_below HB.out _) p1 q2
    cases eo
    obtain rfl:=akl hM;have HL:=am hL;clear hL hM HO;replace p1:=eq_true p1;replace q1:=eq_true q1;replace q2:=eq_true q2
    go_wp2_with (first|(go_at_call 108;(with_reducible refine (MH.calls ((ma l0 x4).f0) ((ma l0 x4).f1) ((ma l0 x4).f2) ((ma l0 x4).f3) ((ma l0 x4).f4) t0 t1 t2 t3 t4 _ A8.out).mono ?_);rintro e wb ⟨rfl,hb⟩;replace HL:=am (HL.out.below hb);clear hb;obtain ⟨hx0,hf0⟩:=HL.out.nz 5 rfl rfl;obtain ⟨-,hx1,hf1⟩:=HL.out.nx 5 1 rfl rfl rfl;obtain ⟨-,hx2,hf2⟩:=HL.out.nx 5 2 rfl rfl rfl;obtain ⟨-,hx3,hf3⟩:=HL.out.nx 5 3 rfl rfl rfl;obtain ⟨-,hx4,hf4⟩:=HL.out.nx 5 4 rfl rfl rfl)|((with_reducible refine H8 (t:=95) (p:=21) rfl ?_);refine Jk (t:=95) (p:=21) (v:=?vo) (w1:=(((((wb.setCell ⟨g,(x4:Int).toNat * 5,none⟩ (.int .i64 t0)).setCell ⟨g,(x4:Int).toNat * 5+1,none⟩ (.string t1)).setCell ⟨g,(x4:Int).toNat * 5+2,none⟩ (.int .i64 t2)).setCell ⟨g,(x4:Int).toNat * 5+3,none⟩ (.int .i64 t3)).setCell ⟨g,(x4:Int).toNat * 5+4,none⟩ (.string t4))) ?hg ?ho ?hn ?hr ?_;(case ho=>rfl);(case hg=>rfl);(case hn=>rfl);(case hr=>first|(go_simp;done)|(go_simp;rfl));intro wc hw;replace HL:=am (((((HL.out.put 0 (.int .i64 t0) (by decide) rfl rfl).put 1 (.string t1) (by decide) rfl rfl).put 2 (.int .i64 t2) (by decide) rfl rfl).put 3 (.int .i64 t3) (by decide) rfl rfl).put 4 (.string t4) (by decide) rfl hw);clear hw))
    go_roundg k1
    case measure=>have:=aU.out;omega
    case rel=>exact ⟨_,wrap64 (x4+1),fg,H',⟨by have:=aU.out;omega⟩,⟨HL.out.back (⟨t0,t1,t2,t3,t4⟩:aY) (Su _ _ _ (⟨t0,t1,t2,t3,t4⟩:aY))⟩,⟨HL.out.hB⟩⟩
   ·intro gQ H;obtain rfl:=si H
    go_wp2
    go_ret
    exact ⟨_,ff,Kd.dI HO.out (fun _ _=>trivial),bs HB⟩
end Go.Proofs.YtapilmimgiaglaaGreatDoor.QA
