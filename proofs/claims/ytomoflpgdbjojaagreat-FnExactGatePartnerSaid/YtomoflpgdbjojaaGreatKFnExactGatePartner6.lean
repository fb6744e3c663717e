-- Merged by a program of this session (wip/tool/pack.py) out of its own texts for this claim.
import Derived.Test.YtomoflpgdbjojaaGreatKFnExactGatePartner5
set_option maxHeartbeats 8000000
set_option maxRecDepth 100000
set_option linter.unusedSimpArgs false
set_option linter.unusedVariables false
namespace Go.Proofs.YtomoflpgdbjojaaGreat.QO
open Go.RowKit Go.Proofs.YtomoflpgdbjojaaGreatW.PrintWords Go.Proofs.YtomoflpgdbjojaaGreatW.PrintLast Go.Proofs.YtomoflpgdbjojaaGreatW.PrintMore
attribute [local go_sem] max2_int min2_int max_two min_two max_three min_three max_four min_four   -- for this text's walks alone
def laws_markSeenS.l0:Nat→List S155→Int→Int→Option (Int × List S155)
 | 0,_,_,_=>none
 | k+1,l,s,i=>if i<(l.length:Int) then if 0≤i then laws_markSeenS.l0 k (l.set i.toNat ⟨s,wrap64 (s+1),wrap64 ((wrap64 (s+1))+1)⟩) (wrap64 ((wrap64 ((wrap64 (s+1))+1))+1)) (wrap64 (i+1)) else none else some (s,l)
def laws_markSeenS.f (k:Nat) (l0:List S155) (a1:Int):Option (Int × List S155):=laws_markSeenS.l0 k l0 a1 0
def laws_markPartnerS.l0:Nat→List S83→Int→Int→Option (Int × List S83)
 | 0,_,_,_=>none
 | k+1,l,s,i=>if i<(l.length:Int) then (laws_markText.f k s).bind fun t=>if 0≤i then (laws_markSeenS.f k (rd_T83 l i).f3 (wrap64 (wrap64 (wrap64 (s+1)+1)+1))).bind fun r=>laws_markPartnerS.l0 k (l.set i.toNat ⟨t,wrap64 (s+1),wrap64 (wrap64 (s+1)+1),r.2⟩) r.1 (wrap64 (i+1)) else none else some (s,l)
def laws_markPartnerS.f (k:Nat) (l0:List S83) (a1:Int):Option (Int × List S83):=laws_markPartnerS.l0 k l0 a1 0
def laws_markCrossS.l0:Nat→List S114→Int→Int→Option (Int × List S114)
 | 0,_,_,_=>none
 | k+1,l,s,i=>if i<(l.length:Int) then (laws_markText.f k s).bind fun t0=>if 0≤i then (laws_markText.f k (wrap64 (s+1))).bind fun t1=>(laws_markText.f k (wrap64 ((wrap64 (s+1))+1))).bind fun t2=>laws_markCrossS.l0 k (l.set i.toNat ⟨t0,t1,t2⟩) (wrap64 ((wrap64 ((wrap64 (s+1))+1))+1)) (wrap64 (i+1)) else none else some (s,l)
def laws_markCrossS.f (k:Nat) (l0:List S114) (a1:Int):Option (Int × List S114):=laws_markCrossS.l0 k l0 a1 0
def laws_markStockS.l0:Nat→List S152→Int→Int→Option (Int × List S152)
 | 0,_,_,_=>none
 | k+1,l,s,i=>if i<(l.length:Int) then (laws_markText.f k s).bind fun t0=>if 0≤i then laws_markStockS.l0 k (l.set i.toNat ⟨t0,wrap64 (s+1)⟩) (wrap64 ((wrap64 (s+1))+1)) (wrap64 (i+1)) else none else some (s,l)
def laws_markStockS.f (k:Nat) (l0:List S152) (a1:Int):Option (Int × List S152):=laws_markStockS.l0 k l0 a1 0
def laws_markOrderLineS.l0:Nat→List S161→Int→Int→Option (Int × List S161)
 | 0,_,_,_=>none
 | k+1,l,s,i=>if i<(l.length:Int) then (laws_markText.f k s).bind fun t0=>if 0≤i then (laws_markText.f k (wrap64 (s+1))).bind fun t1=>(laws_markText.f k (wrap64 ((wrap64 ((wrap64 (s+1))+1))+1))).bind fun t3=>laws_markOrderLineS.l0 k (l.set i.toNat ⟨t0,t1,wrap64 ((wrap64 (s+1))+1),t3,wrap64 ((wrap64 ((wrap64 ((wrap64 (s+1))+1))+1))+1),wrap64 ((wrap64 ((wrap64 ((wrap64 ((wrap64 (s+1))+1))+1))+1))+1),wrap64 ((wrap64 ((wrap64 ((wrap64 ((wrap64 ((wrap64 (s+1))+1))+1))+1))+1))+1),wrap64 ((wrap64 ((wrap64 ((wrap64 ((wrap64 ((wrap64 ((wrap64 (s+1))+1))+1))+1))+1))+1))+1)⟩) (wrap64 ((wrap64 ((wrap64 ((wrap64 ((wrap64 ((wrap64 ((wrap64 ((wrap64 (s+1))+1))+1))+1))+1))+1))+1))+1)) (wrap64 (i+1)) else none else some (s,l)
def laws_markOrderLineS.f (k:Nat) (l0:List S161) (a1:Int):Option (Int × List S161):=laws_markOrderLineS.l0 k l0 a1 0
def laws_markBook.f (k:Nat) (l0_0:List (S152)) (l0_1:List (S161)) (a1:Int):Option (Int × (List (S152)) × (List (S161))):=(laws_markStockS.f k l0_0 a1).bind fun bt519=>((laws_markOrderLineS.f k l0_1 bt519.1).bind fun bt521=>(some (bt521.1,bt519.2,bt521.2)))
def laws_markDiffS.l0:Nat→List S118→Int→Int→Option (Int × List S118)
 | 0,_,_,_=>none
 | k+1,l,s,i=>if i<(l.length:Int) then if 0≤i then (laws_markText.f k (wrap64 (s+1))).bind fun t1=>(laws_markText.f k (wrap64 ((wrap64 (s+1))+1))).bind fun t2=>(laws_markText.f k (wrap64 ((wrap64 ((wrap64 ((wrap64 (s+1))+1))+1))+1))).bind fun t4=>laws_markDiffS.l0 k (l.set i.toNat ⟨s,t1,t2,wrap64 ((wrap64 ((wrap64 (s+1))+1))+1),t4,wrap64 ((wrap64 ((wrap64 ((wrap64 ((wrap64 (s+1))+1))+1))+1))+1)⟩) (wrap64 ((wrap64 ((wrap64 ((wrap64 ((wrap64 ((wrap64 (s+1))+1))+1))+1))+1))+1)) (wrap64 (i+1)) else none else some (s,l)
def laws_markDiffS.f (k:Nat) (l0:List S118) (a1:Int):Option (Int × List S118):=laws_markDiffS.l0 k l0 a1 0
def laws_markOutS.l0:Nat→List S120→Int→Int→Option (Int × List S120)
 | 0,_,_,_=>none
 | k+1,l,s,i=>if i<(l.length:Int) then (laws_markText.f k s).bind fun t0=>if 0≤i then (laws_markText.f k (wrap64 ((wrap64 (s+1))+1))).bind fun t2=>laws_markOutS.l0 k (l.set i.toNat ⟨t0,wrap64 (s+1),t2,wrap64 ((wrap64 ((wrap64 (s+1))+1))+1),wrap64 ((wrap64 ((wrap64 ((wrap64 (s+1))+1))+1))+1)⟩) (wrap64 ((wrap64 ((wrap64 ((wrap64 ((wrap64 (s+1))+1))+1))+1))+1)) (wrap64 (i+1)) else none else some (s,l)
def laws_markOutS.f (k:Nat) (l0:List S120) (a1:Int):Option (Int × List S120):=laws_markOutS.l0 k l0 a1 0
def laws_markGate.f (k:Nat) (_a0_0:ByteArray) (_a0_1:Int) (l2:List S83) (l3:List S114) (l4:List S152) (l5:List S161) (l6:List S118) (l7:List S120) (a1:Int):Option (Int × List S83 × List S114 × List S152 × List S161 × List S118 × List S120) :=
 (laws_markPartnerS.f k l2 a1).bind fun b=>(laws_markCrossS.f k l3 b.1).bind fun c=>(laws_markBook.f k l4 l5 c.1).bind fun d=>(laws_markDiffS.f k l6 d.1).bind fun e=>(laws_markOutS.f k l7 e.1).bind fun f=>some (f.1,b.2,c.2,d.2.1,d.2.2,e.2,f.2)
def laws_markGateOut.f (k:Nat) (a0_0:ByteArray) (a0_1:Int) (l2:List S83) (l3:List S114) (l4:List S152) (l5:List S161) (l6:List S118) (l7:List S120) (_e8:ByteArray) (_e9 _e10 _e11 _e12 _e13:Int) (a1:Int):Option (Int × List S83 × List S114 × List S152 × List S161 × List S118 × List S120):=laws_markGate.f k a0_0 a0_1 l2 l3 l4 l5 l6 l7 a1
def laws_heldSeenS.l0:Nat→List (S155)→Int→Int→Option (Int)
 | 0,_,_,_=>none
 | k+1,x0,x1,x5=>if x5<(x0.length:Int) then (if 0≤x5 then (if ((rd_T155 x0 x5).f0)=x1 then (if ((rd_T155 x0 x5).f1)=(wrap64 (x1+1)) then (if ((rd_T155 x0 x5).f2)=(wrap64 ((wrap64 (x1+1))+1)) then (laws_heldSeenS.l0 k x0 (wrap64 ((wrap64 ((wrap64 (x1+1))+1))+1)) (wrap64 (x5+1))) else (some (-1))) else (some (-1))) else (some (-1))) else (none)) else (some x1)
def laws_heldSeenS.f (k:Nat) (l0:List (S155)) (a1:Int):Option (Int):=laws_heldSeenS.l0 k l0 a1 0
def laws_heldPartnerS.l0:Nat→List S83→Int→Int→Option Int
 | 0,_,_,_=>none
 | k+1,l,s,i=>if i<(l.length:Int) then (if 0≤i then (laws_markText.f k s).bind fun t0=>if (rd_T83 l i).f0.toList=t0.toList then if (rd_T83 l i).f1=wrap64 (s+1) then if (rd_T83 l i).f2=wrap64 ((wrap64 (s+1))+1) then (laws_heldSeenS.f k (rd_T83 l i).f3 (wrap64 ((wrap64 ((wrap64 (s+1))+1))+1))).bind fun q=>if q<0 then none else laws_heldPartnerS.l0 k l q (wrap64 (i+1)) else none else none else none else none) else some s
def laws_heldPartnerS.f (k:Nat) (l0:List S83) (a1:Int):Option Int:=laws_heldPartnerS.l0 k l0 a1 0
def laws_heldCrossS.l0:Nat→List S114→Int→Int→Option Int
 | 0,_,_,_=>none
 | k+1,l,s,i=>if i<(l.length:Int) then (if 0≤i then (laws_markText.f k s).bind fun t0=>if (rd_T114 l i).f0.toList=t0.toList then (laws_markText.f k (wrap64 (s+1))).bind fun t1=>if (rd_T114 l i).f1.toList=t1.toList then (laws_markText.f k (wrap64 ((wrap64 (s+1))+1))).bind fun t2=>if (rd_T114 l i).f2.toList=t2.toList then laws_heldCrossS.l0 k l (wrap64 ((wrap64 ((wrap64 (s+1))+1))+1)) (wrap64 (i+1)) else none else none else none else none) else some s
def laws_heldCrossS.f (k:Nat) (l0:List S114) (a1:Int):Option Int:=laws_heldCrossS.l0 k l0 a1 0
def laws_heldStockS.l0:Nat→List S152→Int→Int→Option Int
 | 0,_,_,_=>none
 | k+1,l,s,i=>if i<(l.length:Int) then (if 0≤i then (laws_markText.f k s).bind fun t0=>if (rd_T152 l i).f0.toList=t0.toList then if (rd_T152 l i).f1=wrap64 (s+1) then laws_heldStockS.l0 k l (wrap64 ((wrap64 (s+1))+1)) (wrap64 (i+1)) else none else none else none) else some s
def laws_heldStockS.f (k:Nat) (l0:List S152) (a1:Int):Option Int:=laws_heldStockS.l0 k l0 a1 0
def laws_heldOrderLineS.l0:Nat→List S161→Int→Int→Option Int
 | 0,_,_,_=>none
 | k+1,l,s,i=>if i<(l.length:Int) then (if 0≤i then (laws_markText.f k s).bind fun t0=>if (rd_T161 l i).f0.toList=t0.toList then (laws_markText.f k (wrap64 (s+1))).bind fun t1=>if (rd_T161 l i).f1.toList=t1.toList then if (rd_T161 l i).f2=wrap64 ((wrap64 (s+1))+1) then (laws_markText.f k (wrap64 ((wrap64 ((wrap64 (s+1))+1))+1))).bind fun t3=>if (rd_T161 l i).f3.toList=t3.toList then if (rd_T161 l i).f4=wrap64 ((wrap64 ((wrap64 ((wrap64 (s+1))+1))+1))+1) then if (rd_T161 l i).f5=wrap64 ((wrap64 ((wrap64 ((wrap64 ((wrap64 (s+1))+1))+1))+1))+1) then if (rd_T161 l i).f6=wrap64 ((wrap64 ((wrap64 ((wrap64 ((wrap64 ((wrap64 (s+1))+1))+1))+1))+1))+1) then if (rd_T161 l i).f7=wrap64 ((wrap64 ((wrap64 ((wrap64 ((wrap64 ((wrap64 ((wrap64 (s+1))+1))+1))+1))+1))+1))+1) then laws_heldOrderLineS.l0 k l (wrap64 ((wrap64 ((wrap64 ((wrap64 ((wrap64 ((wrap64 ((wrap64 ((wrap64 (s+1))+1))+1))+1))+1))+1))+1))+1)) (wrap64 (i+1)) else none else none else none else none else none else none else none else none else none) else some s
def laws_heldOrderLineS.f (k:Nat) (l0:List S161) (a1:Int):Option Int:=laws_heldOrderLineS.l0 k l0 a1 0
def laws_heldBook.f (k:Nat) (l0_0:List (S152)) (l0_1:List (S161)) (a1:Int):Option (Int):=(laws_heldStockS.f k l0_0 a1).bind fun t527=>(if t527<0 then (some (-1)) else ((laws_heldOrderLineS.f k l0_1 t527).bind fun t528=>(if t528<0 then (some (-1)) else (some t528))))
def laws_heldDiffS.l0:Nat→List S118→Int→Int→Option Int
 | 0,_,_,_=>none
 | k+1,l,s,i=>if i<(l.length:Int) then (if 0≤i then if (rd_T118 l i).f0=s then (laws_markText.f k (wrap64 (s+1))).bind fun t1=>if (rd_T118 l i).f1.toList=t1.toList then (laws_markText.f k (wrap64 ((wrap64 (s+1))+1))).bind fun t2=>if (rd_T118 l i).f2.toList=t2.toList then if (rd_T118 l i).f3=wrap64 ((wrap64 ((wrap64 (s+1))+1))+1) then (laws_markText.f k (wrap64 ((wrap64 ((wrap64 ((wrap64 (s+1))+1))+1))+1))).bind fun t4=>if (rd_T118 l i).f4.toList=t4.toList then if (rd_T118 l i).f5=wrap64 ((wrap64 ((wrap64 ((wrap64 ((wrap64 (s+1))+1))+1))+1))+1) then laws_heldDiffS.l0 k l (wrap64 ((wrap64 ((wrap64 ((wrap64 ((wrap64 ((wrap64 (s+1))+1))+1))+1))+1))+1)) (wrap64 (i+1)) else none else none else none else none else none else none else none) else some s
def laws_heldDiffS.f (k:Nat) (l0:List S118) (a1:Int):Option Int:=laws_heldDiffS.l0 k l0 a1 0
def laws_heldOutS.l0:Nat→List S120→Int→Int→Option Int
 | 0,_,_,_=>none
 | k+1,l,s,i=>if i<(l.length:Int) then (if 0≤i then (laws_markText.f k s).bind fun t0=>if (rd_T120 l i).f0.toList=t0.toList then if (rd_T120 l i).f1=wrap64 (s+1) then (laws_markText.f k (wrap64 ((wrap64 (s+1))+1))).bind fun t2=>if (rd_T120 l i).f2.toList=t2.toList then if (rd_T120 l i).f3=wrap64 ((wrap64 ((wrap64 (s+1))+1))+1) then if (rd_T120 l i).f4=wrap64 ((wrap64 ((wrap64 ((wrap64 (s+1))+1))+1))+1) then laws_heldOutS.l0 k l (wrap64 ((wrap64 ((wrap64 ((wrap64 ((wrap64 (s+1))+1))+1))+1))+1)) (wrap64 (i+1)) else none else none else none else none else none else none) else some s
def laws_heldOutS.f (k:Nat) (l0:List S120) (a1:Int):Option Int:=laws_heldOutS.l0 k l0 a1 0
def laws_heldGate.f (k:Nat) (a0_0:ByteArray) (a0_1:Int) (l0_2:List (S83)) (l0_3:List (S114)) (l0_4:List (S152)) (l0_5:List (S161)) (l0_6:List (S118)) (l0_7:List (S120)) (a1:Int):Option (Int):=(laws_heldPartnerS.f k l0_2 a1).bind fun t530=>(if t530<0 then (some (-1)) else ((laws_heldCrossS.f k l0_3 t530).bind fun t531=>(if t531<0 then (some (-1)) else ((laws_heldBook.f k l0_4 l0_5 t531).bind fun t532=>(if t532<0 then (some (-1)) else ((laws_heldDiffS.f k l0_6 t532).bind fun t533=>(if t533<0 then (some (-1)) else ((laws_heldOutS.f k l0_7 t533).bind fun t534=>(if t534<0 then (some (-1)) else (some t534))))))))))
def laws_heldGateOut.f (k:Nat) (a0_0:ByteArray) (a0_1:Int) (l2:List S83) (l3:List S114) (l4:List S152) (l5:List S161) (l6:List S118) (l7:List S120) (_e8:ByteArray) (_e9 _e10 _e11 _e12 _e13:Int) (a1:Int):Option Int:=(laws_heldGate.f k a0_0 a0_1 l2 l3 l4 l5 l6 l7 a1).bind fun q=>if q<0 then none else some q
def laws_FnExactGatePartner.f (k:Nat) (a0_0:ByteArray) (a0_1:Int) (l0_2:List S93) (l0_3:List S96) (l0_4:List S147) (l0_5:List S150) (l0_6:List S101) (l0_7:List S104) (a1:ByteArray):Option Bool:=if (a1.size:Int)>1048576 then some true else
 (laws_szGate.f k a0_0 a0_1 l0_2 l0_3 l0_4 l0_5 l0_6 l0_7 1048576).bind fun t=>if t<0 then some true else
 (laws_toGate.f k a0_0 a0_1 l0_2 l0_3 l0_4 l0_5 l0_6 l0_7).bind fun a =>
 (spec_GatePartner.f k a.1 a.2.1 a.2.2.1 a.2.2.2.1 a.2.2.2.2.1 a.2.2.2.2.2.1 a.2.2.2.2.2.2.1 a.2.2.2.2.2.2.2 a1).bind fun b =>
 (laws_toGate.f k a0_0 a0_1 l0_2 l0_3 l0_4 l0_5 l0_6 l0_7).bind fun x =>
 (impl_GatePartner.f k x.1 x.2.1 x.2.2.1 x.2.2.2.1 x.2.2.2.2.1 x.2.2.2.2.2.1 x.2.2.2.2.2.2.1 x.2.2.2.2.2.2.2 a1).bind fun g =>
 (laws_eqGateOut.f k g.1 g.2.1 g.2.2.1 g.2.2.2.1 g.2.2.2.2.1 g.2.2.2.2.2.1 g.2.2.2.2.2.2.1 g.2.2.2.2.2.2.2.1 g.2.2.2.2.2.2.2.2.1 g.2.2.2.2.2.2.2.2.2.1 g.2.2.2.2.2.2.2.2.2.2.1 g.2.2.2.2.2.2.2.2.2.2.2.1 g.2.2.2.2.2.2.2.2.2.2.2.2.1 g.2.2.2.2.2.2.2.2.2.2.2.2.2 b.1 b.2.1 b.2.2.1 b.2.2.2.1 b.2.2.2.2.1 b.2.2.2.2.2.1 b.2.2.2.2.2.2.1 b.2.2.2.2.2.2.2.1 b.2.2.2.2.2.2.2.2.1 b.2.2.2.2.2.2.2.2.2.1 b.2.2.2.2.2.2.2.2.2.2.1 b.2.2.2.2.2.2.2.2.2.2.2.1 b.2.2.2.2.2.2.2.2.2.2.2.2.1 b.2.2.2.2.2.2.2.2.2.2.2.2.2).bind fun e1=>if e1=true then
 (laws_toGate.f k a0_0 a0_1 l0_2 l0_3 l0_4 l0_5 l0_6 l0_7).bind fun y =>
 (laws_eqGate.f k x.1 x.2.1 x.2.2.1 x.2.2.2.1 x.2.2.2.2.1 x.2.2.2.2.2.1 x.2.2.2.2.2.2.1 x.2.2.2.2.2.2.2 y.1 y.2.1 y.2.2.1 y.2.2.2.1 y.2.2.2.2.1 y.2.2.2.2.2.1 y.2.2.2.2.2.2.1 y.2.2.2.2.2.2.2).bind fun e2=>if e2=true then
 (laws_markGate.f k x.1 x.2.1 x.2.2.1 x.2.2.2.1 x.2.2.2.2.1 x.2.2.2.2.2.1 x.2.2.2.2.2.2.1 x.2.2.2.2.2.2.2 1).bind fun m0=>if m0.1<0 then none else
 (laws_eqGateOut.f k g.1 g.2.1 g.2.2.1 g.2.2.2.1 g.2.2.2.2.1 g.2.2.2.2.2.1 g.2.2.2.2.2.2.1 g.2.2.2.2.2.2.2.1 g.2.2.2.2.2.2.2.2.1 g.2.2.2.2.2.2.2.2.2.1 g.2.2.2.2.2.2.2.2.2.2.1 g.2.2.2.2.2.2.2.2.2.2.2.1 g.2.2.2.2.2.2.2.2.2.2.2.2.1 g.2.2.2.2.2.2.2.2.2.2.2.2.2 b.1 b.2.1 b.2.2.1 b.2.2.2.1 b.2.2.2.2.1 b.2.2.2.2.2.1 b.2.2.2.2.2.2.1 b.2.2.2.2.2.2.2.1 b.2.2.2.2.2.2.2.2.1 b.2.2.2.2.2.2.2.2.2.1 b.2.2.2.2.2.2.2.2.2.2.1 b.2.2.2.2.2.2.2.2.2.2.2.1 b.2.2.2.2.2.2.2.2.2.2.2.2.1 b.2.2.2.2.2.2.2.2.2.2.2.2.2).bind fun e3=>if e3=true then
 (laws_markGateOut.f k g.1 g.2.1 g.2.2.1 g.2.2.2.1 g.2.2.2.2.1 g.2.2.2.2.2.1 g.2.2.2.2.2.2.1 g.2.2.2.2.2.2.2.1 g.2.2.2.2.2.2.2.2.1 g.2.2.2.2.2.2.2.2.2.1 g.2.2.2.2.2.2.2.2.2.2.1 g.2.2.2.2.2.2.2.2.2.2.2.1 g.2.2.2.2.2.2.2.2.2.2.2.2.1 g.2.2.2.2.2.2.2.2.2.2.2.2.2 1).bind fun m =>
 (laws_heldGateOut.f k g.1 g.2.1 m.2.1 m.2.2.1 m.2.2.2.1 m.2.2.2.2.1 m.2.2.2.2.2.1 m.2.2.2.2.2.2 g.2.2.2.2.2.2.2.2.1 g.2.2.2.2.2.2.2.2.2.1 g.2.2.2.2.2.2.2.2.2.2.1 g.2.2.2.2.2.2.2.2.2.2.2.1 g.2.2.2.2.2.2.2.2.2.2.2.2.1 g.2.2.2.2.2.2.2.2.2.2.2.2.2 1).bind fun q=>if q<0 then none else if q=m.1 then
 (laws_toGate.f k a0_0 a0_1 l0_2 l0_3 l0_4 l0_5 l0_6 l0_7).bind fun z =>
 (impl_GatePartner.f k z.1 z.2.1 z.2.2.1 z.2.2.2.1 z.2.2.2.2.1 z.2.2.2.2.2.1 z.2.2.2.2.2.2.1 z.2.2.2.2.2.2.2 a1).bind fun h =>
 (laws_eqGateOut.f k h.1 h.2.1 h.2.2.1 h.2.2.2.1 h.2.2.2.2.1 h.2.2.2.2.2.1 h.2.2.2.2.2.2.1 h.2.2.2.2.2.2.2.1 h.2.2.2.2.2.2.2.2.1 h.2.2.2.2.2.2.2.2.2.1 h.2.2.2.2.2.2.2.2.2.2.1 h.2.2.2.2.2.2.2.2.2.2.2.1 h.2.2.2.2.2.2.2.2.2.2.2.2.1 h.2.2.2.2.2.2.2.2.2.2.2.2.2 b.1 b.2.1 b.2.2.1 b.2.2.2.1 b.2.2.2.2.1 b.2.2.2.2.2.1 b.2.2.2.2.2.2.1 b.2.2.2.2.2.2.2.1 b.2.2.2.2.2.2.2.2.1 b.2.2.2.2.2.2.2.2.2.1 b.2.2.2.2.2.2.2.2.2.2.1 b.2.2.2.2.2.2.2.2.2.2.2.1 b.2.2.2.2.2.2.2.2.2.2.2.2.1 b.2.2.2.2.2.2.2.2.2.2.2.2.2).bind fun e4=>if e4=true then
 (laws_heldGateOut.f k g.1 g.2.1 m.2.1 m.2.2.1 m.2.2.2.1 m.2.2.2.2.1 m.2.2.2.2.2.1 m.2.2.2.2.2.2 g.2.2.2.2.2.2.2.2.1 g.2.2.2.2.2.2.2.2.2.1 g.2.2.2.2.2.2.2.2.2.2.1 g.2.2.2.2.2.2.2.2.2.2.2.1 g.2.2.2.2.2.2.2.2.2.2.2.2.1 g.2.2.2.2.2.2.2.2.2.2.2.2.2 1).bind fun q2=>if q2<0 then none else if q2=m.1 then some true else none
 else none
 else none
 else none
 else none
 else none
theorem laws_szSeenS.calls (A0:Option Addr) (c0:Nat) (l0:List (S179)) (a1:Int) (r:Int) (w:World) (hr0:Kd.C k179 w A0 l0.length l0) (hc0:l0.length≤c0) (H:laws_szSeenS.f l0 a1=some r) :
  Calls Tryz.prog 111 #[.slice A0 l0.length c0,.int .i64 a1] w fun e w'=>e=.returned (.int .i64 r)∧Drawn0 w w':=by
 have HR0:=am hr0;have HC0:=am hc0;clear hr0 hc0;unfold laws_szSeenS.f at H
 revert H;refine id2 ?_ ?_
 ·intro c3b0 H;obtain rfl:=si H
  go_in
  go_wp2
  go_ret
  exact ⟨fg,dr⟩
 ·intro c3b0 H;obtain rfl:=si H
  go_in
  go_wp2
  go_ret
  exact ⟨fg,dr⟩
theorem laws_szPartner.calls (a0_0:ByteArray) (a0_1:Int) (a0_2:Int) (A0_3:Option Addr) (c0_3:Nat) (l0_3:List (S179)) (a1:Int) (r:Int) (w:World) (hr0_3:Kd.C k179 w A0_3 l0_3.length l0_3) (hc0_3:l0_3.length≤c0_3) (H:laws_szPartner.f a0_0 a0_1 a0_2 l0_3 a1=some r) :
  Calls Tryz.prog 57 #[.agg #[.string a0_0,.int .i64 a0_1,.int .i64 a0_2,.slice A0_3 l0_3.length c0_3],.int .i64 a1] w fun e w'=>e=.returned (.int .i64 r)∧Below w.heap.size w w':=by
 have hu93:=Tryz.underlying93;have HR0_3:=am hr0_3;have HC0_3:=am hc0_3;clear hr0_3 hc0_3;have HB:=am (Below.refl w.heap.size w);unfold laws_szPartner.f at H
 revert H;refine id2 ?_ ?_
 ·intro c3b0 H;obtain rfl:=si H
  go_in
  go_wp2_with (first|((with_reducible refine gate_dst (N:=2) rfl ?_);refine bz 2 (cs:=#[.string a0_0,.int .i64 a0_1,.int .i64 a0_2,.slice A0_3 l0_3.length c0_3]) (t:=93) HB ?_;clear HB;intro gb10 hg w4 BK10 GW10 hb HB;clear hb hg;have hcz5:=cf4 BK10))
  go_ret
  exact ⟨ff,bs HB⟩
 ·intro c3b0 H;replace H:=bo H;obtain ⟨t11,A6,H⟩:=H
  go_in
  try go_wp2_with (first|((with_reducible refine gate_dst (N:=2) rfl ?_);refine bz 2 (cs:=#[.string a0_0,.int .i64 a0_1,.int .i64 a0_2,.slice A0_3 l0_3.length c0_3]) (t:=93) HB ?_;clear HB;intro gb10 hg w7 BK10 GW10 hb HB;clear hb hg;have hcz8:=cf4 BK10))
  go_at_call 111;(with_reducible refine (laws_szSeenS.calls _ _ l0_3 (wrap64 (a1 - (a0_0.size:Int))) t11 _ (Kd.C_below HR0_3.out (bs HB)) HC0_3.out A6.out).mono ?_);rintro e w' ⟨rfl,⟨nd,rfl⟩⟩
  revert H;refine id2 ?_ ?_
  ·intro c9b0 H;obtain rfl:=si H
   go_wp2
   go_ret
   exact ⟨ff,bs HB⟩
  ·intro c9b0 H;obtain rfl:=si H
   go_wp2
   go_ret
   exact ⟨ff,bs HB⟩
theorem laws_szPartnerS.calls (k:Nat) (A0:Option Addr) (c0:Nat) (l0:List (S93)) (a1:Int) (r:Int) (w:World) (hr0:Kd.C k93 w A0 l0.length l0) (hc0:l0.length≤c0) (H:laws_szPartnerS.f k l0 a1=some r) :
  Calls Tryz.prog 17 #[.slice A0 l0.length c0,.int .i64 a1] w fun e w'=>e=.returned (.int .i64 r)∧Below w.heap.size w w':=by
 have hu93:=Tryz.underlying93;have HR0:=am hr0;have HC0:=am hc0;clear hr0 hc0;have HB:=am (Below.refl w.heap.size w);unfold laws_szPartnerS.f at H
 revert H;refine id2 ?_ ?_
 ·intro c3b0 H;obtain rfl:=si H
  go_in
  go_wp2
  go_ret
  exact ⟨ff,bs HB⟩
 ·intro c3b0 H;have H':=am H;clear H
  go_in
  go_wp2
  go_loopg [1,5] k (fun kq v1 v5 w'=>∃ (x1_1:Int) (x5_1:Int),v1=.int .i64 x1_1∧v5=.int .i64 x5_1∧Aside0 (laws_szPartnerS.l0 kq l0 x1_1 x5_1=some r)∧Aside0 (kq≤k)∧Aside0 (Below w.heap.size w w'))
  case atStart=>exact ⟨(wrap64 (a1 - (l0.length:Int))),(0),fg,fg,H',⟨Nat.le_refl _⟩,⟨bs HB⟩⟩
  case round =>
   clear H'
   try clear c3b0
   obtain ⟨x1_1,x5_1,rfl,rfl,HA,HK1,HB⟩:=hrel
   cases gk with
   | zero=>exact absurd HA.out (by simp [laws_szPartnerS.l0])
   | succ k1 =>
    have H:=HA.out;clear HA;simp only [laws_szPartnerS.l0] at H
    revert H;refine id2 ?_ ?_
    ·intro c4b0 H
     revert H;refine id1 ?_
     intro c5b0 H;replace H:=bo H;obtain ⟨t10,A6,H⟩:=H;have p9:0≤(x5_1:Int):=oa;have q9:x5_1<(l0.length:Int):=oa;obtain ⟨ad9,A9_3,c9_3,e9,hx9_0,hx9_1,hx9_2,hx9_3,hl9_3,hi9_3⟩:=at_T93 HR0.out x5_1 p9 q9
     cases e9
     replace hx9_0:=cb HB hx9_0;replace hx9_1:=cb HB hx9_1;replace hx9_2:=cb HB hx9_2;replace hx9_3:=cb HB hx9_3;have HR9_3:=am hi9_3;have HC9_3:=am hl9_3;clear hi9_3 hl9_3;replace p9:=eq_true p9;replace q9:=eq_true q9
     try go_wp2_with (fail)
     go_at_call 57;(with_reducible refine (laws_szPartner.calls ((rd_T93 l0 x5_1).f0) ((rd_T93 l0 x5_1).f1) ((rd_T93 l0 x5_1).f2) _ _ ((rd_T93 l0 x5_1).f3) x1_1 t10 _ (Kd.C_below HR9_3.out (bs HB)) HC9_3.out A6.out).mono ?_);rintro e w7 ⟨rfl,hb⟩;replace HB:=bq HB hb;(try clear hb);(try clear hb2);(try clear hk);(try clear hi)
     revert H;refine id2 ?_ ?_
     ·intro c8b0 H;obtain rfl:=si H
      go_wp2
      go_ret
      exact ⟨ff,bs HB⟩
     ·intro c8b0 H;have H':=am H;clear H
      go_wp2
      go_roundg k1
      case measure=>have:=HK1.out;omega
      case rel=>exact ⟨(t10),(wrap64 (x5_1+1)),fg,fg,H',⟨by have:=HK1.out;omega⟩,⟨bs HB⟩⟩
    ·intro c4b0 H;obtain rfl:=si H
     go_wp2
     go_ret
     exact ⟨ff,bs HB⟩
theorem laws_szCross.calls (a0_0:ByteArray) (a0_1:ByteArray) (a0_2:ByteArray) (a1:Int) (r:Int) (w:World) (H:laws_szCross.f a0_0 a0_1 a0_2 a1=some r) :
  Calls Tryz.prog 58 #[.agg #[.string a0_0,.string a0_1,.string a0_2],.int .i64 a1] w fun e w'=>e=.returned (.int .i64 r)∧Below w.heap.size w w':=by
 have hu96:=Tryz.underlying96;have HB:=am (Below.refl w.heap.size w);unfold laws_szCross.f at H
 revert H;refine id2 ?_ ?_
 ·intro c3b0 H;obtain rfl:=si H
  go_in
  go_wp2_with (first|((with_reducible refine gate_dst (N:=2) rfl ?_);refine bz 2 (cs:=#[.string a0_0,.string a0_1,.string a0_2]) (t:=96) HB ?_;clear HB;intro gb14 hg w4 BK14 GW14 hb HB;clear hb hg;have hcz5:=cf3 BK14))
  go_ret
  exact ⟨ff,bs HB⟩
 ·intro c3b0 H
  revert H;refine id2 ?_ ?_
  ·intro c6b0 H;obtain rfl:=si H
   go_in
   go_wp2_with (first|((with_reducible refine gate_dst (N:=2) rfl ?_);refine bz 2 (cs:=#[.string a0_0,.string a0_1,.string a0_2]) (t:=96) HB ?_;clear HB;intro gb14 hg w7 BK14 GW14 hb HB;clear hb hg;have hcz8:=cf3 BK14))
   go_ret
   exact ⟨ff,bs HB⟩
  ·intro c6b0 H
   revert H;refine id2 ?_ ?_
   ·intro c9b0 H;obtain rfl:=si H
    go_in
    go_wp2_with (first|((with_reducible refine gate_dst (N:=2) rfl ?_);refine bz 2 (cs:=#[.string a0_0,.string a0_1,.string a0_2]) (t:=96) HB ?_;clear HB;intro gb14 hg w10 BK14 GW14 hb HB;clear hb hg;have hcz11:=cf3 BK14))
    go_ret
    exact ⟨ff,bs HB⟩
   ·intro c9b0 H;obtain rfl:=si H
    go_in
    go_wp2_with (first|((with_reducible refine gate_dst (N:=2) rfl ?_);refine bz 2 (cs:=#[.string a0_0,.string a0_1,.string a0_2]) (t:=96) HB ?_;clear HB;intro gb14 hg w12 BK14 GW14 hb HB;clear hb hg;have hcz13:=cf3 BK14))
    go_ret
    exact ⟨ff,bs HB⟩
theorem laws_szCrossS.calls (k:Nat) (A0:Option Addr) (c0:Nat) (l0:List (S96)) (a1:Int) (r:Int) (w:World) (hr0:Kd.C k96 w A0 l0.length l0) (hc0:l0.length≤c0) (H:laws_szCrossS.f k l0 a1=some r) :
  Calls Tryz.prog 18 #[.slice A0 l0.length c0,.int .i64 a1] w fun e w'=>e=.returned (.int .i64 r)∧Below w.heap.size w w':=by
 have hu96:=Tryz.underlying96;have HR0:=am hr0;have HC0:=am hc0;clear hr0 hc0;have HB:=am (Below.refl w.heap.size w);unfold laws_szCrossS.f at H
 revert H;refine id2 ?_ ?_
 ·intro c3b0 H;obtain rfl:=si H
  go_in
  go_wp2
  go_ret
  exact ⟨ff,bs HB⟩
 ·intro c3b0 H;have H':=am H;clear H
  go_in
  go_wp2
  go_loopg [1,5] k (fun kq v1 v5 w'=>∃ (x1_1:Int) (x5_1:Int),v1=.int .i64 x1_1∧v5=.int .i64 x5_1∧Aside0 (laws_szCrossS.l0 kq l0 x1_1 x5_1=some r)∧Aside0 (kq≤k)∧Aside0 (Below w.heap.size w w'))
  case atStart=>exact ⟨(wrap64 (a1 - (l0.length:Int))),(0),fg,fg,H',⟨Nat.le_refl _⟩,⟨bs HB⟩⟩
  case round =>
   clear H'
   try clear c3b0
   obtain ⟨x1_1,x5_1,rfl,rfl,HA,HK1,HB⟩:=hrel
   cases gk with
   | zero=>exact absurd HA.out (by simp [laws_szCrossS.l0])
   | succ k1 =>
    have H:=HA.out;clear HA;simp only [laws_szCrossS.l0] at H
    revert H;refine id2 ?_ ?_
    ·intro c4b0 H
     revert H;refine id1 ?_
     intro c5b0 H;replace H:=bo H;obtain ⟨t10,A6,H⟩:=H;have p9:0≤(x5_1:Int):=oa;have q9:x5_1<(l0.length:Int):=oa;obtain ⟨ad9,e9,hx9_0,hx9_1,hx9_2⟩:=at_T96 HR0.out x5_1 p9 q9
     cases e9
     replace hx9_0:=cb HB hx9_0;replace hx9_1:=cb HB hx9_1;replace hx9_2:=cb HB hx9_2;replace p9:=eq_true p9;replace q9:=eq_true q9
     try go_wp2_with (fail)
     go_at_call 58;(with_reducible refine (laws_szCross.calls ((rd_T96 l0 x5_1).f0) ((rd_T96 l0 x5_1).f1) ((rd_T96 l0 x5_1).f2) x1_1 t10 _ A6.out).mono ?_);rintro e w7 ⟨rfl,hb⟩;replace HB:=bq HB hb;(try clear hb);(try clear hb2);(try clear hk);(try clear hi)
     revert H;refine id2 ?_ ?_
     ·intro c8b0 H;obtain rfl:=si H
      go_wp2
      go_ret
      exact ⟨ff,bs HB⟩
     ·intro c8b0 H;have H':=am H;clear H
      go_wp2
      go_roundg k1
      case measure=>have:=HK1.out;omega
      case rel=>exact ⟨(t10),(wrap64 (x5_1+1)),fg,fg,H',⟨by have:=HK1.out;omega⟩,⟨bs HB⟩⟩
    ·intro c4b0 H;obtain rfl:=si H
     go_wp2
     go_ret
     exact ⟨ff,bs HB⟩
theorem laws_szStock.calls (a0_0:ByteArray) (a0_1:Int) (a1:Int) (r:Int) (w:World) (H:laws_szStock.f a0_0 a0_1 a1=some r) :
  Calls Tryz.prog 112 #[.agg #[.string a0_0,.int .i64 a0_1],.int .i64 a1] w fun e w'=>e=.returned (.int .i64 r)∧Below w.heap.size w w':=by
 have hu147:=Tryz.underlying147;have HB:=am (Below.refl w.heap.size w);unfold laws_szStock.f at H
 revert H;refine id2 ?_ ?_
 ·intro c3b0 H;obtain rfl:=si H
  go_in
  go_wp2_with (first|((with_reducible refine gate_dst (N:=2) rfl ?_);refine bz 2 (cs:=#[.string a0_0,.int .i64 a0_1]) (t:=147) HB ?_;clear HB;intro gb8 hg w4 BK8 GW8 hb HB;clear hb hg;have hcz5:=cf2 BK8))
  go_ret
  exact ⟨ff,bs HB⟩
 ·intro c3b0 H;obtain rfl:=si H
  go_in
  go_wp2_with (first|((with_reducible refine gate_dst (N:=2) rfl ?_);refine bz 2 (cs:=#[.string a0_0,.int .i64 a0_1]) (t:=147) HB ?_;clear HB;intro gb8 hg w6 BK8 GW8 hb HB;clear hb hg;have hcz7:=cf2 BK8))
  go_ret
  exact ⟨ff,bs HB⟩
theorem laws_szStockS.calls (k:Nat) (A0:Option Addr) (c0:Nat) (l0:List (S147)) (a1:Int) (r:Int) (w:World) (hr0:Kd.C k147 w A0 l0.length l0) (hc0:l0.length≤c0) (H:laws_szStockS.f k l0 a1=some r) :
  Calls Tryz.prog 59 #[.slice A0 l0.length c0,.int .i64 a1] w fun e w'=>e=.returned (.int .i64 r)∧Below w.heap.size w w':=by
 have hu147:=Tryz.underlying147;have HR0:=am hr0;have HC0:=am hc0;clear hr0 hc0;have HB:=am (Below.refl w.heap.size w);unfold laws_szStockS.f at H
 revert H;refine id2 ?_ ?_
 ·intro c3b0 H;obtain rfl:=si H
  go_in
  go_wp2
  go_ret
  exact ⟨ff,bs HB⟩
 ·intro c3b0 H;have H':=am H;clear H
  go_in
  go_wp2
  go_loopg [1,5] k (fun kq v1 v5 w'=>∃ (x1_1:Int) (x5_1:Int),v1=.int .i64 x1_1∧v5=.int .i64 x5_1∧Aside0 (laws_szStockS.l0 kq l0 x1_1 x5_1=some r)∧Aside0 (kq≤k)∧Aside0 (Below w.heap.size w w'))
  case atStart=>exact ⟨(wrap64 (a1 - (l0.length:Int))),(0),fg,fg,H',⟨Nat.le_refl _⟩,⟨bs HB⟩⟩
  case round =>
   clear H'
   try clear c3b0
   obtain ⟨x1_1,x5_1,rfl,rfl,HA,HK1,HB⟩:=hrel
   cases gk with
   | zero=>exact absurd HA.out (by simp [laws_szStockS.l0])
   | succ k1 =>
    have H:=HA.out;clear HA;simp only [laws_szStockS.l0] at H
    revert H;refine id2 ?_ ?_
    ·intro c4b0 H
     revert H;refine id1 ?_
     intro c5b0 H;replace H:=bo H;obtain ⟨t10,A6,H⟩:=H;have p9:0≤(x5_1:Int):=oa;have q9:x5_1<(l0.length:Int):=oa;obtain ⟨ad9,e9,hx9_0,hx9_1⟩:=at_T147 HR0.out x5_1 p9 q9
     cases e9
     replace hx9_0:=cb HB hx9_0;replace hx9_1:=cb HB hx9_1;replace p9:=eq_true p9;replace q9:=eq_true q9
     try go_wp2_with (fail)
     go_at_call 112;(with_reducible refine (laws_szStock.calls ((rd_T147 l0 x5_1).f0) ((rd_T147 l0 x5_1).f1) x1_1 t10 _ A6.out).mono ?_);rintro e w7 ⟨rfl,hb⟩;replace HB:=bq HB hb;(try clear hb);(try clear hb2);(try clear hk);(try clear hi)
     revert H;refine id2 ?_ ?_
     ·intro c8b0 H;obtain rfl:=si H
      go_wp2
      go_ret
      exact ⟨ff,bs HB⟩
     ·intro c8b0 H;have H':=am H;clear H
      go_wp2
      go_roundg k1
      case measure=>have:=HK1.out;omega
      case rel=>exact ⟨(t10),(wrap64 (x5_1+1)),fg,fg,H',⟨by have:=HK1.out;omega⟩,⟨bs HB⟩⟩
    ·intro c4b0 H;obtain rfl:=si H
     go_wp2
     go_ret
     exact ⟨ff,bs HB⟩
theorem laws_szOrderLine.calls (a0_0:ByteArray) (a0_1:ByteArray) (a0_2:Int) (a0_3:ByteArray) (a0_4:Int) (a0_5:Int) (a0_6:Int) (a0_7:Int) (a1:Int) (r:Int) (w:World) (H:laws_szOrderLine.f a0_0 a0_1 a0_2 a0_3 a0_4 a0_5 a0_6 a0_7 a1=some r) :
  Calls Tryz.prog 113 #[.agg #[.string a0_0,.string a0_1,.int .i64 a0_2,.string a0_3,.int .i64 a0_4,.int .i64 a0_5,.int .i64 a0_6,.int .i64 a0_7],.int .i64 a1] w fun e w'=>e=.returned (.int .i64 r)∧Below w.heap.size w w':=by
 have hu150:=Tryz.underlying150;have HB:=am (Below.refl w.heap.size w);unfold laws_szOrderLine.f at H
 revert H;refine id2 ?_ ?_
 ·intro c3b0 H;obtain rfl:=si H
  go_in
  go_wp2_with (first|((with_reducible refine gate_dst (N:=2) rfl ?_);refine bz 2 (cs:=#[.string a0_0,.string a0_1,.int .i64 a0_2,.string a0_3,.int .i64 a0_4,.int .i64 a0_5,.int .i64 a0_6,.int .i64 a0_7]) (t:=150) HB ?_;clear HB;intro gb14 hg w4 BK14 GW14 hb HB;clear hb hg;have hcz5:=cf8 BK14))
  go_ret
  exact ⟨ff,bs HB⟩
 ·intro c3b0 H
  revert H;refine id2 ?_ ?_
  ·intro c6b0 H;obtain rfl:=si H
   go_in
   go_wp2_with (first|((with_reducible refine gate_dst (N:=2) rfl ?_);refine bz 2 (cs:=#[.string a0_0,.string a0_1,.int .i64 a0_2,.string a0_3,.int .i64 a0_4,.int .i64 a0_5,.int .i64 a0_6,.int .i64 a0_7]) (t:=150) HB ?_;clear HB;intro gb14 hg w7 BK14 GW14 hb HB;clear hb hg;have hcz8:=cf8 BK14))
   go_ret
   exact ⟨ff,bs HB⟩
  ·intro c6b0 H
   revert H;refine id2 ?_ ?_
   ·intro c9b0 H;obtain rfl:=si H
    go_in
    go_wp2_with (first|((with_reducible refine gate_dst (N:=2) rfl ?_);refine bz 2 (cs:=#[.string a0_0,.string a0_1,.int .i64 a0_2,.string a0_3,.int .i64 a0_4,.int .i64 a0_5,.int .i64 a0_6,.int .i64 a0_7]) (t:=150) HB ?_;clear HB;intro gb14 hg w10 BK14 GW14 hb HB;clear hb hg;have hcz11:=cf8 BK14))
    go_ret
    exact ⟨ff,bs HB⟩
   ·intro c9b0 H;obtain rfl:=si H
    go_in
    go_wp2_with (first|((with_reducible refine gate_dst (N:=2) rfl ?_);refine bz 2 (cs:=#[.string a0_0,.string a0_1,.int .i64 a0_2,.string a0_3,.int .i64 a0_4,.int .i64 a0_5,.int .i64 a0_6,.int .i64 a0_7]) (t:=150) HB ?_;clear HB;intro gb14 hg w12 BK14 GW14 hb HB;clear hb hg;have hcz13:=cf8 BK14))
    go_ret
    exact ⟨ff,bs HB⟩
theorem laws_szOrderLineS.calls (k:Nat) (A0:Option Addr) (c0:Nat) (l0:List (S150)) (a1:Int) (r:Int) (w:World) (hr0:Kd.C k150 w A0 l0.length l0) (hc0:l0.length≤c0) (H:laws_szOrderLineS.f k l0 a1=some r) :
  Calls Tryz.prog 60 #[.slice A0 l0.length c0,.int .i64 a1] w fun e w'=>e=.returned (.int .i64 r)∧Below w.heap.size w w':=by
 have hu150:=Tryz.underlying150;have HR0:=am hr0;have HC0:=am hc0;clear hr0 hc0;have HB:=am (Below.refl w.heap.size w);unfold laws_szOrderLineS.f at H
 revert H;refine id2 ?_ ?_
 ·intro c3b0 H;obtain rfl:=si H
  go_in
  go_wp2
  go_ret
  exact ⟨ff,bs HB⟩
 ·intro c3b0 H;have H':=am H;clear H
  go_in
  go_wp2
  go_loopg [1,5] k (fun kq v1 v5 w'=>∃ (x1_1:Int) (x5_1:Int),v1=.int .i64 x1_1∧v5=.int .i64 x5_1∧Aside0 (laws_szOrderLineS.l0 kq l0 x1_1 x5_1=some r)∧Aside0 (kq≤k)∧Aside0 (Below w.heap.size w w'))
  case atStart=>exact ⟨(wrap64 (a1 - (l0.length:Int))),(0),fg,fg,H',⟨Nat.le_refl _⟩,⟨bs HB⟩⟩
  case round =>
   clear H'
   try clear c3b0
   obtain ⟨x1_1,x5_1,rfl,rfl,HA,HK1,HB⟩:=hrel
   cases gk with
   | zero=>exact absurd HA.out (by simp [laws_szOrderLineS.l0])
   | succ k1 =>
    have H:=HA.out;clear HA;simp only [laws_szOrderLineS.l0] at H
    revert H;refine id2 ?_ ?_
    ·intro c4b0 H
     revert H;refine id1 ?_
     intro c5b0 H;replace H:=bo H;obtain ⟨t10,A6,H⟩:=H;have p9:0≤(x5_1:Int):=oa;have q9:x5_1<(l0.length:Int):=oa;obtain ⟨ad9,e9,hx9_0,hx9_1,hx9_2,hx9_3,hx9_4,hx9_5,hx9_6,hx9_7⟩:=at_T150 HR0.out x5_1 p9 q9
     cases e9
     replace hx9_0:=cb HB hx9_0;replace hx9_1:=cb HB hx9_1;replace hx9_2:=cb HB hx9_2;replace hx9_3:=cb HB hx9_3;replace hx9_4:=cb HB hx9_4;replace hx9_5:=cb HB hx9_5;replace hx9_6:=cb HB hx9_6;replace hx9_7:=cb HB hx9_7;replace p9:=eq_true p9;replace q9:=eq_true q9
     try go_wp2_with (fail)
     go_at_call 113;(with_reducible refine (laws_szOrderLine.calls ((rd_T150 l0 x5_1).f0) ((rd_T150 l0 x5_1).f1) ((rd_T150 l0 x5_1).f2) ((rd_T150 l0 x5_1).f3) ((rd_T150 l0 x5_1).f4) ((rd_T150 l0 x5_1).f5) ((rd_T150 l0 x5_1).f6) ((rd_T150 l0 x5_1).f7) x1_1 t10 _ A6.out).mono ?_);rintro e w7 ⟨rfl,hb⟩;replace HB:=bq HB hb;(try clear hb);(try clear hb2);(try clear hk);(try clear hi)
     revert H;refine id2 ?_ ?_
     ·intro c8b0 H;obtain rfl:=si H
      go_wp2
      go_ret
      exact ⟨ff,bs HB⟩
     ·intro c8b0 H;have H':=am H;clear H
      go_wp2
      go_roundg k1
      case measure=>have:=HK1.out;omega
      case rel=>exact ⟨(t10),(wrap64 (x5_1+1)),fg,fg,H',⟨by have:=HK1.out;omega⟩,⟨bs HB⟩⟩
    ·intro c4b0 H;obtain rfl:=si H
     go_wp2
     go_ret
     exact ⟨ff,bs HB⟩
theorem laws_szBook.calls (k:Nat) (A0_0:Option Addr) (c0_0:Nat) (l0_0:List (S147)) (A0_1:Option Addr) (c0_1:Nat) (l0_1:List (S150)) (a1:Int) (r:Int) (w:World) (hr0_0:Kd.C k147 w A0_0 l0_0.length l0_0) (hc0_0:l0_0.length≤c0_0) (hr0_1:Kd.C k150 w A0_1 l0_1.length l0_1) (hc0_1:l0_1.length≤c0_1) (H:laws_szBook.f k l0_0 l0_1 a1=some r) :
  Calls Tryz.prog 19 #[.agg #[.slice A0_0 l0_0.length c0_0,.slice A0_1 l0_1.length c0_1],.int .i64 a1] w fun e w'=>e=.returned (.int .i64 r)∧Below w.heap.size w w':=by
 have hu27:=Tryz.underlying27;have HR0_0:=am hr0_0;have HC0_0:=am hc0_0;clear hr0_0 hc0_0;have HR0_1:=am hr0_1;have HC0_1:=am hc0_1;clear hr0_1 hc0_1;have HB:=am (Below.refl w.heap.size w);unfold laws_szBook.f at H;replace H:=bo H;obtain ⟨t13,A3,H⟩:=H
 go_in
 try go_wp2_with (first|((with_reducible refine gate_dst (N:=2) rfl ?_);refine bz 2 (cs:=#[.slice A0_0 l0_0.length c0_0,.slice A0_1 l0_1.length c0_1]) (t:=27) HB ?_;clear HB;intro gb12 hg w4 BK12 GW12 hb HB;clear hb hg;have hcz5:=cf2 BK12))
 go_at_call 59;(with_reducible refine (laws_szStockS.calls k _ _ l0_0 a1 t13 _ (Kd.C_below HR0_0.out (bs HB)) HC0_0.out A3.out).mono ?_);rintro e w6 ⟨rfl,hb⟩;replace BK12:=bb BK12 hb;replace HB:=bq HB hb;(try clear hb);(try clear hb2);(try clear hk);(try clear hi)
 revert H;refine id2 ?_ ?_
 ·intro c7b0 H;obtain rfl:=si H
  go_wp2
  go_ret
  exact ⟨ff,bs HB⟩
 ·intro c7b0 H;replace H:=bo H;obtain ⟨t14,A8,H⟩:=H;have hcz9:=cf2 BK12
  try go_wp2_with (fail)
  go_at_call 60;(with_reducible refine (laws_szOrderLineS.calls k _ _ l0_1 t13 t14 _ (Kd.C_below HR0_1.out (bs HB)) HC0_1.out A8.out).mono ?_);rintro e w10 ⟨rfl,hb⟩;replace BK12:=bb BK12 hb;replace HB:=bq HB hb;(try clear hb);(try clear hb2);(try clear hk);(try clear hi)
  revert H;refine id2 ?_ ?_
  ·intro c11b0 H;obtain rfl:=si H
   go_wp2
   go_ret
   exact ⟨ff,bs HB⟩
  ·intro c11b0 H;obtain rfl:=si H
   go_wp2
   go_ret
   exact ⟨ff,bs HB⟩
theorem laws_szDiff.calls (a0_0:Int) (a0_1:ByteArray) (a0_2:ByteArray) (a0_3:Int) (a0_4:ByteArray) (a0_5:Int) (a1:Int) (r:Int) (w:World) (H:laws_szDiff.f a0_0 a0_1 a0_2 a0_3 a0_4 a0_5 a1=some r) :
  Calls Tryz.prog 61 #[.agg #[.int .i64 a0_0,.string a0_1,.string a0_2,.int .i64 a0_3,.string a0_4,.int .i64 a0_5],.int .i64 a1] w fun e w'=>e=.returned (.int .i64 r)∧Below w.heap.size w w':=by
 have hu101:=Tryz.underlying101;have HB:=am (Below.refl w.heap.size w);unfold laws_szDiff.f at H
 revert H;refine id2 ?_ ?_
 ·intro c3b0 H;obtain rfl:=si H
  go_in
  go_wp2_with (first|((with_reducible refine gate_dst (N:=2) rfl ?_);refine bz 2 (cs:=#[.int .i64 a0_0,.string a0_1,.string a0_2,.int .i64 a0_3,.string a0_4,.int .i64 a0_5]) (t:=101) HB ?_;clear HB;intro gb14 hg w4 BK14 GW14 hb HB;clear hb hg;have hcz5:=cf6 BK14))
  go_ret
  exact ⟨ff,bs HB⟩
 ·intro c3b0 H
  revert H;refine id2 ?_ ?_
  ·intro c6b0 H;obtain rfl:=si H
   go_in
   go_wp2_with (first|((with_reducible refine gate_dst (N:=2) rfl ?_);refine bz 2 (cs:=#[.int .i64 a0_0,.string a0_1,.string a0_2,.int .i64 a0_3,.string a0_4,.int .i64 a0_5]) (t:=101) HB ?_;clear HB;intro gb14 hg w7 BK14 GW14 hb HB;clear hb hg;have hcz8:=cf6 BK14))
   go_ret
   exact ⟨ff,bs HB⟩
  ·intro c6b0 H
   revert H;refine id2 ?_ ?_
   ·intro c9b0 H;obtain rfl:=si H
    go_in
    go_wp2_with (first|((with_reducible refine gate_dst (N:=2) rfl ?_);refine bz 2 (cs:=#[.int .i64 a0_0,.string a0_1,.string a0_2,.int .i64 a0_3,.string a0_4,.int .i64 a0_5]) (t:=101) HB ?_;clear HB;intro gb14 hg w10 BK14 GW14 hb HB;clear hb hg;have hcz11:=cf6 BK14))
    go_ret
    exact ⟨ff,bs HB⟩
   ·intro c9b0 H;obtain rfl:=si H
    go_in
    go_wp2_with (first|((with_reducible refine gate_dst (N:=2) rfl ?_);refine bz 2 (cs:=#[.int .i64 a0_0,.string a0_1,.string a0_2,.int .i64 a0_3,.string a0_4,.int .i64 a0_5]) (t:=101) HB ?_;clear HB;intro gb14 hg w12 BK14 GW14 hb HB;clear hb hg;have hcz13:=cf6 BK14))
    go_ret
    exact ⟨ff,bs HB⟩
theorem laws_szDiffS.calls (k:Nat) (A0:Option Addr) (c0:Nat) (l0:List (S101)) (a1:Int) (r:Int) (w:World) (hr0:Kd.C k101 w A0 l0.length l0) (hc0:l0.length≤c0) (H:laws_szDiffS.f k l0 a1=some r) :
  Calls Tryz.prog 20 #[.slice A0 l0.length c0,.int .i64 a1] w fun e w'=>e=.returned (.int .i64 r)∧Below w.heap.size w w':=by
 have hu101:=Tryz.underlying101;have HR0:=am hr0;have HC0:=am hc0;clear hr0 hc0;have HB:=am (Below.refl w.heap.size w);unfold laws_szDiffS.f at H
 revert H;refine id2 ?_ ?_
 ·intro c3b0 H;obtain rfl:=si H
  go_in
  go_wp2
  go_ret
  exact ⟨ff,bs HB⟩
 ·intro c3b0 H;have H':=am H;clear H
  go_in
  go_wp2
  go_loopg [1,5] k (fun kq v1 v5 w'=>∃ (x1_1:Int) (x5_1:Int),v1=.int .i64 x1_1∧v5=.int .i64 x5_1∧Aside0 (laws_szDiffS.l0 kq l0 x1_1 x5_1=some r)∧Aside0 (kq≤k)∧Aside0 (Below w.heap.size w w'))
  case atStart=>exact ⟨(wrap64 (a1 - (l0.length:Int))),(0),fg,fg,H',⟨Nat.le_refl _⟩,⟨bs HB⟩⟩
  case round =>
   clear H'
   try clear c3b0
   obtain ⟨x1_1,x5_1,rfl,rfl,HA,HK1,HB⟩:=hrel
   cases gk with
   | zero=>exact absurd HA.out (by simp [laws_szDiffS.l0])
   | succ k1 =>
    have H:=HA.out;clear HA;simp only [laws_szDiffS.l0] at H
    revert H;refine id2 ?_ ?_
    ·intro c4b0 H
     revert H;refine id1 ?_
     intro c5b0 H;replace H:=bo H;obtain ⟨t10,A6,H⟩:=H;have p9:0≤(x5_1:Int):=oa;have q9:x5_1<(l0.length:Int):=oa;obtain ⟨ad9,e9,hx9_0,hx9_1,hx9_2,hx9_3,hx9_4,hx9_5⟩:=at_T101 HR0.out x5_1 p9 q9
     cases e9
     replace hx9_0:=cb HB hx9_0;replace hx9_1:=cb HB hx9_1;replace hx9_2:=cb HB hx9_2;replace hx9_3:=cb HB hx9_3;replace hx9_4:=cb HB hx9_4;replace hx9_5:=cb HB hx9_5;replace p9:=eq_true p9;replace q9:=eq_true q9
     try go_wp2_with (fail)
     go_at_call 61;(with_reducible refine (laws_szDiff.calls ((rd_T101 l0 x5_1).f0) ((rd_T101 l0 x5_1).f1) ((rd_T101 l0 x5_1).f2) ((rd_T101 l0 x5_1).f3) ((rd_T101 l0 x5_1).f4) ((rd_T101 l0 x5_1).f5) x1_1 t10 _ A6.out).mono ?_);rintro e w7 ⟨rfl,hb⟩;replace HB:=bq HB hb;(try clear hb);(try clear hb2);(try clear hk);(try clear hi)
     revert H;refine id2 ?_ ?_
     ·intro c8b0 H;obtain rfl:=si H
      go_wp2
      go_ret
      exact ⟨ff,bs HB⟩
     ·intro c8b0 H;have H':=am H;clear H
      go_wp2
      go_roundg k1
      case measure=>have:=HK1.out;omega
      case rel=>exact ⟨(t10),(wrap64 (x5_1+1)),fg,fg,H',⟨by have:=HK1.out;omega⟩,⟨bs HB⟩⟩
    ·intro c4b0 H;obtain rfl:=si H
     go_wp2
     go_ret
     exact ⟨ff,bs HB⟩
theorem laws_szOut.calls (a0_0:ByteArray) (a0_1:Int) (a0_2:ByteArray) (a0_3:Int) (a0_4:Int) (a1:Int) (r:Int) (w:World) (H:laws_szOut.f a0_0 a0_1 a0_2 a0_3 a0_4 a1=some r) :
  Calls Tryz.prog 62 #[.agg #[.string a0_0,.int .i64 a0_1,.string a0_2,.int .i64 a0_3,.int .i64 a0_4],.int .i64 a1] w fun e w'=>e=.returned (.int .i64 r)∧Below w.heap.size w w':=by
 have hu104:=Tryz.underlying104;have HB:=am (Below.refl w.heap.size w);unfold laws_szOut.f at H
 revert H;refine id2 ?_ ?_
 ·intro c3b0 H;obtain rfl:=si H
  go_in
  go_wp2_with (first|((with_reducible refine gate_dst (N:=2) rfl ?_);refine bz 2 (cs:=#[.string a0_0,.int .i64 a0_1,.string a0_2,.int .i64 a0_3,.int .i64 a0_4]) (t:=104) HB ?_;clear HB;intro gb11 hg w4 BK11 GW11 hb HB;clear hb hg;have hcz5:=cf5 BK11))
  go_ret
  exact ⟨ff,bs HB⟩
 ·intro c3b0 H
  revert H;refine id2 ?_ ?_
  ·intro c6b0 H;obtain rfl:=si H
   go_in
   go_wp2_with (first|((with_reducible refine gate_dst (N:=2) rfl ?_);refine bz 2 (cs:=#[.string a0_0,.int .i64 a0_1,.string a0_2,.int .i64 a0_3,.int .i64 a0_4]) (t:=104) HB ?_;clear HB;intro gb11 hg w7 BK11 GW11 hb HB;clear hb hg;have hcz8:=cf5 BK11))
   go_ret
   exact ⟨ff,bs HB⟩
  ·intro c6b0 H;obtain rfl:=si H
   go_in
   go_wp2_with (first|((with_reducible refine gate_dst (N:=2) rfl ?_);refine bz 2 (cs:=#[.string a0_0,.int .i64 a0_1,.string a0_2,.int .i64 a0_3,.int .i64 a0_4]) (t:=104) HB ?_;clear HB;intro gb11 hg w9 BK11 GW11 hb HB;clear hb hg;have hcz10:=cf5 BK11))
   go_ret
   exact ⟨ff,bs HB⟩
theorem laws_szOutS.calls (k:Nat) (A0:Option Addr) (c0:Nat) (l0:List (S104)) (a1:Int) (r:Int) (w:World) (hr0:Kd.C k104 w A0 l0.length l0) (hc0:l0.length≤c0) (H:laws_szOutS.f k l0 a1=some r) :
  Calls Tryz.prog 21 #[.slice A0 l0.length c0,.int .i64 a1] w fun e w'=>e=.returned (.int .i64 r)∧Below w.heap.size w w':=by
 have hu104:=Tryz.underlying104;have HR0:=am hr0;have HC0:=am hc0;clear hr0 hc0;have HB:=am (Below.refl w.heap.size w);unfold laws_szOutS.f at H
 revert H;refine id2 ?_ ?_
 ·intro c3b0 H;obtain rfl:=si H
  go_in
  go_wp2
  go_ret
  exact ⟨ff,bs HB⟩
 ·intro c3b0 H;have H':=am H;clear H
  go_in
  go_wp2
  go_loopg [1,5] k (fun kq v1 v5 w'=>∃ (x1_1:Int) (x5_1:Int),v1=.int .i64 x1_1∧v5=.int .i64 x5_1∧Aside0 (laws_szOutS.l0 kq l0 x1_1 x5_1=some r)∧Aside0 (kq≤k)∧Aside0 (Below w.heap.size w w'))
  case atStart=>exact ⟨(wrap64 (a1 - (l0.length:Int))),(0),fg,fg,H',⟨Nat.le_refl _⟩,⟨bs HB⟩⟩
  case round =>
   clear H'
   try clear c3b0
   obtain ⟨x1_1,x5_1,rfl,rfl,HA,HK1,HB⟩:=hrel
   cases gk with
   | zero=>exact absurd HA.out (by simp [laws_szOutS.l0])
   | succ k1 =>
    have H:=HA.out;clear HA;simp only [laws_szOutS.l0] at H
    revert H;refine id2 ?_ ?_
    ·intro c4b0 H
     revert H;refine id1 ?_
     intro c5b0 H;replace H:=bo H;obtain ⟨t10,A6,H⟩:=H;have p9:0≤(x5_1:Int):=oa;have q9:x5_1<(l0.length:Int):=oa;obtain ⟨ad9,e9,hx9_0,hx9_1,hx9_2,hx9_3,hx9_4⟩:=at_T104 HR0.out x5_1 p9 q9
     cases e9
     replace hx9_0:=cb HB hx9_0;replace hx9_1:=cb HB hx9_1;replace hx9_2:=cb HB hx9_2;replace hx9_3:=cb HB hx9_3;replace hx9_4:=cb HB hx9_4;replace p9:=eq_true p9;replace q9:=eq_true q9
     try go_wp2_with (fail)
     go_at_call 62;(with_reducible refine (laws_szOut.calls ((rd_T104 l0 x5_1).f0) ((rd_T104 l0 x5_1).f1) ((rd_T104 l0 x5_1).f2) ((rd_T104 l0 x5_1).f3) ((rd_T104 l0 x5_1).f4) x1_1 t10 _ A6.out).mono ?_);rintro e w7 ⟨rfl,hb⟩;replace HB:=bq HB hb;(try clear hb);(try clear hb2);(try clear hk);(try clear hi)
     revert H;refine id2 ?_ ?_
     ·intro c8b0 H;obtain rfl:=si H
      go_wp2
      go_ret
      exact ⟨ff,bs HB⟩
     ·intro c8b0 H;have H':=am H;clear H
      go_wp2
      go_roundg k1
      case measure=>have:=HK1.out;omega
      case rel=>exact ⟨(t10),(wrap64 (x5_1+1)),fg,fg,H',⟨by have:=HK1.out;omega⟩,⟨bs HB⟩⟩
    ·intro c4b0 H;obtain rfl:=si H
     go_wp2
     go_ret
     exact ⟨ff,bs HB⟩
theorem laws_szGate.calls (k:Nat) (a0_0:ByteArray) (a0_1:Int) (A0_2:Option Addr) (c0_2:Nat) (l0_2:List (S93)) (A0_3:Option Addr) (c0_3:Nat) (l0_3:List (S96)) (A0_4:Option Addr) (c0_4:Nat) (l0_4:List (S147)) (A0_5:Option Addr) (c0_5:Nat) (l0_5:List (S150)) (A0_6:Option Addr) (c0_6:Nat) (l0_6:List (S101)) (A0_7:Option Addr) (c0_7:Nat) (l0_7:List (S104)) (a1:Int) (r:Int) (w:World) (hr0_2:Kd.C k93 w A0_2 l0_2.length l0_2) (hc0_2:l0_2.length≤c0_2) (hr0_3:Kd.C k96 w A0_3 l0_3.length l0_3) (hc0_3:l0_3.length≤c0_3) (hr0_4:Kd.C k147 w A0_4 l0_4.length l0_4) (hc0_4:l0_4.length≤c0_4) (hr0_5:Kd.C k150 w A0_5 l0_5.length l0_5) (hc0_5:l0_5.length≤c0_5) (hr0_6:Kd.C k101 w A0_6 l0_6.length l0_6) (hc0_6:l0_6.length≤c0_6) (hr0_7:Kd.C k104 w A0_7 l0_7.length l0_7) (hc0_7:l0_7.length≤c0_7) (H:laws_szGate.f k a0_0 a0_1 l0_2 l0_3 l0_4 l0_5 l0_6 l0_7 a1=some r) :
  Calls Tryz.prog 5 #[.agg #[.string a0_0,.int .i64 a0_1,.slice A0_2 l0_2.length c0_2,.slice A0_3 l0_3.length c0_3,.slice A0_4 l0_4.length c0_4,.slice A0_5 l0_5.length c0_5,.slice A0_6 l0_6.length c0_6,.slice A0_7 l0_7.length c0_7],.int .i64 a1] w fun e w'=>e=.returned (.int .i64 r)∧Below w.heap.size w w':=by
 have hu31:=Tryz.underlying31;have hu27:=Tryz.underlying27;have HR0_2:=am hr0_2;have HC0_2:=am hc0_2;clear hr0_2 hc0_2;have HR0_3:=am hr0_3;have HC0_3:=am hc0_3;clear hr0_3 hc0_3;have HR0_4:=am hr0_4;have HC0_4:=am hc0_4;clear hr0_4 hc0_4;have HR0_5:=am hr0_5;have HC0_5:=am hc0_5;clear hr0_5 hc0_5;have HR0_6:=am hr0_6;have HC0_6:=am hc0_6;clear hr0_6 hc0_6;have HR0_7:=am hr0_7;have HC0_7:=am hc0_7;clear hr0_7 hc0_7;have HB:=am (Below.refl w.heap.size w);unfold laws_szGate.f at H
 revert H;refine id2 ?_ ?_
 ·intro c3b0 H;obtain rfl:=si H
  go_in
  go_wp2_with (first|((with_reducible refine gate_dst (N:=2) rfl ?_);refine bz 2 (cs:=#[.string a0_0,.int .i64 a0_1,.slice A0_2 l0_2.length c0_2,.slice A0_3 l0_3.length c0_3,.slice A0_4 l0_4.length c0_4,.slice A0_5 l0_5.length c0_5,.slice A0_6 l0_6.length c0_6,.slice A0_7 l0_7.length c0_7]) (t:=31) HB ?_;clear HB;intro gb28 hg w4 BK28 GW28 hb HB;clear hb hg;have hcz5:=cf8 BK28))
  go_ret
  exact ⟨ff,bs HB⟩
 ·intro c3b0 H;replace H:=bo H;obtain ⟨t29,A6,H⟩:=H
  go_in
  try go_wp2_with (first|((with_reducible refine gate_dst (N:=2) rfl ?_);refine bz 2 (cs:=#[.string a0_0,.int .i64 a0_1,.slice A0_2 l0_2.length c0_2,.slice A0_3 l0_3.length c0_3,.slice A0_4 l0_4.length c0_4,.slice A0_5 l0_5.length c0_5,.slice A0_6 l0_6.length c0_6,.slice A0_7 l0_7.length c0_7]) (t:=31) HB ?_;clear HB;intro gb28 hg w7 BK28 GW28 hb HB;clear hb hg;have hcz8:=cf8 BK28))
  go_at_call 17;(with_reducible refine (laws_szPartnerS.calls k _ _ l0_2 (wrap64 (a1 - (a0_0.size:Int))) t29 _ (Kd.C_below HR0_2.out (bs HB)) HC0_2.out A6.out).mono ?_);rintro e w9 ⟨rfl,hb⟩;replace BK28:=bb BK28 hb;replace HB:=bq HB hb;(try clear hb);(try clear hb2);(try clear hk);(try clear hi)
  revert H;refine id2 ?_ ?_
  ·intro c10b0 H;obtain rfl:=si H
   go_wp2
   go_ret
   exact ⟨ff,bs HB⟩
  ·intro c10b0 H;replace H:=bo H;obtain ⟨t30,A11,H⟩:=H;have hcz12:=cf8 BK28
   try go_wp2_with (fail)
   go_at_call 18;(with_reducible refine (laws_szCrossS.calls k _ _ l0_3 t29 t30 _ (Kd.C_below HR0_3.out (bs HB)) HC0_3.out A11.out).mono ?_);rintro e w13 ⟨rfl,hb⟩;replace BK28:=bb BK28 hb;replace HB:=bq HB hb;(try clear hb);(try clear hb2);(try clear hk);(try clear hi)
   revert H;refine id2 ?_ ?_
   ·intro c14b0 H;obtain rfl:=si H
    go_wp2
    go_ret
    exact ⟨ff,bs HB⟩
   ·intro c14b0 H;replace H:=bo H;obtain ⟨t32,A15,H⟩:=H;have hcz16:=cf8 BK28
    try go_wp2_with (fail)
    go_at_call 19;(with_reducible refine (laws_szBook.calls k _ _ l0_4 _ _ l0_5 t30 t32 _ (Kd.C_below HR0_4.out (bs HB)) HC0_4.out (Kd.C_below HR0_5.out (bs HB)) HC0_5.out A15.out).mono ?_);rintro e w17 ⟨rfl,hb⟩;replace BK28:=bb BK28 hb;replace HB:=bq HB hb;(try clear hb);(try clear hb2);(try clear hk);(try clear hi)
    revert H;refine id2 ?_ ?_
    ·intro c18b0 H;obtain rfl:=si H
     go_wp2
     go_ret
     exact ⟨ff,bs HB⟩
    ·intro c18b0 H;replace H:=bo H;obtain ⟨t33,A19,H⟩:=H;have hcz20:=cf8 BK28
     try go_wp2_with (fail)
     go_at_call 20;(with_reducible refine (laws_szDiffS.calls k _ _ l0_6 t32 t33 _ (Kd.C_below HR0_6.out (bs HB)) HC0_6.out A19.out).mono ?_);rintro e w21 ⟨rfl,hb⟩;replace BK28:=bb BK28 hb;replace HB:=bq HB hb;(try clear hb);(try clear hb2);(try clear hk);(try clear hi)
     revert H;refine id2 ?_ ?_
     ·intro c22b0 H;obtain rfl:=si H
      go_wp2
      go_ret
      exact ⟨ff,bs HB⟩
     ·intro c22b0 H;replace H:=bo H;obtain ⟨t34,A23,H⟩:=H;have hcz24:=cf8 BK28
      try go_wp2_with (fail)
      go_at_call 21;(with_reducible refine (laws_szOutS.calls k _ _ l0_7 t33 t34 _ (Kd.C_below HR0_7.out (bs HB)) HC0_7.out A23.out).mono ?_);rintro e w25 ⟨rfl,hb⟩;replace BK28:=bb BK28 hb;replace HB:=bq HB hb;(try clear hb);(try clear hb2);(try clear hk);(try clear hi)
      revert H;refine id2 ?_ ?_
      ·intro c26b0 H;obtain rfl:=si H
       go_wp2
       go_ret
       exact ⟨ff,bs HB⟩
      ·intro c26b0 H;obtain rfl:=si H
       go_wp2
       go_ret
       exact ⟨ff,bs HB⟩
end Go.Proofs.YtomoflpgdbjojaaGreat.QO
