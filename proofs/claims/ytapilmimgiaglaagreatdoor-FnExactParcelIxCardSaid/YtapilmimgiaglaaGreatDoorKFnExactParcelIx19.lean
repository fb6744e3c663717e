import Derived.Test.YtapilmimgiaglaaGreatDoorKFnExactParcelIx18
set_option maxHeartbeats 8000000
set_option maxRecDepth 100000
set_option linter.unusedSimpArgs false
set_option linter.unusedVariables false
namespace Go.Proofs.YtapilmimgiaglaaGreatDoor.QX
open Go.RowKit Go.Proofs.bB.eH Go.Proofs.bB.PrintLast Go.Proofs.bB.PrintMore
attribute [local go_sem] oU o5 oZ o8 oW o7 oV o6
def ik.T4:Bool × List (List Nat × List Nat):=(true,[([],[]),([0],[0]),([1],[1]),([2],[2]),([],[]),([4],[4]),([5],[5]),([6],[6]),([7],[7]),([8],[8]),([3,9],[3,9]),([10],[10]),([],[]),([12,11,0,1,2,3,4,5,6,7,8,9,10,11,12],[11,12])])
def ik.B4:List Nat:=[0,1,3,7,0,16,48,112,240,496,1023,2047,0,8191]
theorem ik.xQ:fD .any (opsOf Tryz.f45 4)=ik.T4:=by kernel_rfl
theorem ik.xg:jg ik.T4.2 ik.B4=true:=by kernel_rfl
def ik.RL:Bool × List (List Nat × List Nat):=(true,[([],[]),([0],[0]),([],[]),([2],[2]),([3],[3]),([4],[4]),([5],[5]),([6],[6]),([7],[7]),([8],[8]),([1,9],[1,9]),([0,1,2,3,4,5,6,7,8,9,10],[]),([11,10,10,0,1,2,3,4,5,6,7,8,9,10],[10,11])])
def ik.B11:List Nat:=[0,1,0,4,12,28,60,124,252,508,1023,2047,4095]
theorem ik.WS:fD .any (opsOf Tryz.f45 11)=ik.RL:=by kernel_rfl
theorem ik.R5:jg ik.RL.2 ik.B11=true:=by kernel_rfl
def ik.u7:Bool × List (List Nat × List Nat):=(true,[([],[]),([0],[0]),([],[]),([],[]),([2,3],[2,3]),([4],[4]),([1,5,4],[1,5]),([0,1,2,3,4,5,6],[]),([7,6,6,0,1,2,3,4,5,6],[6,7])])
def ik.Bf:List Nat:=[0,1,0,0,12,28,63,127,255]
theorem ik.yI:fD .any (opsOf Tryz.f45 12)=ik.u7:=by kernel_rfl
theorem ik.yf:jg ik.u7.2 ik.Bf=true:=by kernel_rfl
theorem ik.calls (k:Nat)(a0:Int)(A1:Option Addr)(c1:Nat)(l1:List bn)(r1:Int)(r2 r3:ByteArray)(r4:Int)(r5:List ByteArray)(r6:List aZ)(w:World)(hr1:Kd.C kP w A1 l1.length l1)(hc1:l1.length≤c1)(hTP:vW w)(H:ik.f k a0 l1=some (r1,r2,r3,r4,r5,r6)) :
  Calls Tryz.prog 45 #[.int .i64 a0,.slice A1 l1.length c1] w fun e w'=>∃ Jb Jc:Value,e=.returned (.agg #[.int .i64 r1,.string r2,.string r3,.int .i64 r4,Jb,Jc])∧Kd.R Kd.string 9 w' w.heap.size (fun _=>True) Jb r5∧Kd.R iA 95 w' w.heap.size (fun _=>True) Jc r6∧Below w.heap.size w w':=by
 have HTP:=am hTP;clear hTP
 have xq:=Tryz.underlying45;have Dy:=Tryz.underlying97;have r9:=Tryz.underlying62;have HR1:=am hr1;have uY:=am hc1;clear hr1 hc1;have HB:=am (Below.refl w.heap.size w);unfold ik.f at H
 by_cases c3:0<(l1.length:Int)
 ·rw [if_pos c3] at H;have aY:decide (0<(l1.length:Int))=true:=decide_eq_true c3;have dS:decide (0<l1.length)=true:=decide_eq_true (by omega);clear c3
  revert H;refine qO ?_
  intro c4 dF H;have kV:decide (0<((av l1 0).f1).length)=true:=decide_eq_true (by omega);clear c4
  revert H;refine qO ?_
  intro c5 ja H;have sJ:decide (0<((aK ((av l1 0).f1) 0).f0).length)=true:=decide_eq_true (by omega);clear c5;replace H:=bo H;obtain ⟨aa1,A6,H⟩:=H
  go_in
  try go_wp2_with (first|((with_reducible refine aJ (N:=4) rfl ?_);refine bz 4 (cs:=#[.int .i64 0,.string (⟨#[]⟩:ByteArray),.string (⟨#[]⟩:ByteArray),.int .i64 0,.slice none 0 0,.slice none 0 0]) (t:=45) HB ?_;clear HB;intro ZH hg w7 iE aDO hb HB;clear hb hg;have Wm:0≤(0:Int):=(by omega);have Wt:0<(l1.length:Int):=oa;obtain ⟨zf,aDe,aEK,auS,K5,K6,alC,ak4⟩:=kN HR1.o 0 Wm Wt;cases auS;have aLV:(0<l1.length)=True:=eq_true (by omega);(try rw [show ((0:Int)).toNat=0 from rfl] at K5);(try rw [show 0 * 2=0 from rfl] at K5);(try rw [Addr.add_zero'] at K5);(try rw [show ((0:Int)).toNat=0 from rfl] at K6);(try rw [show 0 * 2=0 from rfl] at K6);(try rw [Addr.add_zero'] at K6);replace K5:=cb HB K5;replace K6:=cb HB K6;have aq5:=am ak4;have aDT:=am alC;clear ak4 alC;replace Wm:=eq_true Wm;replace Wt:=eq_true Wt;have Wn:0≤(0:Int):=(by omega);have Wu:0<(((av l1 0).f1).length:Int):=oa;obtain ⟨aEi,aDf,aEL,auT,O6,alD,ak5⟩:=lN aq5.o 0 Wn Wu;cases auT;have aLW:(0<((av l1 0).f1).length)=True:=eq_true (by omega);(try rw [show ((0:Int)).toNat=0 from rfl] at O6);(try rw [Addr.add_zero'] at O6);replace O6:=cb HB O6;have aq6:=am ak5;have aDU:=am alD;clear ak5 alD;replace Wn:=eq_true Wn;replace Wu:=eq_true Wu;have Wo:0≤(0:Int):=(by omega);have Wv:0<(((aK ((av l1 0).f1) 0).f0).length:Int):=oa;obtain ⟨aEj,auU,O7⟩:=Kd.jw aq6.o 0 Wo Wv;cases auU;have aLX:(0<((aK ((av l1 0).f1) 0).f0).length)=True:=eq_true (by omega);(try rw [show ((0:Int)).toNat=0 from rfl] at O7);(try rw [Addr.add_zero'] at O7);replace O7:=cb HB O7;replace Wo:=eq_true Wo;replace Wv:=eq_true Wv)|((with_reducible refine aJ (N:=5) rfl ?_);refine bz 5 (cs:=#[.int .i64 0,.string (⟨#[]⟩:ByteArray),.string (⟨#[]⟩:ByteArray),.int .i64 0,.slice none 0 0,.slice none 0 0]) (t:=45) HB ?_;clear HB;intro iM hg w8 dV ut hb HB;have ND:=na hg iE;have NC:=nc hg iE;replace iE:=bb iE hb;clear hb hg;have UH:=NC.o;have UL:=ND.o;have zo:=dO dV))
  go_at_call 77;refine (DL.calls a0 aa1 _ A6.o).mono ?_;rintro e w' ⟨rfl,⟨nd,rfl⟩⟩;have JA:=am H;clear H
  go_upto_if 23 with (fail)
  go_cut [] (fun wc=>∃ (kq:Nat) (AV:ByteArray),af (ik.j0 kq a0 l1 a0 (bA ByteArray.empty ((aK ((av l1 0).f1) 0).f0) 0) AV 0=some (r1,r2,r3,r4,r5,r6))∧af (kq≤k)∧af (wc.heap[ZH]? = some (.cells #[.int .i64 0,.string (⟨#[]⟩:ByteArray),.string (⟨#[]⟩:ByteArray),.int .i64 0,(.slice none 0 0),(.slice none 0 0)] 45 (0,0)))∧af (wc.heap[iM]? = some (.cells #[.int .i64 a0,.string (bA ByteArray.empty ((aK ((av l1 0).f1) 0).f0) 0),.string AV,.int .i64 0,(.slice none 0 0),(.slice none 0 0)] 45 (0,0)))∧af (Below w.heap.size w wc))
  case first =>
   have H:=JA.o;clear JA
   obtain rfl|rfl:=bt aa1
   ·replace H:=dm H
    revert H;refine qO ?_
    intro c13 mq H;have BG:decide (1<((av l1 0).f1).length)=true:=decide_eq_true (by omega);clear c13
    (first|rw [mq]|(simp only [fC,gK];rw [mq])|rw [BG]|skip)
    revert H;refine qO ?_
    intro c14 ry H;have N8:decide (0<((aK ((av l1 0).f1) 1).f0).length)=true:=decide_eq_true (by omega);clear c14;have H':=am H;clear H;have p93:0≤(0:Int):=(by omega);have q93:0<(l1.length:Int):=oa;obtain ⟨as7,aDm,aET,e93,qN,vH,alK,alc⟩:=kN HR1.o 0 p93 q93;obtain rfl:zf=as7:=(by injection e93);have aL2:(0<l1.length)=True:=eq_true (by omega)
    (try rw [show ((0:Int)).toNat=0 from rfl] at qN)
    (try rw [show 0 * 2=0 from rfl] at qN)
    (try rw [Addr.add_zero'] at qN)
    (try rw [show ((0:Int)).toNat=0 from rfl] at vH)
    (try rw [show 0 * 2=0 from rfl] at vH)
    (try rw [Addr.add_zero'] at vH)
    have aeq:zf.block≠iM:=nl qN ut;have aer:zf.block≠iM:=nl qN ut;have aes:zf.block≠iM:=nl qN ut;have aet:zf.block≠iM:=nl qN ut;have aeu:zf.block≠iM:=nl qN ut;have aev:zf.block≠iM:=nl qN ut;replace qN:=cb HB qN;replace vH:=cb HB vH;have ara:=am alc;have aD1:=am alK;clear alc alK;replace qN:=(cell_far (p:=⟨iM,0,none⟩) (by exact nz aeq) (.int .i64 a0)).trans qN;replace vH:=(cell_far (p:=⟨iM,0,none⟩) (by exact nz aeq) (.int .i64 a0)).trans vH;replace qN:=(cell_far (p:=⟨iM,1,none⟩) (by exact nz aer) (.string (bA ByteArray.empty ((aK ((av l1 0).f1) 0).f0) 0))).trans qN;replace vH:=(cell_far (p:=⟨iM,1,none⟩) (by exact nz aer) (.string (bA ByteArray.empty ((aK ((av l1 0).f1) 0).f0) 0))).trans vH;replace qN:=(cell_far (p:=⟨iM,2,none⟩) (by exact nz aes) (.string (⟨#[]⟩:ByteArray))).trans qN;replace vH:=(cell_far (p:=⟨iM,2,none⟩) (by exact nz aes) (.string (⟨#[]⟩:ByteArray))).trans vH;replace qN:=(cell_far (p:=⟨iM,3,none⟩) (by exact nz aet) (.int .i64 0)).trans qN;replace vH:=(cell_far (p:=⟨iM,3,none⟩) (by exact nz aet) (.int .i64 0)).trans vH;replace qN:=(cell_far (p:=⟨iM,4,none⟩) (by exact nz aeu) (.slice none 0 0)).trans qN;replace vH:=(cell_far (p:=⟨iM,4,none⟩) (by exact nz aeu) (.slice none 0 0)).trans vH;replace qN:=(cell_far (p:=⟨iM,5,none⟩) (by exact nz aev) (.slice none 0 0)).trans qN;replace vH:=(cell_far (p:=⟨iM,5,none⟩) (by exact nz aev) (.slice none 0 0)).trans vH;clear aeq;clear aer;clear aes;clear aet;clear aeu;clear aev;replace p93:=eq_true p93;replace q93:=eq_true q93;have p96:0≤(1:Int):=(by omega);have q96:1<(((av l1 0).f1).length:Int):=oa;obtain ⟨NP,aDn,aEV,e96,rE,alL,ald⟩:=lN ara.o 1 p96 q96
    cases e96
    (try simp only [show (1:Int).toNat=1 from rfl,Nat.reduceMul,Nat.reduceEqDiff,Go.Addr.add,↓reduceIte] at rE)
    have aL3:(1<((av l1 0).f1).length)=True:=eq_true (by omega)
    (try rw [show ((1:Int)).toNat=1 from rfl] at rE)
    have alQ:NP.block≠iM:=nl rE ut;have alR:NP.block≠iM:=nl rE ut;have alS:NP.block≠iM:=nl rE ut;have alT:NP.block≠iM:=nl rE ut;have alU:NP.block≠iM:=nl rE ut;have alV:NP.block≠iM:=nl rE ut;replace rE:=cb HB rE;have arb:=am ald;have aD2:=am alL;clear ald alL;replace rE:=(cell_far (p:=⟨iM,0,none⟩) (by exact nz alQ) (.int .i64 a0)).trans rE;replace rE:=(cell_far (p:=⟨iM,1,none⟩) (by exact nz alR) (.string (bA ByteArray.empty ((aK ((av l1 0).f1) 0).f0) 0))).trans rE;replace rE:=(cell_far (p:=⟨iM,2,none⟩) (by exact nz alS) (.string (⟨#[]⟩:ByteArray))).trans rE;replace rE:=(cell_far (p:=⟨iM,3,none⟩) (by exact nz alT) (.int .i64 0)).trans rE;replace rE:=(cell_far (p:=⟨iM,4,none⟩) (by exact nz alU) (.slice none 0 0)).trans rE;replace rE:=(cell_far (p:=⟨iM,5,none⟩) (by exact nz alV) (.slice none 0 0)).trans rE;clear alQ;clear alR;clear alS;clear alT;clear alU;clear alV;replace p96:=eq_true p96;replace q96:=eq_true q96;have p99:0≤(0:Int):=(by omega);have q99:0<(((aK ((av l1 0).f1) 1).f0).length:Int):=oa;obtain ⟨NQ,e99,rF⟩:=Kd.jw arb.o 0 p99 q99
    cases e99
    have aL5:(0<((aK ((av l1 0).f1) 1).f0).length)=True:=eq_true (by omega)
    (try rw [show ((0:Int)).toNat=0 from rfl] at rF)
    (try rw [Addr.add_zero'] at rF)
    have alW:NQ.block≠iM:=nl rF ut;have alX:NQ.block≠iM:=nl rF ut;have alY:NQ.block≠iM:=nl rF ut;have alZ:NQ.block≠iM:=nl rF ut;have al0:NQ.block≠iM:=nl rF ut;have al1:NQ.block≠iM:=nl rF ut;replace rF:=cb HB rF;replace rF:=(cell_far (p:=⟨iM,0,none⟩) (by exact nz alW) (.int .i64 a0)).trans rF;replace rF:=(cell_far (p:=⟨iM,1,none⟩) (by exact nz alX) (.string (bA ByteArray.empty ((aK ((av l1 0).f1) 0).f0) 0))).trans rF;replace rF:=(cell_far (p:=⟨iM,2,none⟩) (by exact nz alY) (.string (⟨#[]⟩:ByteArray))).trans rF;replace rF:=(cell_far (p:=⟨iM,3,none⟩) (by exact nz alZ) (.int .i64 0)).trans rF;replace rF:=(cell_far (p:=⟨iM,4,none⟩) (by exact nz al0) (.slice none 0 0)).trans rF;replace rF:=(cell_far (p:=⟨iM,5,none⟩) (by exact nz al1) (.slice none 0 0)).trans rF;clear alW;clear alX;clear alY;clear alZ;clear al0;clear al1;replace p99:=eq_true p99;replace q99:=eq_true q99;have UE:=NC.o;have UI:=ND.o;have zt:=dO dV
    go_wp2
    go_meet
    case rel=>exact ⟨_,(bA ByteArray.empty ((aK ((av l1 0).f1) 1).f0) 0),H',⟨fl⟩,⟨ks iE⟩,⟨kp dV⟩,⟨bs HB⟩⟩
   ·replace H:=di H;have H':=am H;clear H
    go_wp2
    go_meet
    case rel=>exact ⟨_,((⟨#[]⟩:ByteArray)),H',⟨fl⟩,⟨ks iE⟩,⟨kp dV⟩,⟨bs HB⟩⟩
  case rest =>
   clear JA
   try clear c1
   try clear c3
   try clear aY
   try clear dS
   try clear c4
   try clear dF
   try clear kV
   try clear c5
   try clear ja
   try clear sJ
   try clear zo
   try clear K5
   try clear K6
   try clear O6
   try clear O7
   try clear Wm
   try clear Wn
   try clear Wo
   try clear Wt
   try clear Wu
   try clear Wv
   obtain ⟨kq,AV,HA,Ew,iE,dV,HB⟩:=hcut
   cases kq with
   | zero=>exact absurd HA.o (by simp [ik.j0])
   | succ FN =>
    have H:=HA.o;clear HA;simp only [ik.j0] at H
    revert H;refine qO ?_
    intro c17 qD H;have Dp:decide (0<l1.length)=true:=decide_eq_true (by omega);clear c17;obtain ⟨yD,ZR⟩:∃ j_:Int,(wrap64 ((((av l1 0).f1).length:Int) - 1))=j_:=⟨_,rfl⟩
    replace H:(if 0≤(yD) then (if (yD)<(((av l1 0).f1).length:Int) then (if 0<(((aK ((av l1 0).f1) (yD)).f0).length:Int) then ((oz.f FN (bA ByteArray.empty ((aK ((av l1 0).f1) (yD)).f0) 0) 0 100000).bind fun adc=>(if 1≤(l1.length:Int) then ((some (l1.drop 1:List bn)).bind fun gF=>(ik.l0 FN a0 gF (gF.length:Int) 0 a0 (bA ByteArray.empty ((aK ((av l1 0).f1) 0).f0) 0) AV adc.1 ([]:List ByteArray) ([]:List aZ))) else none)) else none) else none) else none)=some (r1,r2,r3,r4,r5,r6):=by first|(rw [ZR] at H;exact H)|(simp only [ZR] at H ⊢;exact H)
    have aH3:(IntKind.i64.wrap ((((av l1 0).f1).length:Int) - 1))=yD:=(fC _).trans ZR
    revert H;refine bv ?_
    intro vw H
    revert H;refine bv ?_
    intro vY H
    revert H;refine qO ?_
    intro c21 zm H;have EQ:decide (0<((aK ((av l1 0).f1) (yD)).f0).length)=true:=decide_eq_true (by omega);clear c21;replace H:=bo H;obtain ⟨⟨F6,aA8⟩,Ej,H⟩:=H;(try dsimp only at H)
    revert H;refine ku ?_
    intro c23 H;have G9:=eq_true c23;have adp:decide (1≤(l1.length:Int))=true:=decide_eq_true c23;clear c23;obtain ⟨gF,afJ⟩:∃ y_:List bn,y_=(l1.drop 1):=⟨_,rfl⟩
    replace H:(ik.l0 FN a0 gF (gF.length:Int) 0 a0 (bA ByteArray.empty ((aK ((av l1 0).f1) 0).f0) 0) AV F6 ([]:List ByteArray) ([]:List aZ))=some (r1,r2,r3,r4,r5,r6):=ye afJ H
    have aiS:=am afJ;clear afJ;have H':=am H;clear H
    try go_wp2
    replace iE:=am (bD iE.o);replace dV:=am (bD dV.o);replace HB:=am (cZ HB.o);have p98:0≤(0:Int):=(by omega);have q98:0<(l1.length:Int):=oa;obtain ⟨as8,aDo,aEX,e98,Iu,FH,alM,ale⟩:=kN HR1.o 0 p98 q98;have OY:=FH
    (try rw [show ((0:Int)).toNat=0 from rfl] at OY)
    (try rw [show 0 * 2=0 from rfl] at OY)
    (try rw [Addr.add_zero'] at OY)
    have OX:=Iu
    (try rw [show ((0:Int)).toNat=0 from rfl] at OX)
    (try rw [show 0 * 2=0 from rfl] at OX)
    (try rw [Addr.add_zero'] at OX)
    obtain rfl:zf=as8:=(by injection e98);have aL4:(0<l1.length)=True:=eq_true (by omega)
    (try rw [show ((0:Int)).toNat=0 from rfl] at Iu)
    (try rw [show 0 * 2=0 from rfl] at Iu)
    (try rw [Addr.add_zero'] at Iu)
    (try rw [show ((0:Int)).toNat=0 from rfl] at FH)
    (try rw [show 0 * 2=0 from rfl] at FH)
    (try rw [Addr.add_zero'] at FH)
    replace Iu:=cb HB Iu;replace FH:=cb HB FH;have aif:=am ale;have aD3:=am alM;clear ale alM;replace p98:=eq_true p98;replace q98:=eq_true q98;have aaF:0≤(0:Int):=(by omega);have aaI:0<(l1.length:Int):=oa;obtain ⟨as0,aDg,aEM,auV,Il,FE,alE,ak6⟩:=kN HR1.o 0 aaF aaI;have OW:=FE
    (try rw [show ((0:Int)).toNat=0 from rfl] at OW)
    (try rw [show 0 * 2=0 from rfl] at OW)
    (try rw [Addr.add_zero'] at OW)
    have OV:=Il
    (try rw [show ((0:Int)).toNat=0 from rfl] at OV)
    (try rw [show 0 * 2=0 from rfl] at OV)
    (try rw [Addr.add_zero'] at OV)
    obtain rfl:zf=as0:=(by injection auV);have aLY:(0<l1.length)=True:=eq_true (by omega)
    (try rw [show ((0:Int)).toNat=0 from rfl] at Il)
    (try rw [show 0 * 2=0 from rfl] at Il)
    (try rw [Addr.add_zero'] at Il)
    (try rw [show ((0:Int)).toNat=0 from rfl] at FE)
    (try rw [show 0 * 2=0 from rfl] at FE)
    (try rw [Addr.add_zero'] at FE)
    replace Il:=cb HB Il;replace FE:=cb HB FE;have aq7:=am ak6;have aDV:=am alE;clear ak6 alE;replace aaF:=eq_true aaF;replace aaI:=eq_true aaI;(try (have ea_:=Option.some.inj (FH.symm.trans FE);injection ea_ with ea_ en_ ec_;subst ea_;subst ec_;clear en_));obtain ⟨aze,azr,aEk,aDh,Zf,auW,VO,alF,ak7⟩:=wi (lN aif.o (yD));have aeS:=VO
    cases auW
    replace VO:=cb HB VO;have aib:=am ak7;have aDW:=am alF;clear ak7 alF;refine gD 14 (aC (cb HB OX) (aC (cb HB OY) (aC (cb HB OV) (aC (cb HB OW) (hc (cb HB aeS)))))) (fun hHeld=>?_);refine fu ik.xQ ik.xg (fun HT_ HW_=>?_)
    generalize wc.drew=CL at iE dV HB aif aq7 aib Iu FH Il FE VO hHeld ⊢
    refine jo 0 ?_;refine jo 4 ?_;refine ta 3 ?_;refine ta 7 ?_;refine jo 8 ?_;refine ta 11 ?_;refine oA 12 6 HT_ (fun K hK=>?_);refine YN ?hg (N:=6) ?hd (cs:=#[.slice none 0 0]) (t:=97) ?hr ?_;(case hd=>rfl);(case hg=>rfl);(case hr=>first|(go_simp;done)|(go_simp;rfl));intro BP hg Je hbox hb;have j6:=am (hbox);have Nk:=gw hg HB;replace HB:=bq HB hb;have acT:=na hg iE;have acV:=nc hg iE;replace iE:=bb iE hb;have RB:=na hg dV;have RF:=nc hg dV;replace dV:=bb dV hb;clear hb hbox hg;refine hK.out _ _ (aC (cb HB OX) (aC (cb HB OY) (aC (cb HB OV) (aC (cb HB OW) (hc (cb HB aeS)))))).o (fun hHeld=>?_);clear hK K;refine nA 6 ?_;refine o9 (i:=13) (N:=none) #[true,true,true,true,true,true,true,true,true,true,true,true,true,true] rfl rfl (xH HT_.o (by kernel_rfl)) (by decide) (fun K hK=>?_);have aLd:Je.cell? ⟨BP,0,none⟩=some (.slice none 0 0):=(aA j6.o 0).trans rfl;have aGO:=bu j6.o 0;have aKB:=acT.o;have aKC:=RB.o;have aIp:=acV.o;have aIq:=RF.o;refine xJ (w1:=?_) (by rfl) rfl ?_ ?_
    rotate_left
    ·go_simp
     rfl
    refine hK.out _ _ ⟨((cell_far (p:=⟨BP,_,none⟩) (by exact nl OX Nk) _).trans (hHeld.1)),((cell_far (p:=⟨BP,_,none⟩) (by exact nl OY Nk) _).trans (hHeld.2.1)),((cell_far (p:=⟨BP,_,none⟩) (by exact nl OV Nk) _).trans (hHeld.2.2.1)),((cell_far (p:=⟨BP,_,none⟩) (by exact nl OW Nk) _).trans (hHeld.2.2.2.1)),((cell_far (p:=⟨BP,_,none⟩) (by exact nl aeS Nk) _).trans (hHeld.2.2.2.2))⟩ (fun hHeld=>?_);clear hK K;refine ek (fo HT_.o (by kernel_rfl)) ?_;have al6:=acV.o;have amh:=acT.o;have UF:=RF.o;have UJ:=RB.o;have KR:=vB j6;have aaG:0≤(0:Int):=(by omega);have aaJ:0<(((aK ((av l1 0).f1) (yD)).f0).length:Int):=oa;obtain ⟨RX,auX,Im⟩:=Kd.jw aib.o 0 aaG aaJ
    cases auX
    have aLZ:(0<((aK ((av l1 0).f1) (yD)).f0).length)=True:=eq_true (by omega)
    (try rw [show ((0:Int)).toNat=0 from rfl] at Im)
    (try rw [Addr.add_zero'] at Im)
    have alP:RX.block≠BP:=nl Im Nk;replace Im:=cb HB Im;replace Im:=(cell_far (p:=⟨BP,0,none⟩) (by exact nz alP) (.slice (some RX) ((aK ((av l1 0).f1) (yD)).f0).length Zf)).trans Im;clear alP;replace aaG:=eq_true aaG;replace aaJ:=eq_true aaJ
    try go_wp2_with (first|((go_at_call 87;refine (oz.calls FN (bA ByteArray.empty ((aK ((av l1 0).f1) (yD)).f0) 0) 0 100000 F6 aA8 _ (pq HTP (bs HB)) Ej.o).mono ?_;rintro e uk ⟨rfl,hb⟩);replace iE:=bb iE hb;replace dV:=bb dV hb;replace j6:=am (aU (g:=BP) (o:=.cells #[.slice (some RX) ((aK ((av l1 0).f1) (yD)).f0).length Zf] 97 (0,0)) (kp j6) hb);replace HB:=bq HB hb;(try clear hb);have UG:=NC.o;have UK:=ND.o;have aF0:uk.cell? ⟨iM,0,none⟩=some (.int .i64 a0):=(aA dV.o 0).trans rfl;have aF1:uk.cell? ⟨iM,1,none⟩=some (.string (bA ByteArray.empty ((aK ((av l1 0).f1) 0).f0) 0)):=(aA dV.o 1).trans rfl;have aF2:uk.cell? ⟨iM,2,none⟩=some (.string AV):=(aA dV.o 2).trans rfl;have aF3:uk.cell? ⟨iM,3,none⟩=some (.int .i64 0):=(aA dV.o 3).trans rfl;have aF4:uk.cell? ⟨iM,4,none⟩=some (.slice none 0 0):=(aA dV.o 4).trans rfl;have aF5:uk.cell? ⟨iM,5,none⟩=some (.slice none 0 0):=(aA dV.o 5).trans rfl;have aHI:=bu dV.o 0;have aHJ:=bu dV.o 1;have aHK:=bu dV.o 2;have aHL:=bu dV.o 3;have aHM:=bu dV.o 4;have aHN:=bu dV.o 5)|((with_reducible refine oJ (t:=2) (p:=55) rfl ?_);refine pg (t:=2) (p:=55) (v:=?aMR) (w1:=(uk.setCell ⟨iM,3,none⟩ (.int .i64 F6))) ?hg ?ho ?hn ?hr ?_;(case ho=>rfl);(case hg=>rfl);(case hn=>rfl);(case hr=>first|(go_simp;done)|(go_simp;rfl));intro Jf hw;replace iE:af (Jf.heap[ZH]? = some (.cells #[.int .i64 0,.string (⟨#[]⟩:ByteArray),.string (⟨#[]⟩:ByteArray),.int .i64 0,.slice none 0 0,.slice none 0 0] 45 (0,0))):=⟨(by rw [hw];exact (ks iE))⟩;replace dV:af (Jf.heap[iM]? = some (.cells #[.int .i64 a0,.string (bA ByteArray.empty ((aK ((av l1 0).f1) 0).f0) 0),.string AV,.int .i64 F6,.slice none 0 0,.slice none 0 0] 45 (0,0))):=⟨(by rw [hw];exact (kp dV))⟩;replace j6:af (Jf.heap[BP]? = some (.cells #[.slice (some RX) ((aK ((av l1 0).f1) (yD)).f0).length Zf] 97 (0,0))):=⟨(by rw [hw];exact (ks j6))⟩;replace HB:af (Below w.heap.size w Jf):=⟨(by rw [hw];exact (bs HB))⟩;clear hw;have PK:(1:Int)≤((l1.length:Int):Int):=oa;obtain ⟨aLI,akJ,_,amr,_⟩:=info_parts V7;have aeJ:l1.length≤c1:=uY.o;have akr:Kd.C kP _ (some zf) l1.length l1:=HR1.o;have avY:=auC (P:=Tryz.prog) 57 62 .i64 Tryz.underlying57 akJ 2 amr (some zf) l1.length c1 1 (by omega) PK;have U2:=Kd.apr (m:=(1:Int).toNat) (c:=c1) akr (by omega) aeJ;obtain ⟨QP,ZK⟩:∃ Aq_,Aq_=(if c1=(1:Int).toNat then (some zf) else ((some zf):Option Addr).map (·.add ((1:Int).toNat * 2))):=⟨_,rfl⟩;obtain ⟨c34,hc34⟩:∃ cq_,cq_=c1 - (1:Int).toNat:=⟨_,rfl⟩;have hy34:gF.length=l1.length - (1:Int).toNat:=(by rw [aiS.o,List.length_drop] <;> omega);rw [show (l1).drop (1:Int).toNat=gF from aiS.o.symm] at U2;replace U2:Kd.C kP _ QP gF.length gF:=(by rw [ZK];exact U2);rw [← hy34,← ZK,← hc34] at avY;have aic:=am U2;have aDX:=am (show gF.length≤c34 from by rw [hy34,hc34];exact Nat.sub_le_sub_right aeJ _);clear U2 akr aeJ akJ amr hc34;have aD9:=am hy34;have aD8:=am ZK;clear hy34 ZK;replace PK:=eq_true PK))
    go_loopg [59] FN (fun kq v59 w'=>∃ (iq:Int) (Ed:List ByteArray) (Ee:List aZ) (I8:Value) (I9:Value),v59=.int .i64 iq∧af (ik.l0 kq a0 gF (gF.length:Int) iq a0 (bA ByteArray.empty ((aK ((av l1 0).f1) 0).f0) 0) AV F6 Ed Ee=some (r1,r2,r3,r4,r5,r6))∧af (kq≤FN)∧af (Kd.R Kd.string 9 w' w.heap.size (fun _=>True) I8 Ed)∧af (Kd.R iA 95 w' w.heap.size (fun _=>True) I9 Ee)∧af (w'.heap[ZH]? = some (.cells #[.int .i64 0,.string (⟨#[]⟩:ByteArray),.string (⟨#[]⟩:ByteArray),.int .i64 0,(.slice none 0 0),(.slice none 0 0)] 45 (0,0)))∧af (w'.heap[iM]? = some (.cells #[.int .i64 a0,.string (bA ByteArray.empty ((aK ((av l1 0).f1) 0).f0) 0),.string AV,.int .i64 F6,I8,I9] 45 (0,0)))∧af (w'.heap[BP]? = some (.cells #[(.slice (some RX) ((aK ((av l1 0).f1) (yD)).f0).length Zf)] 97 (0,0)))∧af (Below w.heap.size w w'))
    case atStart=>exact ⟨(0),(([]:List ByteArray)),(([]:List aZ)),(.slice none 0 0),(.slice none 0 0),fg,H',⟨Nat.le_refl _⟩,⟨by first|exact Kd.rq _ _ _ _ _|exact Kd.uZ _ _ _ _ _|exact Kd.vk _ _ _ _ _|exact Kd.u6 _ _ _ _ _|exact Kd.rX _ _ _ _ _⟩,⟨by first|exact Kd.rq _ _ _ _ _|exact Kd.uZ _ _ _ _ _|exact Kd.vk _ _ _ _ _|exact Kd.u6 _ _ _ _ _|exact Kd.rX _ _ _ _ _⟩,⟨ks iE⟩,⟨ks dV⟩,⟨ks j6⟩,⟨bs HB⟩⟩
    case round =>
     clear H'
     try clear c1
     try clear c3
     try clear aY
     try clear dS
     try clear c4
     try clear dF
     try clear kV
     try clear c5
     try clear ja
     try clear sJ
     try clear c17
     try clear qD
     try clear Dp
     try clear vw
     try clear vY
     try clear c21
     try clear zm
     try clear EQ
     try clear c23
     try clear G9
     try clear adp
     try clear c34
     try clear PK
     try clear zo
     try clear KR
     try clear K5
     try clear K6
     try clear O6
     try clear O7
     try clear Iu
     try clear FH
     try clear Il
     try clear FE
     try clear VO
     try clear Im
     try clear Wm
     try clear Wn
     try clear Wo
     try clear p98
     try clear aaF
     try clear aze
     try clear aaG
     try clear PK
     try clear Wt
     try clear Wu
     try clear Wv
     try clear q98
     try clear aaI
     try clear azr
     try clear aaJ
     try clear iE
     try clear dV
     try clear j6
     obtain ⟨iq,Ed,Ee,I8,I9,rfl,HA,dD,mg,mh,iE,dV,j6,HB⟩:=hrel
     cases gk with
     | zero=>exact absurd HA.o (by simp [ik.l0])
     | succ k2 =>
      have H:=HA.o;clear HA;simp only [ik.l0] at H
      revert H;refine bK ?_ ?_
      ·intro Zd H
       revert H;refine bv ?_
       intro wm H
       revert H;refine bv ?_
       intro ET H
       revert H;refine bH ?_ ?_
       ·intro Hf Kv H
        revert H;refine qO ?_
        intro c39 Sm H;have ajI:decide (0<((av gF iq).f1).length)=true:=decide_eq_true (by omega);clear c39
        revert H;refine qO ?_
        intro c40 BH H;have Ze:decide (0<((aK ((av gF iq).f1) 0).f0).length)=true:=decide_eq_true (by omega);clear c40
        revert H;refine ku ?_
        intro c41 H;have ary:=am c41;clear c41;obtain ⟨ahc,afD⟩:∃ y_:List ByteArray,y_=(Ed++[bA ByteArray.empty ((aK ((av gF iq).f1) 0).f0) 0]):=⟨_,rfl⟩
        replace H:(ik.l0 k2 a0 gF (gF.length:Int) (wrap64 (iq+1)) a0 (bA ByteArray.empty ((aK ((av l1 0).f1) 0).f0) 0) AV F6 ahc Ee)=some (r1,r2,r3,r4,r5,r6):=ye afD H
        have aso:=am afD;clear afD;have H':=am H;clear H;obtain ⟨p91,q91,as6,sw,sK,e91,VZ,V3,UB,Ub⟩:=wi (kN aic.o iq)
        cases e91
        replace VZ:=cb HB VZ;replace V3:=cb HB V3;have acz:=am Ub;have ahP:=am UB;clear Ub UB
        try go_wp2_with (first|((with_reducible refine aJ (N:=10) rfl ?_);refine bx 10 (cs:=#[.string (⟨#[]⟩:ByteArray),.slice none 0 0]) (t:=62) ?_;intro lC hg vN hbox hb;replace mg:=am (Kd.cu (rs mg) hb);replace mh:=am (Kd.cu (rs mh) hb);have kT:=am (hbox);have apM:=gw hg HB;replace HB:=bq HB hb;have acS:=na hg iE;have acQ:=nc hg iE;replace iE:=bb iE hb;have RA:=na hg dV;have RD:=nc hg dV;replace dV:=bb dV hb;have acU:=na hg j6;have acR:=nc hg j6;replace j6:=bb j6 hb;clear hb hbox hg;have awT:=acQ.o;have axf:=acS.o;have aJc:=RD.o;have aJW:=RA.o;have awU:=acR.o;have axg:=acU.o;have akD:=fM kT))
        have cK:af (Kd.R Kd.string 9 ((vN.setCell ⟨lC,0,none⟩ (.string ((av gF iq).f0))).setCell ⟨lC,1,none⟩ (.slice sw ((av gF iq).f1).length sK)) w.heap.size (fun _=>True) I8 Ed):=⟨Kd.dE (rf (Kd.mi mg.o kT.o (by decide))) (fun _ hk=>trivial)⟩;have cO:af (Kd.R iA 95 ((vN.setCell ⟨lC,0,none⟩ (.string ((av gF iq).f0))).setCell ⟨lC,1,none⟩ (.slice sw ((av gF iq).f1).length sK)) w.heap.size (fun _=>True) I9 Ee):=⟨Kd.dE (rf (Kd.mi mh.o kT.o (by decide))) (fun _ hk=>trivial)⟩;have dw:=kz ((vN.setCell ⟨lC,0,none⟩ (.string ((av gF iq).f0))).setCell ⟨lC,1,none⟩ (.slice sw ((av gF iq).f1).length sK)) iE;have iB:=kz ((vN.setCell ⟨lC,0,none⟩ (.string ((av gF iq).f0))).setCell ⟨lC,1,none⟩ (.slice sw ((av gF iq).f1).length sK)) dV;have nG:=kz ((vN.setCell ⟨lC,0,none⟩ (.string ((av gF iq).f0))).setCell ⟨lC,1,none⟩ (.slice sw ((av gF iq).f1).length sK)) j6;have wR:af (((vN.setCell ⟨lC,0,none⟩ (.string ((av gF iq).f0))).setCell ⟨lC,1,none⟩ (.slice sw ((av gF iq).f1).length sK)).heap[lC]? = some (.cells #[.string ((av gF iq).f0),.slice sw ((av gF iq).f1).length sK] 62 (0,0))):=⟨kp kT⟩;have zG:af (Below w.heap.size w ((vN.setCell ⟨lC,0,none⟩ (.string ((av gF iq).f0))).setCell ⟨lC,1,none⟩ (.slice sw ((av gF iq).f1).length sK))):=⟨bs HB⟩;(try clear mg);(try clear mh);(try clear iE);(try clear dV);(try clear j6);(try clear kT);(try clear HB)
        generalize ((vN.setCell ⟨lC,0,none⟩ (.string ((av gF iq).f0))).setCell ⟨lC,1,none⟩ (.slice sw ((av gF iq).f1).length sK))=WW at cK cO dw iB nG wR zG ⊢
        have mg:=cK;have mh:=cO;have iE:=dw;have dV:=iB;have j6:=nG;have kT:=wR;have HB:=zG;clear cK cO dw iB nG wR zG;replace mg:=am (Kd.eO mg.o);replace mh:=am (Kd.eO mh.o);replace iE:=am (bD iE.o);replace dV:=am (bD dV.o);replace j6:=am (bD j6.o);replace kT:=am (bD kT.o);replace HB:=am (cZ HB.o);have af8:0≤(0:Int):=(by omega);have agk:0<(((av gF iq).f1).length:Int):=oa;obtain ⟨aEl,aDi,aEN,auY,O8,alG,ak8⟩:=lN acz.o 0 af8 agk;have KX:=O8
        (try rw [show ((0:Int)).toNat=0 from rfl] at KX)
        (try rw [show 0 * 1=0 from rfl] at KX)
        (try rw [Addr.add_zero'] at KX)
        cases auY
        have aL0:(0<((av gF iq).f1).length)=True:=eq_true (by omega)
        (try rw [show ((0:Int)).toNat=0 from rfl] at O8)
        (try rw [Addr.add_zero'] at O8)
        replace O8:=cb HB O8;have aid:=am ak8;have aDY:=am alG;clear ak8 alG;replace af8:=eq_true af8;replace agk:=eq_true agk;have af9:0≤(0:Int):=(by omega);have agl:0<(((aK ((av gF iq).f1) 0).f0).length:Int):=oa;obtain ⟨aEm,auZ,O9⟩:=Kd.jw aid.o 0 af9 agl;have KY:=O9
        (try rw [show ((0:Int)).toNat=0 from rfl] at KY)
        (try rw [show 0 * 1=0 from rfl] at KY)
        (try rw [Addr.add_zero'] at KY)
        cases auZ
        have aL1:(0<((aK ((av gF iq).f1) 0).f0).length)=True:=eq_true (by omega)
        (try rw [show ((0:Int)).toNat=0 from rfl] at O9)
        (try rw [Addr.add_zero'] at O9)
        replace O9:=cb HB O9;replace af9:=eq_true af9;replace agl:=eq_true agl;refine CE 13 [12] (qJ dV (KJ kT (aC (cb HB KX) (hc (cb HB KY))))) (fun hHeld=>?_);refine fu ik.WS ik.R5 (fun HT_ HW_=>?_)
        generalize WW.drew=WX at mg mh iE dV j6 kT HB aid O8 O9 hHeld ⊢
        refine bQ 0 ?_;refine bQ 2 ?_;refine ta 1 ?_;refine ta 3 ?_;refine jU 4 ?_;refine ta 6 ?_;refine bQ 7 ?_;refine ta 8 ?_;refine oA 9 75 HT_ (fun K hK=>?_);refine F8 (w1:=?_) (v:=?_) (by rfl) rfl ?_ ?_
        rotate_left 2
        ·go_simp
         constructor
         ·rfl
         ·rfl
        refine hK.out _ _ ⟨(aA (eY dV.o _) 0).trans rfl,(aA (eY dV.o _) 1).trans rfl,(aA (eY dV.o _) 2).trans rfl,(aA (eY dV.o _) 3).trans rfl,(aA (eY dV.o _) 4).trans rfl,(aA (eY dV.o _) 5).trans rfl,(aA (eY kT.o _) 0).trans rfl,(aA (eY kT.o _) 1).trans rfl,(World.cell?_alloc_lt _ _ _ (World.block_lt_of_cell? _ _ (((cb HB KX).trans rfl)))).trans (((cb HB KX).trans rfl)),(World.cell?_alloc_lt _ _ _ (World.block_lt_of_cell? _ _ (((cb HB KY).trans rfl)))).trans (((cb HB KY).trans rfl))⟩ (fun hHeld=>?_);clear hK K;refine nA 75 ?_;refine oA 10 76 HT_ (fun K hK=>?_);refine Kd.Yp Kd.string (w0:=w) w.heap.size (by rfl) (.tmp 67) (.tmp 75) 42 9 (.string ⟨#[]⟩) 16 rfl Tryz.underlying42 zC rfl (by decide) (by omega) I8 Ed (bA ByteArray.empty ((aK ((av gF iq).f1) 0).f0) 0) [.string (bA ByteArray.empty ((aK ((av gF iq).f1) 0).f0) 0)] (fun _=>True) (fun _=>False) rfl rfl ?aP (fun _ hk=>hk.elim) ?aF ?aO ?aB ?aS ?aL ?_
        (case aP=>exact rfl)
        (case aB=>exact (bs HB))
        (case aF=>exact (fun _ _=>trivial))
        (case aO=>exact (rs mg))
        (case aS=>exact (bJ (bs HB)))
        (case aL=>have:=ary.o;omega)
        intro aMJ Qf ho hb hg hat
        rw [← aso.o] at ho
        replace mh:=am (Kd.GM (rs mh) (Kd.J9 (rs mg)) (by decide) hg);replace iE:=am (fV (ks iE) hg (Kd.ko mg.o iE.o (by decide)));replace dV:=am (fV (ks dV) hg (Kd.ko mg.o dV.o (by decide)));replace j6:=am (fV (ks j6) hg (Kd.ko mg.o j6.o (by decide)));replace kT:=am (fV (ks kT) hg (Kd.ko mg.o kT.o (by decide)));replace HB:=am (hb);have ah6:=am (ho);clear mg;clear ho hb hg hat;obtain ⟨XM,Zp,Ta⟩:=Kd.gW ah6.o
        (first|subst Ta|(injection Ta with fO jy fP;have jA:=fO.symm;have jB:=fP.symm;clear fO jy fP;subst jA;subst jB))
        refine hK.out _ _ (qJ dV (KJ kT (aC (cb HB KX) (hc (cb HB KY))))).o (fun hHeld=>?_);clear hK K;refine nA 76 ?_;refine bQ 11 ?_;refine IB (i:=12) (N:=none) #[true,true,true,true,true,true,true,true,true,true,true,true,true] rfl rfl (xH HT_.o (by kernel_rfl)) (by decide) (fun K hK=>?_);have axw:Qf.cell? ⟨iM,4,none⟩=some (I8):=(aA dV.o 4).trans rfl;have aww:=bu dV.o 4;have axs:=ND.o;have aKO:=RF.o;have aKP:=RD.o;have awH:=NC.o;have aIC:=RB.o;have aID:=RA.o;refine xJ (w1:=?_) (by rfl) rfl ?_ ?_
        rotate_left
        ·go_simp
         rfl
        refine hK.out _ _ ?_;clear hK K;refine ek (fo HT_.o (by kernel_rfl)) ?_
        try go_wp2
        go_roundg k2
        case measure=>have:=Ew.o;have:=dD.o;omega
        case rel=>exact ⟨(wrap64 (iq+1)),(ahc),(Ee),(.slice XM ahc.length Zp),(I9),fg,H',⟨by have:=Ew.o;have:=dD.o;omega⟩,⟨Kd.dE (rf (Kd.mi ah6.o dV.o (by decide))) (fun _ hk=>trivial)⟩,⟨Kd.dE (rf (Kd.mi mh.o dV.o (by decide))) (fun _ hk=>trivial)⟩,⟨ks iE⟩,⟨kp dV⟩,⟨ks j6⟩,⟨bs HB⟩⟩
       ·intro He Hf Kv H;replace H:=bo H;obtain ⟨⟨WN,WO,WP,WQ,WR⟩,A52,H⟩:=H;(try dsimp only at H)
        revert H;refine ku ?_
        intro c53 H;have arA:=am c53;clear c53;obtain ⟨ahd,afE⟩:∃ y_:List aZ,y_=(Ee++[(⟨WN,WO,WP,WQ,WR⟩:aZ)]):=⟨_,rfl⟩
        replace H:(ik.l0 k2 a0 gF (gF.length:Int) (wrap64 (iq+1)) a0 (bA ByteArray.empty ((aK ((av l1 0).f1) 0).f0) 0) AV F6 Ed ahd)=some (r1,r2,r3,r4,r5,r6):=ye afE H
        have asq:=am afE;clear afE;have H':=am H;clear H;obtain ⟨p91,q91,as6,sw,sK,e91,VZ,V3,UB,Ub⟩:=wi (kN aic.o iq)
        cases e91
        replace VZ:=cb HB VZ;replace V3:=cb HB V3;have acz:=am Ub;have ahP:=am UB;clear Ub UB
        try go_wp2_with (first|((with_reducible refine aJ (N:=10) rfl ?_);refine bx 10 (cs:=#[.string (⟨#[]⟩:ByteArray),.slice none 0 0]) (t:=62) ?_;intro lC hg Ga hbox hb;replace mg:=am (Kd.cu (rs mg) hb);replace mh:=am (Kd.cu (rs mh) hb);have kT:=am (hbox);have apM:=gw hg HB;replace HB:=bq HB hb;have acS:=na hg iE;have acQ:=nc hg iE;replace iE:=bb iE hb;have RA:=na hg dV;have RD:=nc hg dV;replace dV:=bb dV hb;have acU:=na hg j6;have acR:=nc hg j6;replace j6:=bb j6 hb;clear hb hbox hg;have ama:=acQ.o;have aml:=acS.o;have aJg:=RD.o;have aJ0:=RA.o;have aJh:=acR.o;have aJ1:=acU.o;have aGb:=fM kT))
        have cK:af (Kd.R Kd.string 9 ((Ga.setCell ⟨lC,0,none⟩ (.string ((av gF iq).f0))).setCell ⟨lC,1,none⟩ (.slice sw ((av gF iq).f1).length sK)) w.heap.size (fun _=>True) I8 Ed):=⟨Kd.dE (rf (Kd.mi mg.o kT.o (by decide))) (fun _ hk=>trivial)⟩;have cO:af (Kd.R iA 95 ((Ga.setCell ⟨lC,0,none⟩ (.string ((av gF iq).f0))).setCell ⟨lC,1,none⟩ (.slice sw ((av gF iq).f1).length sK)) w.heap.size (fun _=>True) I9 Ee):=⟨Kd.dE (rf (Kd.mi mh.o kT.o (by decide))) (fun _ hk=>trivial)⟩;have dw:=kz ((Ga.setCell ⟨lC,0,none⟩ (.string ((av gF iq).f0))).setCell ⟨lC,1,none⟩ (.slice sw ((av gF iq).f1).length sK)) iE;have iB:=kz ((Ga.setCell ⟨lC,0,none⟩ (.string ((av gF iq).f0))).setCell ⟨lC,1,none⟩ (.slice sw ((av gF iq).f1).length sK)) dV;have nG:=kz ((Ga.setCell ⟨lC,0,none⟩ (.string ((av gF iq).f0))).setCell ⟨lC,1,none⟩ (.slice sw ((av gF iq).f1).length sK)) j6;have wR:af (((Ga.setCell ⟨lC,0,none⟩ (.string ((av gF iq).f0))).setCell ⟨lC,1,none⟩ (.slice sw ((av gF iq).f1).length sK)).heap[lC]? = some (.cells #[.string ((av gF iq).f0),.slice sw ((av gF iq).f1).length sK] 62 (0,0))):=⟨kp kT⟩;have zG:af (Below w.heap.size w ((Ga.setCell ⟨lC,0,none⟩ (.string ((av gF iq).f0))).setCell ⟨lC,1,none⟩ (.slice sw ((av gF iq).f1).length sK))):=⟨bs HB⟩;(try clear mg);(try clear mh);(try clear iE);(try clear dV);(try clear j6);(try clear kT);(try clear HB)
        generalize ((Ga.setCell ⟨lC,0,none⟩ (.string ((av gF iq).f0))).setCell ⟨lC,1,none⟩ (.slice sw ((av gF iq).f1).length sK))=w59 at cK cO dw iB nG wR zG ⊢
        have mg:=cK;have mh:=cO;have iE:=dw;have dV:=iB;have j6:=nG;have kT:=wR;have HB:=zG;clear cK cO dw iB nG wR zG;replace mg:=am (Kd.eO mg.o);replace mh:=am (Kd.eO mh.o);replace iE:=am (bD iE.o);replace dV:=am (bD dV.o);replace j6:=am (bD j6.o);replace kT:=am (bD kT.o);replace HB:=am (cZ HB.o);refine CE 9 [8] (qJ dV (hb2 kT)) (fun hHeld=>?_);refine fu ik.yI ik.yf (fun HT_ HW_=>?_)
        generalize w59.drew=w60 at mg mh iE dV j6 kT HB hHeld ⊢
        refine bQ 0 ?_;refine bQ 2 ?_;refine ta 1 ?_;refine ta 3 ?_;refine oA 4 82 HT_ (fun K hK=>?_);refine gA Tryz.func88 #[.int .i64 a0,.agg #[.string ((av gF iq).f0),.slice sw ((av gF iq).f1).length sK]] ?_;(with_reducible refine (tV.calls k2 a0 ((av gF iq).f0) _ _ ((av gF iq).f1) WN WO WP WQ WR _ ?aR ?bg (pq HTP (bs HB)) A52.o).mono ?_)
        (case aR=>exact sd (Kd.bi acz.o HB.o))
        (case bg=>exact ahP.o)
        rintro e w61 ⟨rfl,hb⟩;refine ⟨_,rfl,?_⟩;replace mg:=am (Kd.cu (rs mg) hb);replace mh:=am (Kd.cu (rs mh) hb);replace iE:=bb iE hb;replace dV:=bb dV hb;replace j6:=bb j6 hb;replace kT:=bb kT hb;replace HB:=bq HB hb;(try clear hb);refine hK.out _ _ (qJ dV (hb2 kT)).o (fun hHeld=>?_);clear hK K;refine nA 82 ?_;refine oA 5 83 HT_ (fun K hK=>?_);refine F8 (w1:=?_) (v:=?_) (by rfl) rfl ?_ ?_
        rotate_left 2
        ·go_simp
         constructor
         ·rfl
         ·rfl
        refine hK.out _ _ ⟨(aA (eY dV.o _) 0).trans rfl,(aA (eY dV.o _) 1).trans rfl,(aA (eY dV.o _) 2).trans rfl,(aA (eY dV.o _) 3).trans rfl,(aA (eY dV.o _) 4).trans rfl,(aA (eY dV.o _) 5).trans rfl,(aA (eY kT.o _) 0).trans rfl,(aA (eY kT.o _) 1).trans rfl⟩ (fun hHeld=>?_);clear hK K;refine nA 83 ?_;refine oA 6 84 HT_ (fun K hK=>?_);refine Kd.Yp iA (w0:=w) w.heap.size (by rfl) (.tmp 79) (.tmp 83) 43 95 (.agg #[(.int .i64 0),(.string ⟨#[]⟩),(.int .i64 0),(.int .i64 0),(.string ⟨#[]⟩)]) 56 rfl Tryz.underlying43 aat rfl (by decide) (by omega) I9 Ee (⟨WN,WO,WP,WQ,WR⟩:aZ) [.int .i64 WN,.string WO,.int .i64 WP,.int .i64 WQ,.string WR] (fun _=>True) (fun _=>False) rfl rfl ?aP (fun _ hk=>hk.elim) ?aF ?aO ?aB ?aS ?aL ?_
        (case aP=>exact Lp _ _ _ (⟨WN,WO,WP,WQ,WR⟩:aZ))
        (case aB=>exact (bs HB))
        (case aF=>exact (fun _ _=>trivial))
        (case aO=>exact (rs mh))
        (case aS=>exact (bJ (bs HB)))
        (case aL=>have:=arA.o;omega)
        intro aMK w62 ho hb hg hat
        rw [← asq.o] at ho
        replace mg:=am (Kd.GM (rs mg) (Kd.J9 (rs mh)) (by decide) hg);replace iE:=am (fV (ks iE) hg (Kd.ko mh.o iE.o (by decide)));replace dV:=am (fV (ks dV) hg (Kd.ko mh.o dV.o (by decide)));replace j6:=am (fV (ks j6) hg (Kd.ko mh.o j6.o (by decide)));replace kT:=am (fV (ks kT) hg (Kd.ko mh.o kT.o (by decide)));replace HB:=am (hb);have ah7:=am (ho);clear mh;clear ho hb hg hat;obtain ⟨apm,aux,akd⟩:=Kd.gW ah7.o
        (first|subst akd|(injection akd with fO jy fP;have jA:=fO.symm;have jB:=fP.symm;clear fO jy fP;subst jA;subst jB))
        refine hK.out _ _ (qJ dV (hb2 kT)).o (fun hHeld=>?_);clear hK K;refine nA 84 ?_;refine bQ 7 ?_;refine IB (i:=8) (N:=none) #[true,true,true,true,true,true,true,true,true] rfl rfl (xH HT_.o (by kernel_rfl)) (by decide) (fun K hK=>?_);have aLu:w62.cell? ⟨iM,5,none⟩=some (I9):=(aA dV.o 5).trans rfl;have aG4:=bu dV.o 5;have aKV:=ND.o;have aKW:=RF.o;have aKX:=RD.o;have aIJ:=NC.o;have aIK:=RB.o;have aIL:=RA.o;refine xJ (w1:=?_) (by rfl) rfl ?_ ?_
        rotate_left
        ·go_simp
         rfl
        refine hK.out _ _ ?_;clear hK K;refine ek (fo HT_.o (by kernel_rfl)) ?_
        try go_wp2
        go_roundg k2
        case measure=>have:=Ew.o;have:=dD.o;omega
        case rel=>exact ⟨(wrap64 (iq+1)),(Ed),(ahd),(I8),(.slice apm ahd.length aux),fg,H',⟨by have:=Ew.o;have:=dD.o;omega⟩,⟨Kd.dE (rf (Kd.mi mg.o dV.o (by decide))) (fun _ hk=>trivial)⟩,⟨Kd.dE (rf (Kd.mi ah7.o dV.o (by decide))) (fun _ hk=>trivial)⟩,⟨ks iE⟩,⟨kp dV⟩,⟨ks j6⟩,⟨bs HB⟩⟩
      ·intro Zd H;replace H:=PR H;obtain ⟨rfl,rfl,rfl,rfl,rfl,rfl⟩:=H;have aJl:=NC.o;have aJ5:=ND.o;have aJm:=RB.o;have aJ6:=RF.o;have aGe:=dO dV;have awZ:=acT.o;have axl:=acV.o;have av6:=dO iE;obtain ⟨apn,auy,avm⟩:=Kd.gW mg.o;subst avm;obtain ⟨apo,auz,avn⟩:=Kd.gW mh.o;subst avn
       go_wp2
       refine bodyPost_ret (results_cell_row rfl _ _ ZH 45 #[.int .i64 a0,.string (bA ByteArray.empty ((aK ((av l1 0).f1) 0).f0) 0),.string AV,.int .i64 F6,.slice apn Ed.length auy,.slice apo Ee.length auz] (0,0) _ rfl (kp iE) Tryz.underlying45 rfl (by kernel_rfl)) rfl ?_
       exact ⟨_,_,by first|rfl|(simp [qF,qG] <;> rfl)|(simp only [← ZR];first|rfl|(simp [qF,qG] <;> rfl))|(simp [*,qF,qG] <;> rfl),Kd.dE (rf (Kd.mi mg.o iE.o (by decide))) (fun _ hk=>trivial),Kd.dE (rf (Kd.mi mh.o iE.o (by decide))) (fun _ hk=>trivial),bs HB⟩
 ·rw [if_neg c3] at H
  exact absurd H (by simp)
end Go.Proofs.YtapilmimgiaglaaGreatDoor.QX
namespace Go.Proofs.YtapilmimgiaglaaGreatDoor.QX
open Go.RowKit Go.Proofs.bB.eH Go.Proofs.bB.PrintLast Go.Proofs.bB.PrintMore
attribute [local go_sem] oU o5 oZ o8 oW o7 oV o6
attribute [local go_sem high] ake
theorem wU.calls (k:Nat)(A0:Option Addr)(c0:Nat)(l0:List ByteArray)(A1:Option Addr)(c1:Nat)(l1:List ByteArray)(r:Bool)(w:World)(hr0:Kd.C Kd.string w A0 l0.length l0)(hc0:l0.length≤c0)(hr1:Kd.C Kd.string w A1 l1.length l1)(hc1:l1.length≤c1)(H:wU.f k l0 l1=some r) :
  Calls Tryz.prog 85 #[.slice A0 l0.length c0,.slice A1 l1.length c1] w fun e w'=>e=.returned (.bool r)∧aW w w':=by
 have bG:=am hr0;have jC:=am hc0;clear hr0 hc0;have HR1:=am hr1;have uY:=am hc1;clear hr1 hc1;unfold wU.f at H
 revert H;refine zz ?_ ?_
 ·intro c3 aY dS H
  have mP:(l0.length == l1.length)=true:=by first|simpa using c3|(simp at c3 ⊢;omega)
  clear c3;have H':=am H;clear H
  go_in
  go_wp2
  repeat (go_quiet (fail);try go_wp2)
  go_loopg [13] k (fun kq v13 w'=>∃ (jR:Int),v13=.int .i64 jR∧af (wU.l0 kq l0 l1 (l0.length:Int) jR=some r)∧af (kq≤k)∧aW w w')
  case atStart=>exact ⟨(0),fg,H',⟨Nat.le_refl _⟩,by repeat (first|exact aW.refl _|apply aW.step)⟩
  case round =>
   clear H'
   try clear c1
   try clear c3
   try clear aY
   try clear dS
   try clear mP
   obtain ⟨jR,rfl,HA,aQ,⟨m1,rfl⟩⟩:=hrel
   cases gk with
   | zero=>exact absurd HA.o (by simp [wU.l0])
   | succ k1 =>
    have H:=HA.o;clear HA;simp only [wU.l0] at H
    revert H;refine bK ?_ ?_
    ·intro dF H
     revert H;refine bv ?_
     intro ja H
     revert H;refine bv ?_
     intro gu H
     revert H;refine bv ?_
     intro kH H
     revert H;refine bH ?_ ?_
     ·intro kr wo H;have H':=am H;clear H;obtain ⟨p9,q9,xe,e9,l8⟩:=wi (Kd.jw bG.o jR)
      cases e9
      obtain ⟨jT,jP,Bz,e10,ww⟩:=wi (Kd.jw HR1.o jR)
      cases e10
      go_wp2
      repeat (go_quiet (fail);try go_wp2)
      go_roundg k1
      case measure=>have:=aQ.o;omega
      case rel=>exact ⟨(wrap64 (jR+1)),fg,H',⟨by have:=aQ.o;omega⟩,by repeat (first|exact aW.refl _|apply aW.step)⟩
     ·intro c8 kr wo H;obtain rfl:=si H;obtain ⟨p9,q9,xe,e9,l8⟩:=wi (Kd.jw bG.o jR)
      cases e9
      obtain ⟨jT,jP,Bz,e10,ww⟩:=wi (Kd.jw HR1.o jR)
      cases e10
      go_wp2
      repeat (go_quiet (fail);try go_wp2)
      go_ret
      exact ⟨fg,dr⟩
    ·intro dF H;obtain rfl:=si H
     go_wp2
     repeat (go_quiet (fail);try go_wp2)
     go_ret
     exact ⟨fg,dr⟩
 ·intro c3 aY dS H
  have mP:(l0.length == l1.length)=false:=by first|simpa using c3|(simp at c3 ⊢;omega)
  obtain rfl:=si H
  go_in
  go_wp2
  repeat (go_quiet (fail);try go_wp2)
  go_ret
  exact ⟨fg,dr⟩
theorem wy.calls (k:Nat)(A0:Option Addr)(c0:Nat)(l0:List aZ)(A1:Option Addr)(c1:Nat)(l1:List aZ)(r:Bool)(w:World)(hr0:Kd.C iA w A0 l0.length l0)(hc0:l0.length≤c0)(hr1:Kd.C iA w A1 l1.length l1)(hc1:l1.length≤c1)(H:wy.f k l0 l1=some r) :
  Calls Tryz.prog 86 #[.slice A0 l0.length c0,.slice A1 l1.length c1] w fun e w'=>e=.returned (.bool r)∧aW w w':=by
 have Dx:=Tryz.underlying95;have bG:=am hr0;have jC:=am hc0;clear hr0 hc0;have HR1:=am hr1;have uY:=am hc1;clear hr1 hc1;unfold wy.f at H
 revert H;refine zz ?_ ?_
 ·intro c3 aY dS H
  have mP:(l0.length == l1.length)=true:=by first|simpa using c3|(simp at c3 ⊢;omega)
  clear c3;have H':=am H;clear H
  go_in
  go_wp2
  repeat (go_quiet (fail);try go_wp2)
  go_loopg [13] k (fun kq v13 w'=>∃ (jR:Int),v13=.int .i64 jR∧af (wy.l0 kq l0 l1 (l0.length:Int) jR=some r)∧af (kq≤k)∧aW w w')
  case atStart=>exact ⟨(0),fg,H',⟨Nat.le_refl _⟩,by repeat (first|exact aW.refl _|apply aW.step)⟩
  case round =>
   clear H'
   try clear c1
   try clear c3
   try clear aY
   try clear dS
   try clear mP
   obtain ⟨jR,rfl,HA,aQ,⟨m1,rfl⟩⟩:=hrel
   cases gk with
   | zero=>exact absurd HA.o (by simp [wy.l0])
   | succ k1 =>
    have H:=HA.o;clear HA;simp only [wy.l0] at H
    revert H;refine bK ?_ ?_
    ·intro dF H
     revert H;refine bv ?_
     intro ja H
     revert H;refine bv ?_
     intro gu H
     revert H;refine bv ?_
     intro kH H
     revert H;refine gT ?_ ?_
     ·intro c8 H;have kr:(!(((ai l0 jR).f0) == ((ai l1 jR).f0)) || (!((((ai l0 jR).f1).toList) == (((ai l1 jR).f1).toList)) || (!(((ai l0 jR).f2) == ((ai l1 jR).f2)) || (!(((ai l0 jR).f3) == ((ai l1 jR).f3)) || (!((((ai l0 jR).f4).toList) == (((ai l1 jR).f4).toList)))))))=true:=c8;clear c8;obtain rfl:=si H;obtain ⟨p9,q9,xe,e9,l8,nP,yB,Cr,Cs⟩:=wi (uA bG.o jR)
      cases e9
      obtain ⟨jT,jP,Bz,e10,ww,xu,yu,amu,amv⟩:=wi (uA HR1.o jR)
      cases e10
      go_wp2
      repeat (go_quiet (fail);try go_wp2)
      go_ret
      exact ⟨fg,dr⟩
     ·intro c8 H
      have kr:(!(((ai l0 jR).f0) == ((ai l1 jR).f0)) || (!((((ai l0 jR).f1).toList) == (((ai l1 jR).f1).toList)) || (!(((ai l0 jR).f2) == ((ai l1 jR).f2)) || (!(((ai l0 jR).f3) == ((ai l1 jR).f3)) || (!((((ai l0 jR).f4).toList) == (((ai l1 jR).f4).toList)))))))=false:=by simpa using c8
      clear c8;have H':=am H;clear H;obtain ⟨p9,q9,xe,e9,l8,nP,yB,Cr,Cs⟩:=wi (uA bG.o jR)
      cases e9
      obtain ⟨jT,jP,Bz,e10,ww,xu,yu,amu,amv⟩:=wi (uA HR1.o jR)
      cases e10
      go_wp2
      repeat (go_quiet (fail);try go_wp2)
      go_roundg k1
      case measure=>have:=aQ.o;omega
      case rel=>exact ⟨(wrap64 (jR+1)),fg,H',⟨by have:=aQ.o;omega⟩,by repeat (first|exact aW.refl _|apply aW.step)⟩
    ·intro dF H;obtain rfl:=si H
     go_wp2
     repeat (go_quiet (fail);try go_wp2)
     go_ret
     exact ⟨fg,dr⟩
 ·intro c3 aY dS H
  have mP:(l0.length == l1.length)=false:=by first|simpa using c3|(simp at c3 ⊢;omega)
  obtain rfl:=si H
  go_in
  go_wp2
  repeat (go_quiet (fail);try go_wp2)
  go_ret
  exact ⟨fg,dr⟩
end Go.Proofs.YtapilmimgiaglaaGreatDoor.QX
namespace Go.Proofs.YtapilmimgiaglaaGreatDoor.QX
open Go.RowKit Go.Proofs.bB.eH Go.Proofs.bB.PrintLast Go.Proofs.bB.PrintMore
attribute [local go_sem] oU o5 oZ o8 oW o7 oV o6
theorem Iy.calls (k:Nat)(ag:Int)(aj ak:ByteArray)(aM:Int)(dB:Option Addr)(dx:Nat)(az:List ByteArray)(dJ:Option Addr)(df:Nat)(ah:List aZ)(aI:Int)(bX dA:ByteArray)(eU:Int)(pJ:Option Addr)(pU:Nat)(iT:List ByteArray)(pK:Option Addr)(pV:Nat)(gV:List aZ)(r:Bool)(w:World)(lm:Kd.C Kd.string w dB az.length az)(kY:az.length≤dx)(lq:Kd.C iA w dJ ah.length ah)(kZ:ah.length≤df)(Ie:Kd.C Kd.string w pJ iT.length iT)(Ht:iT.length≤pU)(Ig:Kd.C iA w pK gV.length gV)(Hu:gV.length≤pV)(H:Iy.f k ag aj ak aM az ah aI bX dA eU iT gV=some r) :
  Calls Tryz.prog 44 #[.agg #[.int .i64 ag,.string aj,.string ak,.int .i64 aM,.slice dB az.length dx,.slice dJ ah.length df],.agg #[.int .i64 aI,.string bX,.string dA,.int .i64 eU,.slice pJ iT.length pU,.slice pK gV.length pV]] w fun e w'=>e=.returned (.bool r)∧Below w.heap.size w w':=by
 have xq:=Tryz.underlying45;have oI:=am lm;have rR:=am kY;clear lm kY;have ni:=am lq;have qW:=am kZ;clear lq kZ;have Nu:=am Ie;have XU:=am Ht;clear Ie Ht;have Nv:=am Ig;have XV:=am Hu;clear Ig Hu;have HB:=am (Below.refl w.heap.size w);unfold Iy.f at H
 revert H;refine bH ?_ ?_
 ·intro aY dS H
  revert H;refine bH ?_ ?_
  ·intro dF kV H
   revert H;refine bH ?_ ?_
   ·intro ja sJ H
    revert H;refine bH ?_ ?_
    ·intro gu nM H;replace H:=bo H;obtain ⟨t39,A7,H⟩:=H
     go_in
     try go_wp2_with (first|((with_reducible refine aJ (N:=2) rfl ?_);refine bz 2 (cs:=#[.int .i64 ag,.string aj,.string ak,.int .i64 aM,.slice dB az.length dx,.slice dJ ah.length df]) (t:=45) HB ?_;clear HB;intro uC hg w8 bO uq hb HB;clear hb hg)|((with_reducible refine aJ (N:=3) rfl ?_);refine bz 3 (cs:=#[.int .i64 aI,.string bX,.string dA,.int .i64 eU,.slice pJ iT.length pU,.slice pK gV.length pV]) (t:=45) HB ?_;clear HB;intro dI hg w9 CX Q5 hb HB;have Da:=na hg bO;have De:=nc hg bO;replace bO:=bb bO hb;clear hb hg;have OE:=Da.o;have OG:=De.o;have zq:=dO bO;have Fe:=dO CX))
     go_at_call 85;refine (wU.calls k _ _ az _ _ iT t39 _ (Kd.bi oI.o (bs HB)) rR.o (Kd.bi Nu.o (bs HB)) XU.o A7.o).mono ?_;rintro e w' ⟨rfl,⟨nd,rfl⟩⟩
     obtain rfl|rfl:=bt t39
     ·replace H:=dm H;replace H:=bo H;obtain ⟨t40,Be,H⟩:=H;obtain rfl:=si H;have UE:=Da.o;have UI:=De.o;have zt:=dO bO;have KP:=dO CX
      go_wp2_with (first|(go_at_call 86;refine (wy.calls k _ _ ah _ _ gV t40 _ ?aR qW.o ?jI XV.o Be.o).mono ?_;(case aR=>repeat (first|exact (Kd.bi ni.o (bs HB))|(with_reducible refine Kd.rO ?_ _)|(with_reducible refine Kd.rQ ?_ _)|(with_reducible refine Kd.rP ?_)));(case jI=>repeat (first|exact (Kd.bi Nv.o (bs HB))|(with_reducible refine Kd.rO ?_ _)|(with_reducible refine Kd.rQ ?_ _)|(with_reducible refine Kd.rP ?_)));rintro e w' ⟨rfl,⟨nd,rfl⟩⟩))
      go_ret
      exact ⟨ff,bs HB⟩
     ·replace H:=di H;obtain rfl:=si H
      go_wp2
      go_ret
      exact ⟨ff,bs HB⟩
    ·intro c6 gu nM H;obtain rfl:=si H
     go_in
     go_wp2_with (first|((with_reducible refine aJ (N:=2) rfl ?_);refine bz 2 (cs:=#[.int .i64 ag,.string aj,.string ak,.int .i64 aM,.slice dB az.length dx,.slice dJ ah.length df]) (t:=45) HB ?_;clear HB;intro uC hg xR bO uq hb HB;clear hb hg)|((with_reducible refine aJ (N:=3) rfl ?_);refine bz 3 (cs:=#[.int .i64 aI,.string bX,.string dA,.int .i64 eU,.slice pJ iT.length pU,.slice pK gV.length pV]) (t:=45) HB ?_;clear HB;intro dI hg pz CX Q5 hb HB;have Da:=na hg bO;have De:=nc hg bO;replace bO:=bb bO hb;clear hb hg;have al3:=Da.o;have ame:=De.o;have ad4:=dO bO;have Tx:=dO CX))
     go_ret
     exact ⟨ff,bs HB⟩
   ·intro c5 ja sJ H;obtain rfl:=si H
    go_in
    go_wp2_with (first|((with_reducible refine aJ (N:=2) rfl ?_);refine bz 2 (cs:=#[.int .i64 ag,.string aj,.string ak,.int .i64 aM,.slice dB az.length dx,.slice dJ ah.length df]) (t:=45) HB ?_;clear HB;intro uC hg tH bO uq hb HB;clear hb hg)|((with_reducible refine aJ (N:=3) rfl ?_);refine bz 3 (cs:=#[.int .i64 aI,.string bX,.string dA,.int .i64 eU,.slice pJ iT.length pU,.slice pK gV.length pV]) (t:=45) HB ?_;clear HB;intro dI hg CL CX Q5 hb HB;have Da:=na hg bO;have De:=nc hg bO;replace bO:=bb bO hb;clear hb hg;have al4:=Da.o;have amf:=De.o;have akA:=dO bO;have Ot:=dO CX))
    go_ret
    exact ⟨ff,bs HB⟩
  ·intro c4 dF kV H;obtain rfl:=si H
   go_in
   go_wp2_with (first|((with_reducible refine aJ (N:=2) rfl ?_);refine bz 2 (cs:=#[.int .i64 ag,.string aj,.string ak,.int .i64 aM,.slice dB az.length dx,.slice dJ ah.length df]) (t:=45) HB ?_;clear HB;intro uC hg MO bO uq hb HB;clear hb hg)|((with_reducible refine aJ (N:=3) rfl ?_);refine bz 3 (cs:=#[.int .i64 aI,.string bX,.string dA,.int .i64 eU,.slice pJ iT.length pU,.slice pK gV.length pV]) (t:=45) HB ?_;clear HB;intro dI hg w29 CX Q5 hb HB;have Da:=na hg bO;have De:=nc hg bO;replace bO:=bb bO hb;clear hb hg;have aI7:=Da.o;have aJR:=De.o;have aFZ:=dO bO;have Tz:=dO CX))
   go_ret
   exact ⟨ff,bs HB⟩
 ·intro c3 aY dS H;obtain rfl:=si H
  go_in
  go_wp2_with (first|((with_reducible refine aJ (N:=2) rfl ?_);refine bz 2 (cs:=#[.int .i64 ag,.string aj,.string ak,.int .i64 aM,.slice dB az.length dx,.slice dJ ah.length df]) (t:=45) HB ?_;clear HB;intro uC hg Jf bO uq hb HB;clear hb hg)|((with_reducible refine aJ (N:=3) rfl ?_);refine bz 3 (cs:=#[.int .i64 aI,.string bX,.string dA,.int .i64 eU,.slice pJ iT.length pU,.slice pK gV.length pV]) (t:=45) HB ?_;clear HB;intro dI hg CO CX Q5 hb HB;have Da:=na hg bO;have De:=nc hg bO;replace bO:=bb bO hb;clear hb hg;have al7:=Da.o;have ami:=De.o;have Ou:=dO bO;have aec:=dO CX))
  go_ret
  exact ⟨ff,bs HB⟩
theorem DK.calls (a0:Int)(r:Bool)(w:World)(H:DK.f a0=some r) :
  Calls Tryz.prog 89 #[.int .i64 a0] w fun e w'=>e=.returned (.bool r)∧aW w w':=by
 unfold DK.f at H;replace H:=bo H;obtain ⟨t3,A2,H⟩:=H;obtain rfl:=si H
 go_in
 go_wp2_with (first|((go_at_call 41;refine (l9.calls a0 1 4 t3 _ A2.o).mono ?_;rintro e w' ⟨rfl,⟨nd,rfl⟩⟩)))
 go_ret
 exact ⟨fg,dr⟩
theorem Ll.calls (a0:Int)(r:Bool)(w:World)(H:Ll.f a0=some r) :
  Calls Tryz.prog 90 #[.int .i64 a0] w fun e w'=>e=.returned (.bool r)∧aW w w':=by
 unfold Ll.f at H
 revert H;refine bH ?_ ?_
 ·intro gQ jE H;obtain rfl:=si H
  go_in
  go_wp2
  go_ret
  exact ⟨fg,dr⟩
 ·intro c2 gQ jE H
  revert H;refine bH ?_ ?_
  ·intro aY dS H;obtain rfl:=si H
   go_in
   go_wp2
   go_ret
   exact ⟨fg,dr⟩
  ·intro c3 aY dS H;obtain rfl:=si H
   go_in
   go_wp2
   go_ret
   exact ⟨fg,dr⟩
end Go.Proofs.YtapilmimgiaglaaGreatDoor.QX
