-- Merged by a program of this session (wip/tool/pack.py) out of its own texts for this claim.
import Derived.Test.YtapilmimgiaglaaGreatDoorKFnExactParcelRight12
set_option maxHeartbeats 8000000
set_option maxRecDepth 100000
set_option linter.unusedSimpArgs false
set_option linter.unusedVariables false
namespace Go.Proofs.YtapilmimgiaglaaGreatDoor.QA
open Go.RowKit Go.Proofs.bB.fA Go.Proofs.bB.PrintLast Go.Proofs.bB.PrintMore
attribute [local go_sem] o6 pg o9 pE o8 pz o7 pq   -- for this text's walks alone
def bK.T4:Bool × List (List Nat × List Nat):=(true,[([],[]),([],[]),([1],[1]),([2],[2]),([3],[3]),([],[]),([5],[5]),([6],[6]),([7,4],[7]),([0,4,8],[0,4,8]),([],[]),([10,9,8,0,1,2,3,4,5,6,7,8,9,10],[9,10])])
def bK.B4:List Nat:=[0,0,2,6,14,0,32,96,254,511,0,2047]
theorem bK.yV:fJ .any (opsOf Tryz.f34 4)=bK.T4:=by kernel_rfl
theorem bK.ym:iY bK.T4.2 bK.B4=true:=by kernel_rfl
def bK.sK:Bool × List (List Nat × List Nat):=(true,[([],[]),([0],[0]),([],[]),([],[]),([2,3],[2,3]),([4],[4]),([5],[5]),([6],[6]),([1,7,6],[1,7]),([0,1,2,3,4,5,6,7,8],[]),([9,8,8,0,1,2,3,4,5,6,7,8],[8,9])])
def bK.zh:List Nat:=[0,1,0,0,12,28,60,124,255,511,1023]
theorem bK.wP:fJ .any (opsOf Tryz.f34 12)=bK.sK:=by kernel_rfl
theorem bK.vY:iY bK.sK.2 bK.zh=true:=by kernel_rfl
def bK.T22:Bool × List (List Nat × List Nat):=(true,[([],[]),([0],[0]),([],[]),([1,2],[1,2]),([3],[3]),([4],[4]),([],[]),([6],[6]),([5,7],[5,7])])
def bK.B22:List Nat:=[0,1,0,7,15,31,0,64,255]
theorem bK.alk:fJ .any (opsOf Tryz.f34 22)=bK.T22:=by kernel_rfl
theorem bK.agu:iY bK.T22.2 bK.B22=true:=by kernel_rfl
def bK.T24:Bool × List (List Nat × List Nat):=(true,[([],[]),([],[]),([0,1],[0,1]),([],[]),([],[]),([3,4],[3,4]),([5],[5]),([2,6,2],[2,6]),([7],[7])])
def bK.B24:List Nat:=[0,0,3,0,0,24,56,127,255]
theorem bK.alm:fJ .any (opsOf Tryz.f34 24)=bK.T24:=by kernel_rfl
theorem bK.agv:iY bK.T24.2 bK.B24=true:=by kernel_rfl
theorem bK.calls (k:Nat) (a0:Int) (A1:Option Addr) (c1:Nat) (l1:List (bA)) (r1:Int) (r2:ByteArray) (r3:ByteArray) (r4:Int) (r5:List ByteArray) (r6:List (aY)) (r7:Int) (r8:Int) (w:World) (hr1:Kd.C kS w A1 l1.length l1) (hc1:l1.length≤c1) (H:bK.f k a0 l1=some (r1,r2,r3,r4,r5,r6,r7,r8)) :
  Calls Tryz.prog 34 #[.int .i64 a0,.slice A1 l1.length c1] w fun e w'=>∃ F4 F6:Value,e=.returned (.agg #[.int .i64 r1,.string r2,.string r3,.int .i64 r4,F4,F6,.int .i64 r7,.int .i64 r8])∧Kd.R Kd.string 9 w' w.heap.size (fun _=>True) F4 r5∧Kd.R iR 95 w' w.heap.size (fun _=>True) F6 r6∧Below w.heap.size w w':=by
 have hu64:=Tryz.underlying64;have ajE:=Tryz.underlying78;have qR:=Tryz.underlying62;have uX:=Tryz.underlying45;have Bh:=Tryz.underlying95;have HR1:=am hr1;have xc:=am hc1;clear hr1 hc1;have HB:=am (Below.refl w.heap.size w);unfold bK.f at H;replace H:=bo H;obtain ⟨⟨vK,wO,vL⟩,A3,H⟩:=H;(try dsimp only at H)
 go_in
 try go_wp2_with (first|((with_reducible refine aN (N:=4) rfl ?_);refine bz 4 (cs:=#[.int .i64 0,.string (⟨#[]⟩:ByteArray),.string (⟨#[]⟩:ByteArray),.int .i64 0,.slice none 0 0,.slice none 0 0,.int .i64 0,.int .i64 0]) (t:=64) HB ?_;clear HB;intro sV hg w4 bE aAc hb HB;clear hb hg))
 go_at_call 68;(with_reducible refine (dP.calls k a0 _ _ l1 vK wO vL _ (Kd.bJ HR1.out (bs HB)) xc.out A3.out).mono ?_);rintro e w5 ⟨rfl,hb⟩;replace bE:=bb bE hb;replace HB:=bq HB hb;(try clear hb)
 revert H;refine bL ?_ ?_
 ·intro gQ pW H
  revert H;refine qx ?_
  intro c7 kJ H;have yn:decide (0<l1.length)=true:=decide_eq_true (by omega);clear c7;replace H:=bo H;obtain ⟨mG,A8,H⟩:=H;replace H:=bo H;obtain ⟨yU,A9,H⟩:=H;replace H:=bo H;obtain ⟨XP,qb,H⟩:=H
  try go_wp2_with (first|((with_reducible refine aN (N:=5) rfl ?_);refine bz 5 (cs:=#[.int .i64 0,.int .i64 0,.int .i64 0]) (t:=78) HB ?_;clear HB;intro mO hg kU bZ amT hb HB;have GG:=na hg bE;have GI:=nc hg bE;replace bE:=bb bE hb;clear hb hg;have aFr:=GI.out;have aGc:=GG.out;have Be:=l6 bZ))
  have bP:=kz (((kU.setCell ⟨mO,0,none⟩ (.int .i64 vK)).setCell ⟨mO,1,none⟩ (.int .i64 wO)).setCell ⟨mO,2,none⟩ (.int .i64 vL)) bE;have bQ:af ((((kU.setCell ⟨mO,0,none⟩ (.int .i64 vK)).setCell ⟨mO,1,none⟩ (.int .i64 wO)).setCell ⟨mO,2,none⟩ (.int .i64 vL)).heap[mO]? = some (.cells #[.int .i64 vK,.int .i64 wO,.int .i64 vL] 78 (0,0))):=⟨kp bZ⟩;have bU:af (Below w.heap.size w (((kU.setCell ⟨mO,0,none⟩ (.int .i64 vK)).setCell ⟨mO,1,none⟩ (.int .i64 wO)).setCell ⟨mO,2,none⟩ (.int .i64 vL))):=⟨bs HB⟩;(try clear bE);(try clear bZ);(try clear HB)
  generalize (((kU.setCell ⟨mO,0,none⟩ (.int .i64 vK)).setCell ⟨mO,1,none⟩ (.int .i64 wO)).setCell ⟨mO,2,none⟩ (.int .i64 vL))=vP at bP bQ bU ⊢
  have bE:=bP;have bZ:=bQ;have HB:=bU;clear bP bQ bU;replace bE:=am (bg bE.out);replace bZ:=am (bg bZ.out);replace HB:=am (cO HB.out);have Dt:0≤(0:Int):=(by omega);have Dv:0<(l1.length:Int):=oa;obtain ⟨lY,BX,CB,arE,xL,wD,aiB,ah9⟩:=lv HR1.out 0 Dt Dv;have mU:=wD
  (try rw [show ((0:Int)).toNat=0 from rfl] at mU)
  (try rw [show 0 * 2=0 from rfl] at mU)
  (try rw [Addr.add_zero'] at mU)
  have rQ:=xL
  (try rw [show ((0:Int)).toNat=0 from rfl] at rQ)
  (try rw [show 0 * 2=0 from rfl] at rQ)
  (try rw [Addr.add_zero'] at rQ)
  cases arE
  have aIj:(0<l1.length)=True:=eq_true (by omega)
  (try rw [show ((0:Int)).toNat=0 from rfl] at xL)
  (try rw [show 0 * 2=0 from rfl] at xL)
  (try rw [Addr.add_zero'] at xL)
  (try rw [show ((0:Int)).toNat=0 from rfl] at wD)
  (try rw [show 0 * 2=0 from rfl] at wD)
  (try rw [Addr.add_zero'] at wD)
  replace xL:=cb HB xL;replace wD:=cb HB wD;have ZL:=am ah9;have aeU:=am aiB;clear ah9 aiB;replace Dt:=eq_true Dt;replace Dv:=eq_true Dv;have Du:0≤(0:Int):=(by omega);have Dw:0<(l1.length:Int):=oa;obtain ⟨apL,azB,aA3,arF,xM,wE,aiC,aia⟩:=lv HR1.out 0 Du Dw;have rT:=wE
  (try rw [show ((0:Int)).toNat=0 from rfl] at rT)
  (try rw [show 0 * 2=0 from rfl] at rT)
  (try rw [Addr.add_zero'] at rT)
  have rR:=xM
  (try rw [show ((0:Int)).toNat=0 from rfl] at rR)
  (try rw [show 0 * 2=0 from rfl] at rR)
  (try rw [Addr.add_zero'] at rR)
  obtain rfl:lY=apL:=(by injection arF);have aIk:(0<l1.length)=True:=eq_true (by omega)
  (try rw [show ((0:Int)).toNat=0 from rfl] at xM)
  (try rw [show 0 * 2=0 from rfl] at xM)
  (try rw [Addr.add_zero'] at xM)
  (try rw [show ((0:Int)).toNat=0 from rfl] at wE)
  (try rw [show 0 * 2=0 from rfl] at wE)
  (try rw [Addr.add_zero'] at wE)
  replace xM:=cb HB xM;replace wE:=cb HB wE;have UM:=am aia;have Zf:=am aiC;clear aia aiC;replace Du:=eq_true Du;replace Dw:=eq_true Dw;(try (have ea_:=Option.some.inj (wD.symm.trans wE);injection ea_ with ea_ en_ ec_;subst ea_;subst ec_;clear en_));refine il 12 (aJ (cb HB rQ) (aJ (cb HB mU) (aJ (cb HB rR) (hc (cb HB rT))))) (fun hHeld=>?_);refine gq bK.yV bK.ym (fun HT_ HW_=>?_)
  generalize vP.drew=DJ at bE bZ HB ZL UM xL wD xM wE hHeld ⊢
  refine kZ 0 ?_;refine jm 5 ?_;refine ta 3 ?_;refine ta 7 ?_;refine auX (σ:=Nat) 1 #[true,true,true,true,true,true,true,true,true,true,true,false] (fun s_=>[(26,.string mG),(30,.int .i64 yU),(6,.pointer (some ⟨s_,0,none⟩)),(31,.agg #[.int .i64 a0,.string mG,.string (⟨#[]⟩:ByteArray),.int .i64 yU,.slice none 0 0,.slice none 0 0])]) (fun s_ w'=>(w'.cell? lY=some (.string ((av l1 0).f0))∧w'.cell? ⟨lY.block,lY.off+1,none⟩=some (.slice BX ((av l1 0).f1).length CB)∧w'.cell? lY=some (.string ((av l1 0).f0))∧w'.cell? ⟨lY.block,lY.off+1,none⟩=some (.slice BX ((av l1 0).f1).length CB))∧(w'.heap[sV]? = some (.cells #[.int .i64 0,.string (⟨#[]⟩:ByteArray),.string (⟨#[]⟩:ByteArray),.int .i64 0,.slice none 0 0,.slice none 0 0,.int .i64 0,.int .i64 0] 64 (0,0)))∧(w'.heap[mO]? = some (.cells #[.int .i64 vK,.int .i64 wO,.int .i64 vL] 78 (0,0)))∧(w'.heap[s_]? = some (.cells #[.int .i64 0,.string (⟨#[]⟩:ByteArray),.string (⟨#[]⟩:ByteArray),.int .i64 0,.slice none 0 0,.slice none 0 0] 45 (0,0)))∧(w.heap.size≤s_)∧(w.heap.size≤s_)∧(sV≠s_)∧(s_≠sV)∧(mO≠s_)∧(s_≠mO)∧(Below w.heap.size w w')) ?_ ?_
  rotate_left
  ·intro hCont;refine alr (i:=4) (j:=10) (Ni:=some 26) (Nj:=some 6) #[true,true,true,true,true,true,true,true,false,false,false,false] #[true,true,true,true,false,true,true,true,false,false,true,false] rfl rfl rfl rfl (als HT_.out (by kernel_rfl)) (by decide) (by decide) (fun K hK=>?_) (fun K hK=>?_)
   ·skip
    refine gA Tryz.func69 #[.agg #[.string ((av l1 0).f0),.slice BX ((av l1 0).f1).length CB],.int .i64 0,.int .i64 0] ?_;(with_reducible refine (nV.calls ((av l1 0).f0) _ _ ((av l1 0).f1) 0 0 mG _ ?aI ?aW A8.out).mono ?_)
    (case aI=>exact sd (Kd.bJ ZL.out HB.out))
    (case aW=>exact aeU.out)
    rintro e w16 ⟨rfl,hb⟩;refine ⟨_,rfl,?_⟩;replace bE:=bb bE hb;replace bZ:=bb bZ hb;replace HB:=bq HB hb;(try clear hb);refine hK.out _ _ (aJ (cb HB rQ) (aJ (cb HB mU) (aJ (cb HB rR) (hc (cb HB rT))))).out (fun hHeld=>?_);clear hK K;refine nA 26 ?_;refine alr (i:=8) (j:=10) (Ni:=some 30) (Nj:=some 6) #[true,true,true,true,true,true,true,true,true,false,false,false] #[true,true,true,true,true,true,true,true,false,false,true,false] rfl rfl rfl rfl (als HT_.out (by kernel_rfl)) (by decide) (by decide) (fun K hK=>?_) (fun K hK=>?_)
    ·skip
     refine gA Tryz.func70 #[.agg #[.string ((av l1 0).f0),.slice BX ((av l1 0).f1).length CB],.int .i64 1] ?_;(with_reducible refine (jT.calls k ((av l1 0).f0) _ _ ((av l1 0).f1) 1 yU _ ?aI ?aW A9.out).mono ?_)
     (case aI=>exact sd (Kd.bJ UM.out HB.out))
     (case aW=>exact Zf.out)
     rintro e JN ⟨rfl,hb⟩;refine ⟨_,rfl,?_⟩;replace bE:=bb bE hb;replace bZ:=bb bZ hb;replace HB:=bq HB hb;(try clear hb);refine hK.out _ _ (aJ (cb HB rQ) (aJ (cb HB mU) (aJ (cb HB rR) (hc (cb HB rT))))).out (fun hHeld=>?_);clear hK K;refine nA 30 ?_;refine bV 9 ?_;refine oA 10 6 HT_ (fun K hK=>?_);refine Vl ?hg (N:=6) ?hd (cs:=#[.int .i64 0,.string (⟨#[]⟩:ByteArray),.string (⟨#[]⟩:ByteArray),.int .i64 0,.slice none 0 0,.slice none 0 0]) (t:=45) ?hr ?_;(case hd=>rfl);(case hg=>rfl);(case hr=>first|(go_simp;done)|(go_simp;rfl));intro eB hg xY hbox hb;have bH:=am (hbox);have jw:=gw hg HB;have Kj:=jw;replace HB:=bq HB hb;have ol:=na hg bE;have om:=nc hg bE;replace bE:=bb bE hb;have qg:=na hg bZ;have qh:=nc hg bZ;replace bZ:=bb bZ hb;clear hb hbox hg;refine hK.out _ _ (aJ (cb HB rQ) (aJ (cb HB mU) (aJ (cb HB rR) (hc (cb HB rT))))).out (fun hHeld=>?_);clear hK K;refine nA 6 ?_
     exact SA (by simp only [I5,Act.put,List.setIfInBounds_toArray,List.set_cons_zero,List.set_cons_succ]) (hCont (eB) _ ⟨hHeld,(ks bE),(ks bZ),(ks bH),jw.out,Kj.out,ol.out,om.out,qg.out,qh.out,(bs HB)⟩)
    ·skip
     refine Vl ?hg (N:=6) ?hd (cs:=#[.int .i64 0,.string (⟨#[]⟩:ByteArray),.string (⟨#[]⟩:ByteArray),.int .i64 0,.slice none 0 0,.slice none 0 0]) (t:=45) ?hr ?_;(case hd=>rfl);(case hg=>rfl);(case hr=>first|(go_simp;done)|(go_simp;rfl));intro eB hg JN hbox hb;have bH:=am (hbox);have jw:=gw hg HB;have Kj:=jw;replace HB:=bq HB hb;have ol:=na hg bE;have om:=nc hg bE;replace bE:=bb bE hb;have qg:=na hg bZ;have qh:=nc hg bZ;replace bZ:=bb bZ hb;clear hb hbox hg;refine hK.out _ _ (aJ (cb HB rQ) (aJ (cb HB mU) (aJ (cb HB rR) (hc (cb HB rT))))).out (fun hHeld=>?_);clear hK K;refine nA 6 ?_;refine oA 8 30 HT_ (fun K hK=>?_);refine gA Tryz.func70 #[.agg #[.string ((av l1 0).f0),.slice BX ((av l1 0).f1).length CB],.int .i64 1] ?_;(with_reducible refine (jT.calls k ((av l1 0).f0) _ _ ((av l1 0).f1) 1 yU _ ?aI ?aW A9.out).mono ?_)
     (case aI=>exact sd (Kd.bJ UM.out HB.out))
     (case aW=>exact Zf.out)
     rintro e xY ⟨rfl,hb⟩;refine ⟨_,rfl,?_⟩;replace bE:=bb bE hb;replace bZ:=bb bZ hb;replace bH:=bb bH hb;replace HB:=bq HB hb;(try clear hb);refine hK.out _ _ (aJ (cb HB rQ) (aJ (cb HB mU) (aJ (cb HB rR) (hc (cb HB rT))))).out (fun hHeld=>?_);clear hK K;refine nA 30 ?_;refine bV 9 ?_
     exact SA (by simp only [I5,Act.put,List.setIfInBounds_toArray,List.set_cons_zero,List.set_cons_succ]) (hCont (eB) _ ⟨hHeld,(ks bE),(ks bZ),(ks bH),jw.out,Kj.out,ol.out,om.out,qg.out,qh.out,(bs HB)⟩)
   ·skip
    refine Vl ?hg (N:=6) ?hd (cs:=#[.int .i64 0,.string (⟨#[]⟩:ByteArray),.string (⟨#[]⟩:ByteArray),.int .i64 0,.slice none 0 0,.slice none 0 0]) (t:=45) ?hr ?_;(case hd=>rfl);(case hg=>rfl);(case hr=>first|(go_simp;done)|(go_simp;rfl));intro eB hg w16 hbox hb;have bH:=am (hbox);have jw:=gw hg HB;have Kj:=jw;replace HB:=bq HB hb;have ol:=na hg bE;have om:=nc hg bE;replace bE:=bb bE hb;have qg:=na hg bZ;have qh:=nc hg bZ;replace bZ:=bb bZ hb;clear hb hbox hg;refine hK.out _ _ (aJ (cb HB rQ) (aJ (cb HB mU) (aJ (cb HB rR) (hc (cb HB rT))))).out (fun hHeld=>?_);clear hK K;refine nA 6 ?_;refine oA 4 26 HT_ (fun K hK=>?_);refine gA Tryz.func69 #[.agg #[.string ((av l1 0).f0),.slice BX ((av l1 0).f1).length CB],.int .i64 0,.int .i64 0] ?_;(with_reducible refine (nV.calls ((av l1 0).f0) _ _ ((av l1 0).f1) 0 0 mG _ ?aI ?aW A8.out).mono ?_)
    (case aI=>exact sd (Kd.bJ ZL.out HB.out))
    (case aW=>exact aeU.out)
    rintro e JN ⟨rfl,hb⟩;refine ⟨_,rfl,?_⟩;replace bE:=bb bE hb;replace bZ:=bb bZ hb;replace bH:=bb bH hb;replace HB:=bq HB hb;(try clear hb);refine hK.out _ _ (aJ (cb HB rQ) (aJ (cb HB mU) (aJ (cb HB rR) (hc (cb HB rT))))).out (fun hHeld=>?_);clear hK K;refine nA 26 ?_;refine oA 8 30 HT_ (fun K hK=>?_);refine gA Tryz.func70 #[.agg #[.string ((av l1 0).f0),.slice BX ((av l1 0).f1).length CB],.int .i64 1] ?_;(with_reducible refine (jT.calls k ((av l1 0).f0) _ _ ((av l1 0).f1) 1 yU _ ?aI ?aW A9.out).mono ?_)
    (case aI=>exact sd (Kd.bJ UM.out HB.out))
    (case aW=>exact Zf.out)
    rintro e xY ⟨rfl,hb⟩;refine ⟨_,rfl,?_⟩;replace bE:=bb bE hb;replace bZ:=bb bZ hb;replace bH:=bb bH hb;replace HB:=bq HB hb;(try clear hb);refine hK.out _ _ (aJ (cb HB rQ) (aJ (cb HB mU) (aJ (cb HB rR) (hc (cb HB rT))))).out (fun hHeld=>?_);clear hK K;refine nA 30 ?_;refine bV 9 ?_
    exact SA (by simp only [I5,Act.put,List.setIfInBounds_toArray,List.set_cons_zero,List.set_cons_succ]) (hCont (eB) _ ⟨hHeld,(ks bE),(ks bZ),(ks bH),jw.out,Kj.out,ol.out,om.out,qg.out,qh.out,(bs HB)⟩)
  rintro eB pG ⟨hS_,h0_,h1_,h2_,h3_,h4_,h5_,h6_,h7_,h8_,h9_⟩;have bP:af (pG.heap[sV]? = some (.cells #[.int .i64 0,.string (⟨#[]⟩:ByteArray),.string (⟨#[]⟩:ByteArray),.int .i64 0,.slice none 0 0,.slice none 0 0,.int .i64 0,.int .i64 0] 64 (0,0))):=⟨h0_⟩;have bQ:af (pG.heap[mO]? = some (.cells #[.int .i64 vK,.int .i64 wO,.int .i64 vL] 78 (0,0))):=⟨h1_⟩;have bU:af (pG.heap[eB]? = some (.cells #[.int .i64 0,.string (⟨#[]⟩:ByteArray),.string (⟨#[]⟩:ByteArray),.int .i64 0,.slice none 0 0,.slice none 0 0] 45 (0,0))):=⟨h2_⟩;have gW:af (w.heap.size≤eB):=⟨h3_⟩;have l9:af (w.heap.size≤eB):=⟨h4_⟩;have uD:af (sV≠eB):=⟨h5_⟩;have xR:af (eB≠sV):=⟨h6_⟩;have Sz:af (mO≠eB):=⟨h7_⟩;have n8_:af (eB≠mO):=⟨h8_⟩;have n9_:af (Below w.heap.size w pG):=⟨h9_⟩;clear bE;clear bZ;clear HB;clear h0_ h1_ h2_ h3_ h4_ h5_ h6_ h7_ h8_ h9_;have bE:=bP;have bZ:=bQ;have bH:=bU;have jw:=gW;have Kj:=l9;have ol:=uD;have om:=xR;have qg:=Sz;have qh:=n8_;have HB:=n9_;clear bP bQ bU gW l9 uD xR Sz n8_ n9_;have hHeld:pG.cell? lY=some (.string ((av l1 0).f0))∧pG.cell? ⟨lY.block,lY.off+1,none⟩=some (.slice BX ((av l1 0).f1).length CB)∧pG.cell? lY=some (.string ((av l1 0).f0))∧pG.cell? ⟨lY.block,lY.off+1,none⟩=some (.slice BX ((av l1 0).f1).length CB):=hS_;refine SA (a':=?_) ?_ ?_
  rotate_left
  ·simp only [I5,Act.put,List.setIfInBounds_toArray,List.set_cons_zero,List.set_cons_succ]
   rfl
  refine nG (i:=11) (N:=none) #[true,true,true,true,true,true,true,true,true,true,true,true] rfl rfl (vB HT_.out (by kernel_rfl)) (by decide) (fun K hK=>?_);have aHB:pG.cell? ⟨eB,0,none⟩=some (.int .i64 0):=(az bH.out 0).trans rfl;have aDa:=aV bH.out 0;have aGT:=ol.out;have aGU:=qg.out;have aEF:=om.out;have aEG:=qh.out;have aHC:pG.cell? ⟨eB,1,none⟩=some (.string (⟨#[]⟩:ByteArray)):=(az bH.out 1).trans rfl;have aDb:=aV bH.out 1;have aGV:=ol.out;have aGW:=qg.out;have aEH:=om.out;have aEI:=qh.out;have aHD:pG.cell? ⟨eB,2,none⟩=some (.string (⟨#[]⟩:ByteArray)):=(az bH.out 2).trans rfl;have aDc:=aV bH.out 2;have aGX:=ol.out;have aGY:=qg.out;have aEJ:=om.out;have aEK:=qh.out;have aHE:pG.cell? ⟨eB,3,none⟩=some (.int .i64 0):=(az bH.out 3).trans rfl;have aDd:=aV bH.out 3;have aGZ:=ol.out;have aG0:=qg.out;have aEL:=om.out;have aEM:=qh.out;have aHF:pG.cell? ⟨eB,4,none⟩=some (.slice none 0 0):=(az bH.out 4).trans rfl;have aDe:=aV bH.out 4;have aG1:=ol.out;have aG2:=qg.out;have aEN:=om.out;have aEO:=qh.out;have aHG:pG.cell? ⟨eB,5,none⟩=some (.slice none 0 0):=(az bH.out 5).trans rfl;have aDf:=aV bH.out 5;have aG3:=ol.out;have aG4:=qg.out;have aEP:=om.out;have aEQ:=qh.out;refine vD (w1:=?_) (by rfl) rfl ?_ ?_
  rotate_left
  ·go_simp
   rfl
  refine hK.out _ _ ⟨((cell_far (p:=⟨eB,_,none⟩) (by exact nl rQ jw) _).trans (((cell_far (p:=⟨eB,_,none⟩) (by exact nl rQ jw) _).trans (((cell_far (p:=⟨eB,_,none⟩) (by exact nl rQ jw) _).trans (((cell_far (p:=⟨eB,_,none⟩) (by exact nl rQ jw) _).trans (((cell_far (p:=⟨eB,_,none⟩) (by exact nl rQ jw) _).trans (((cell_far (p:=⟨eB,_,none⟩) (by exact nl rQ jw) _).trans (hHeld.1)))))))))))),((cell_far (p:=⟨eB,_,none⟩) (by exact nl mU jw) _).trans (((cell_far (p:=⟨eB,_,none⟩) (by exact nl mU jw) _).trans (((cell_far (p:=⟨eB,_,none⟩) (by exact nl mU jw) _).trans (((cell_far (p:=⟨eB,_,none⟩) (by exact nl mU jw) _).trans (((cell_far (p:=⟨eB,_,none⟩) (by exact nl mU jw) _).trans (((cell_far (p:=⟨eB,_,none⟩) (by exact nl mU jw) _).trans (hHeld.2.1)))))))))))),((cell_far (p:=⟨eB,_,none⟩) (by exact nl rR jw) _).trans (((cell_far (p:=⟨eB,_,none⟩) (by exact nl rR jw) _).trans (((cell_far (p:=⟨eB,_,none⟩) (by exact nl rR jw) _).trans (((cell_far (p:=⟨eB,_,none⟩) (by exact nl rR jw) _).trans (((cell_far (p:=⟨eB,_,none⟩) (by exact nl rR jw) _).trans (((cell_far (p:=⟨eB,_,none⟩) (by exact nl rR jw) _).trans (hHeld.2.2.1)))))))))))),((cell_far (p:=⟨eB,_,none⟩) (by exact nl rT jw) _).trans (((cell_far (p:=⟨eB,_,none⟩) (by exact nl rT jw) _).trans (((cell_far (p:=⟨eB,_,none⟩) (by exact nl rT jw) _).trans (((cell_far (p:=⟨eB,_,none⟩) (by exact nl rT jw) _).trans (((cell_far (p:=⟨eB,_,none⟩) (by exact nl rT jw) _).trans (((cell_far (p:=⟨eB,_,none⟩) (by exact nl rT jw) _).trans (hHeld.2.2.2))))))))))))⟩ (fun hHeld=>?_);clear hK K;refine fq (gp HT_.out (by kernel_rfl)) ?_
  try go_wp2_with (fail)
  go_at_call 62;(with_reducible refine (Bz.calls a0 XP _ qb.out).mono ?_);rintro e w' ⟨rfl,⟨nd,rfl⟩⟩;have Zc:=am H;clear H
  go_upto_if 33 with (fail)
  go_cut [] (fun wc=>∃ (kq:Nat) (tL:ByteArray) (tN:Int),af (bK.j0 kq a0 l1 a0 mG tL tN=some (r1,r2,r3,r4,r5,r6,r7,r8))∧af (kq≤k)∧af (wc.heap[sV]? = some (.cells #[.int .i64 0,.string (⟨#[]⟩:ByteArray),.string (⟨#[]⟩:ByteArray),.int .i64 0,(.slice none 0 0),(.slice none 0 0),.int .i64 0,.int .i64 0] 64 (0,0)))∧af (wc.heap[mO]? = some (.cells #[.int .i64 vK,.int .i64 wO,.int .i64 vL] 78 (0,0)))∧af (wc.heap[eB]? = some (.cells #[.int .i64 a0,.string mG,.string tL,.int .i64 tN,(.slice none 0 0),(.slice none 0 0)] 45 (0,0)))∧af (Below w.heap.size w wc))
  case first =>
   have H:=Zc.out;clear Zc
   obtain rfl|rfl:=bt XP
   ·replace H:=dE H;replace H:=bo H;obtain ⟨Jl,Aq,H⟩:=H;replace H:=bo H;obtain ⟨XQ,YL,H⟩:=H;have H':=am H;clear H;have ac7:0≤(0:Int):=(by omega);have adj:0<(l1.length:Int):=oa;obtain ⟨apM,azC,aA4,arG,oG,rU,aiD,aib⟩:=lv HR1.out 0 ac7 adj;obtain rfl:lY=apM:=(by injection arG);have aIl:(0<l1.length)=True:=eq_true (by omega)
    (try rw [show ((0:Int)).toNat=0 from rfl] at oG)
    (try rw [show 0 * 2=0 from rfl] at oG)
    (try rw [Addr.add_zero'] at oG)
    (try rw [show ((0:Int)).toNat=0 from rfl] at rU)
    (try rw [show 0 * 2=0 from rfl] at rU)
    (try rw [Addr.add_zero'] at rU)
    have abq:lY.block≠eB:=nl oG jw;have abr:lY.block≠eB:=nl oG jw;have abt:lY.block≠eB:=nl oG jw;have abu:lY.block≠eB:=nl oG jw;have abv:lY.block≠eB:=nl oG jw;have abw:lY.block≠eB:=nl oG jw;replace oG:=cb HB oG;replace rU:=cb HB rU;(try (have ea_:=Option.some.inj ((cb HB mU).symm.trans rU);injection ea_ with ea_ en_ ec_;subst ea_;subst ec_;clear en_));have anY:=am aib;have am4:=am aiD;clear aib aiD;replace oG:=(cell_far (p:=⟨eB,0,none⟩) (by exact nz abq) (.int .i64 a0)).trans oG;replace rU:=(cell_far (p:=⟨eB,0,none⟩) (by exact nz abq) (.int .i64 a0)).trans rU;replace oG:=(cell_far (p:=⟨eB,1,none⟩) (by exact nz abr) (.string mG)).trans oG;replace rU:=(cell_far (p:=⟨eB,1,none⟩) (by exact nz abr) (.string mG)).trans rU;replace oG:=(cell_far (p:=⟨eB,2,none⟩) (by exact nz abt) (.string (⟨#[]⟩:ByteArray))).trans oG;replace rU:=(cell_far (p:=⟨eB,2,none⟩) (by exact nz abt) (.string (⟨#[]⟩:ByteArray))).trans rU;replace oG:=(cell_far (p:=⟨eB,3,none⟩) (by exact nz abu) (.int .i64 yU)).trans oG;replace rU:=(cell_far (p:=⟨eB,3,none⟩) (by exact nz abu) (.int .i64 yU)).trans rU;replace oG:=(cell_far (p:=⟨eB,4,none⟩) (by exact nz abv) (.slice none 0 0)).trans oG;replace rU:=(cell_far (p:=⟨eB,4,none⟩) (by exact nz abv) (.slice none 0 0)).trans rU;replace oG:=(cell_far (p:=⟨eB,5,none⟩) (by exact nz abw) (.slice none 0 0)).trans oG;replace rU:=(cell_far (p:=⟨eB,5,none⟩) (by exact nz abw) (.slice none 0 0)).trans rU;clear abq;clear abr;clear abt;clear abu;clear abv;clear abw;replace ac7:=eq_true ac7;replace adj:=eq_true adj
    go_wp2_with (first|((go_at_call 69;(with_reducible refine (nV.calls ((av l1 0).f0) _ _ ((av l1 0).f1) 1 0 Jl _ ?aI am4.out Aq.out).mono ?_);(case aI=>exact Kd.bJ anY.out (bs HB));rintro e qJ ⟨rfl,hb⟩);replace bE:=bb bE hb;replace bZ:=bb bZ hb;replace bH:=am (aZ (g:=eB) (o:=.cells #[.int .i64 a0,.string mG,.string (⟨#[]⟩:ByteArray),.int .i64 yU,.slice none 0 0,.slice none 0 0] 45 (0,0)) (kp bH) hb);replace HB:=bq HB hb;(try clear hb);have QP:=om.out;have QR:=ol.out;have abF:=qh.out;have abJ:=qg.out;have Wp:=dC bH;have ac8:0≤(0:Int):=(by omega);have adk:0<(l1.length:Int):=oa;obtain ⟨apN,azD,aA5,arH,Fe,Ff,aiE,aic⟩:=lv HR1.out 0 ac8 adk;obtain rfl:lY=apN:=(by injection arH);have aIm:(0<l1.length)=True:=eq_true (by omega);(try rw [show ((0:Int)).toNat=0 from rfl] at Fe);(try rw [show 0 * 2=0 from rfl] at Fe);(try rw [Addr.add_zero'] at Fe);(try rw [show ((0:Int)).toNat=0 from rfl] at Ff);(try rw [show 0 * 2=0 from rfl] at Ff);(try rw [Addr.add_zero'] at Ff);have abx:lY.block≠eB:=nl Fe jw;replace Fe:=cb HB Fe;replace Ff:=cb HB Ff;(try (have ea_:=Option.some.inj ((cb HB mU).symm.trans Ff);injection ea_ with ea_ en_ ec_;subst ea_;subst ec_;clear en_));have anZ:=am aic;have am5:=am aiE;clear aic aiE;replace Fe:=(cell_far (p:=⟨eB,2,none⟩) (by exact nz abx) (.string Jl)).trans Fe;replace Ff:=(cell_far (p:=⟨eB,2,none⟩) (by exact nz abx) (.string Jl)).trans Ff;clear abx;replace ac8:=eq_true ac8;replace adk:=eq_true adk)|((go_at_call 70;(with_reducible refine (jT.calls k ((av l1 0).f0) _ _ ((av l1 0).f1) 2 XQ _ ?aI am5.out YL.out).mono ?_);(case aI=>exact Kd.bJ anZ.out (bs HB));rintro e Ai ⟨rfl,hb⟩);replace bE:=bb bE hb;replace bZ:=bb bZ hb;replace bH:=am (aZ (g:=eB) (o:=.cells #[.int .i64 a0,.string mG,.string Jl,.int .i64 yU,.slice none 0 0,.slice none 0 0] 45 (0,0)) (kp bH) hb);replace HB:=bq HB hb;(try clear hb);have Wq:=dC bH))
    go_meet
    case rel=>exact ⟨_,(Jl),(XQ),H',⟨fl⟩,⟨ks bE⟩,⟨ks bZ⟩,⟨kp bH⟩,⟨bs HB⟩⟩
   ·replace H:=dD H;have H':=am H;clear H
    go_wp2
    go_meet
    case rel=>exact ⟨_,((⟨#[]⟩:ByteArray)),(yU),H',⟨fl⟩,⟨ks bE⟩,⟨ks bZ⟩,⟨kp bH⟩,⟨bs HB⟩⟩
  case rest =>
   clear Zc
   try clear c1
   try clear c7
   try clear Be
   try clear xL
   try clear wD
   try clear xM
   try clear wE
   try clear Dt
   try clear Du
   try clear Dv
   try clear Dw
   obtain ⟨kq,tL,tN,HA,xe,bE,bZ,bH,HB⟩:=hcut
   cases kq with
   | zero=>exact absurd HA.out (by simp [bK.j0])
   | succ akr =>
    have H:=HA.out;clear HA;simp only [bK.j0] at H;have H':=am H;clear H
    go_wp2
    go_loopg [7] akr (fun kq v7 w'=>∃ (kH:Int) (Np:Int) (Nq:ByteArray) (Nr:ByteArray) (Ns:Int) (Nt:Int) (Nu:Int) (tO:List ByteArray) (kG:List (aY)) (wQ:Value) (X6:Value),v7=.int .i64 kH∧af (bK.l0 kq a0 l1 kH a0 mG tL tN tO kG=some (r1,r2,r3,r4,r5,r6,r7,r8))∧af (kq≤akr)∧af (Kd.R Kd.string 9 w' w.heap.size (fun _=>True) wQ tO)∧af (Kd.R iR 95 w' w.heap.size (fun _=>True) X6 kG)∧af (w'.heap[sV]? = some (.cells #[.int .i64 Np,.string Nq,.string Nr,.int .i64 Ns,(.slice none 0 0),(.slice none 0 0),.int .i64 Nt,.int .i64 Nu] 64 (0,0)))∧af (w'.heap[mO]? = some (.cells #[.int .i64 vK,.int .i64 wO,.int .i64 vL] 78 (0,0)))∧af (w'.heap[eB]? = some (.cells #[.int .i64 a0,.string mG,.string tL,.int .i64 tN,wQ,X6] 45 (0,0)))∧af (Below w.heap.size w w'))
    case atStart=>exact ⟨(1),(0),((⟨#[]⟩:ByteArray)),((⟨#[]⟩:ByteArray)),(0),(0),(0),(([]:List ByteArray)),(([]:List (aY))),(.slice none 0 0),(.slice none 0 0),fg,H',⟨Nat.le_refl _⟩,⟨by first|exact Kd.qj _ _ _ _ _|exact Kd.uN _ _ _ _ _|exact Kd.uS _ _ _ _ _|exact Kd.uO _ _ _ _ _|exact Kd.qO _ _ _ _ _⟩,⟨by first|exact Kd.qj _ _ _ _ _|exact Kd.uN _ _ _ _ _|exact Kd.uS _ _ _ _ _|exact Kd.uO _ _ _ _ _|exact Kd.qO _ _ _ _ _⟩,⟨ks bE⟩,⟨ks bZ⟩,⟨ks bH⟩,⟨bs HB⟩⟩
    case round =>
     clear H'
     try clear c1
     try clear c7
     try clear Be
     try clear xL
     try clear wD
     try clear xM
     try clear wE
     try clear Dt
     try clear Du
     try clear Dv
     try clear Dw
     try clear bE
     try clear bZ
     try clear bH
     obtain ⟨kH,Np,Nq,Nr,Ns,Nt,Nu,tO,kG,wQ,X6,rfl,HA,cz,gZ,dX,bE,bZ,bH,HB⟩:=hrel
     cases gk with
     | zero=>exact absurd HA.out (by simp [bK.l0])
     | succ k2 =>
      have H:=HA.out;clear HA;simp only [bK.l0] at H
      revert H;refine cB ?_ ?_
      ·intro uk H
       revert H;refine bu ?_
       intro Cz H
       revert H;refine bL ?_ ?_
       ·intro EG Ht H;replace H:=bo H;obtain ⟨M5,A39,H⟩:=H
        revert H;refine jE ?_
        intro c40 H;have aov:=am c40;clear c40;obtain ⟨aej,ack⟩:∃ y_:List ByteArray,y_=(tO++[M5]):=⟨_,rfl⟩
        replace H:(bK.l0 k2 a0 l1 (wrap64 (kH+1)) a0 mG tL tN aej kG)=some (r1,r2,r3,r4,r5,r6,r7,r8):=ye ack H
        have ao9:=am ack;clear ack;have H':=am H;clear H;obtain ⟨SB,SI,aap,al9,aqK,aaY,Da,yE,QB,Qf⟩:=wi (lv HR1.out kH);obtain rfl:lY=aap:=(by injection aaY);replace Da:=cb HB Da;replace yE:=cb HB yE;(try (have ea_:=Option.some.inj ((cb HB mU).symm.trans yE);injection ea_ with ea_ en_ ec_;subst ea_;subst ec_;clear en_));have an0:=am Qf;have am6:=am QB;clear Qf QB
        try go_wp2
        replace gZ:=am (Kd.dY gZ.out);replace dX:=am (Kd.dY dX.out);replace bE:=am (bg bE.out);replace bZ:=am (bg bZ.out);replace bH:=am (bg bH.out);replace HB:=am (cO HB.out);obtain ⟨aIf,aIh,apP,ama,aqL,arI,WR,Rz,aiF,aid⟩:=wi (lv HR1.out kH);have Rv:=Rz;have Ru:=WR;obtain rfl:lY=apP:=(by injection arI);replace WR:=cb HB WR;replace Rz:=cb HB Rz;(try (have ea_:=Option.some.inj ((cb HB mU).symm.trans Rz);injection ea_ with ea_ en_ ec_;subst ea_;subst ec_;clear en_));have aff:=am aid;have am7:=am aiF;clear aid aiF;refine Af 11 [10] (oF bH (aJ (cb HB Ru) (hc (cb HB Rv)))) (fun hHeld=>?_);refine gq bK.wP bK.vY (fun HT_ HW_=>?_)
        generalize wr.drew=w41 at gZ dX bE bZ bH HB aff WR Rz hHeld ⊢
        refine bV 0 ?_;refine kZ 2 ?_;refine ta 1 ?_;refine ta 5 ?_;refine oA 6 62 HT_ (fun K hK=>?_);refine gA Tryz.func69 #[.agg #[.string ((av l1 kH).f0),.slice ama ((av l1 kH).f1).length aqL],.int .i64 0,.int .i64 0] ?_;(with_reducible refine (nV.calls ((av l1 kH).f0) _ _ ((av l1 kH).f1) 0 0 M5 _ ?aI ?aW A39.out).mono ?_)
        (case aI=>exact sd (Kd.bJ aff.out HB.out))
        (case aW=>exact am7.out)
        rintro e tJ ⟨rfl,hb⟩;refine ⟨_,rfl,?_⟩;replace gZ:=am (Kd.dK (rs gZ) hb);replace dX:=am (Kd.dK (rs dX) hb);replace bE:=bb bE hb;replace bZ:=bb bZ hb;replace bH:=bb bH hb;replace HB:=bq HB hb;(try clear hb);refine hK.out _ _ (oF bH (aJ (cb HB Ru) (hc (cb HB Rv)))).out (fun hHeld=>?_);clear hK K;refine nA 62 ?_;refine oA 7 63 HT_ (fun K hK=>?_);refine DF (w1:=?_) (v:=?_) (by rfl) rfl ?_ ?_
        rotate_left 2
        ·go_simp
         constructor
         ·rfl
         ·rfl
        refine hK.out _ _ ⟨(az (eu bH.out _) 0).trans rfl,(az (eu bH.out _) 1).trans rfl,(az (eu bH.out _) 2).trans rfl,(az (eu bH.out _) 3).trans rfl,(az (eu bH.out _) 4).trans rfl,(az (eu bH.out _) 5).trans rfl,(World.cell?_alloc_lt _ _ _ (World.block_lt_of_cell? _ _ (((cb HB Ru).trans rfl)))).trans (((cb HB Ru).trans rfl)),(World.cell?_alloc_lt _ _ _ (World.block_lt_of_cell? _ _ (((cb HB Rv).trans rfl)))).trans (((cb HB Rv).trans rfl))⟩ (fun hHeld=>?_);clear hK K;refine nA 63 ?_;refine oA 8 64 HT_ (fun K hK=>?_);refine Kd.U1 Kd.string (w0:=w) w.heap.size (by rfl) (.tmp 57) (.tmp 63) 42 9 (.string ⟨#[]⟩) 16 rfl Tryz.underlying42 xQ rfl (by decide) (by omega) wQ tO M5 [.string M5] (fun _=>True) (fun _=>False) rfl rfl ?aP (fun _ hk=>hk.elim) ?aF ?aO ?aB ?aS ?aL ?_
        (case aP=>exact rfl)
        (case aB=>exact (bs HB))
        (case aF=>exact (fun _ _=>trivial))
        (case aO=>exact (rs gZ))
        (case aS=>exact (bC (bs HB)))
        (case aL=>have:=aov.out;omega)
        intro aIV Ng ho hb hg hat
        rw [← ao9.out] at ho
        replace dX:=am (Kd.Er (rs dX) (Kd.GX (rs gZ)) (by decide) hg);replace bE:=am (fG (ks bE) hg (Kd.jy gZ.out bE.out (by decide)));replace bZ:=am (fG (ks bZ) hg (Kd.jy gZ.out bZ.out (by decide)));replace bH:=am (fG (ks bH) hg (Kd.jy gZ.out bH.out (by decide)));replace HB:=am (hb);have afa:=am (ho);clear gZ;clear ho hb hg hat;obtain ⟨aeG,ag9,PD⟩:=Kd.iy afa.out
        (first|subst PD|(injection PD with dZ iJ d9;have iK:=dZ.symm;have iL:=d9.symm;clear dZ iJ d9;subst iK;subst iL))
        refine hK.out _ _ (oF bH (aJ (cb HB Ru) (hc (cb HB Rv)))).out (fun hHeld=>?_);clear hK K;refine nA 64 ?_;refine bV 9 ?_;refine FC (i:=10) (N:=none) #[true,true,true,true,true,true,true,true,true,true,true] rfl rfl (vB HT_.out (by kernel_rfl)) (by decide) (fun K hK=>?_);have auu:Ng.cell? ⟨eB,4,none⟩=some (wQ):=(az bH.out 4).trans rfl;have ath:=aV bH.out 4;have auq:=ol.out;have aHe:=qg.out;have atr:=om.out;have aE0:=qh.out;refine vD (w1:=?_) (by rfl) rfl ?_ ?_
        rotate_left
        ·go_simp
         rfl
        refine hK.out _ _ ?_;clear hK K;refine fq (gp HT_.out (by kernel_rfl)) ?_
        try go_wp2
        go_roundg k2
        case measure=>have:=xe.out;have:=cz.out;omega
        case rel=>exact ⟨(wrap64 (kH+1)),(Np),(Nq),(Nr),(Ns),(Nt),(Nu),(aej),(kG),(.slice aeG aej.length ag9),(X6),fg,H',⟨by have:=xe.out;have:=cz.out;omega⟩,⟨Kd.dI (rf (Kd.lK afa.out bH.out (by decide))) (fun _ hk=>trivial)⟩,⟨Kd.dI (rf (Kd.lK dX.out bH.out (by decide))) (fun _ hk=>trivial)⟩,⟨ks bE⟩,⟨ks bZ⟩,⟨kp bH⟩,⟨bs HB⟩⟩
       ·intro EF EG Ht H;replace H:=bo H;obtain ⟨⟨mH,nX,nY,nZ,og⟩,A46,H⟩:=H;(try dsimp only at H);obtain ⟨SB,SI,aap,al9,aqK,aaY,Da,yE,QB,Qf⟩:=wi (lv HR1.out kH);obtain rfl:lY=aap:=(by injection aaY);replace Da:=cb HB Da;replace yE:=cb HB yE;(try (have ea_:=Option.some.inj ((cb HB mU).symm.trans yE);injection ea_ with ea_ en_ ec_;subst ea_;subst ec_;clear en_));have an0:=am Qf;have am6:=am QB;clear Qf QB;obtain ⟨Xt,Xz,apQ,azE,aA6,arJ,L9,Fg,aiG,aie⟩:=wi (lv HR1.out kH);obtain rfl:lY=apQ:=(by injection arJ);replace L9:=cb HB L9;replace Fg:=cb HB Fg;(try (have ea_:=Option.some.inj ((cb HB mU).symm.trans Fg);injection ea_ with ea_ en_ ec_;subst ea_;subst ec_;clear en_));have an1:=am aie;have am8:=am aiG;clear aie aiG;(try (have ea_:=Option.some.inj (yE.symm.trans Fg);injection ea_ with ea_ en_ ec_;subst ea_;subst ec_;clear en_))
        try go_wp2_with (fail)
        go_at_call 71;(with_reducible refine (jd.calls k2 a0 ((av l1 kH).f0) _ _ ((av l1 kH).f1) mH nX nY nZ og _ (Kd.bJ an1.out (bs HB)) am8.out A46.out).mono ?_);rintro e Tw ⟨rfl,hb⟩;replace gZ:=am (Kd.dK (rs gZ) hb);replace dX:=am (Kd.dK (rs dX) hb);replace bE:=bb bE hb;replace bZ:=bb bZ hb;replace bH:=bb bH hb;replace HB:=bq HB hb;(try clear hb);have Zi:=am H;clear H
        go_upto_if 75 with (first|((with_reducible refine aN (N:=8) rfl ?_);refine bx 8 (cs:=#[.int .i64 0,.string (⟨#[]⟩:ByteArray),.int .i64 0,.int .i64 0,.string (⟨#[]⟩:ByteArray)]) (t:=95) ?_;intro jb hg Nh hbox hb;replace gZ:=am (Kd.dK (rs gZ) hb);replace dX:=am (Kd.dK (Kd.af1 (rs dX) jb (Nat.le_of_eq hg.symm)) hb);have gT:=am (hbox);have aAd:=gw hg HB;replace HB:=bq HB hb;have GH:=na hg bE;have GJ:=nc hg bE;replace bE:=bb bE hb;have UT:=na hg bZ;have UU:=nc hg bZ;replace bZ:=bb bZ hb;have GU:=na hg bH;have GK:=nc hg bH;replace bH:=bb bH hb;clear hb hbox hg;have atK:=GJ.out;have aug:=GH.out;have atL:=UU.out;have auh:=UT.out;have atM:=GK.out;have aui:=GU.out;have Lm:=jY gT;have ajg:=om.out;have ajs:=ol.out;have ajh:=qh.out;have ajt:=qg.out;have P8:=dC bH;obtain ⟨Cb,CJ,asf⟩:=Kd.iy dX.out;subst asf))
        (try simp only [Act.put,List.setIfInBounds_toArray,List.set_cons_zero,List.set_cons_succ])
        go_cut [9] (fun v9 wc=>∃ (kq:Nat) (aeg:Int),v9=.int .i64 aeg∧af (bK.j2 kq a0 l1 kH aeg a0 mG tL tN tO kG mH nX nY nZ og=some (r1,r2,r3,r4,r5,r6,r7,r8))∧af (kq≤k2)∧af (Kd.R Kd.string 9 wc w.heap.size (fun _=>True) wQ tO)∧af (Kd.R iR 95 wc w.heap.size (fun k_=>k_≠jb) (.slice Cb kG.length CJ) kG)∧af (wc.heap[sV]? = some (.cells #[.int .i64 Np,.string Nq,.string Nr,.int .i64 Ns,(.slice none 0 0),(.slice none 0 0),.int .i64 Nt,.int .i64 Nu] 64 (0,0)))∧af (wc.heap[mO]? = some (.cells #[.int .i64 vK,.int .i64 wO,.int .i64 vL] 78 (0,0)))∧af (wc.heap[eB]? = some (.cells #[.int .i64 a0,.string mG,.string tL,.int .i64 tN,wQ,(.slice Cb kG.length CJ)] 45 (0,0)))∧af (wc.heap[jb]? = some (.cells #[.int .i64 mH,.string nX,.int .i64 nY,.int .i64 nZ,.string og] 95 (0,0)))∧af (Below w.heap.size w wc))
        case first =>
         have H:=Zi.out;clear Zi
         revert H;refine gz ?_ ?_
         ·intro Ph H;have Hu:decide (0<(kG.length:Int))=true:=decide_eq_true Ph;have aaR:decide (0<kG.length)=true:=decide_eq_true (by omega);clear Ph
          (first|rw [Hu]|(simp only [fu,gy];rw [Hu])|rw [aaR]|skip)
          obtain ⟨ME,Ww⟩:∃ j_:Int,(wrap64 ((kG.length:Int) - 1))=j_:=⟨_,rfl⟩
          replace H:(if 0≤(ME) then (if (ME)<(kG.length:Int) then (bK.j2 k2 a0 l1 kH ((ai kG (ME)).f0) a0 mG tL tN tO kG mH nX nY nZ og) else (none)) else (none))=some (r1,r2,r3,r4,r5,r6,r7,r8):=by first|(rw [Ww] at H;exact H)|(simp only [Ww] at H ⊢;exact H)
          have aEz:(IntKind.i64.wrap ((kG.length:Int) - 1))=ME:=(fu _).trans Ww
          revert H;refine bu ?_
          intro aBc H
          revert H;refine bu ?_
          intro aBd H;have H':=am H;clear H;have ajj:=om.out;have ajv:=ol.out;have aFM:=qh.out;have aGx:=qg.out;have aFN:=GU.out;have aGy:=GK.out;have aCF:=dC bH;obtain ⟨aIg,aIi,OQ,arK,Bi,Bj,Bl,Bn,Bo⟩:=wi (rM (Kd.dU dX.out).2.2 (ME))
          cases arK
          have Ls:OQ.block≠jb:=Kd.MM ((by first|exact Kd.jy dX.out gT.out (by decide)|exact fun e_=>(dX.out.1 _ e_.symm).2 rfl|exact fun e_=>(dX.out.1 _ e_.symm) rfl));have Lt:OQ.block≠jb:=Kd.MM ((by first|exact Kd.jy dX.out gT.out (by decide)|exact fun e_=>(dX.out.1 _ e_.symm).2 rfl|exact fun e_=>(dX.out.1 _ e_.symm) rfl));have Lu:OQ.block≠jb:=Kd.MM ((by first|exact Kd.jy dX.out gT.out (by decide)|exact fun e_=>(dX.out.1 _ e_.symm).2 rfl|exact fun e_=>(dX.out.1 _ e_.symm) rfl));have Lv:OQ.block≠jb:=Kd.MM ((by first|exact Kd.jy dX.out gT.out (by decide)|exact fun e_=>(dX.out.1 _ e_.symm).2 rfl|exact fun e_=>(dX.out.1 _ e_.symm) rfl));have Lx:OQ.block≠jb:=Kd.MM ((by first|exact Kd.jy dX.out gT.out (by decide)|exact fun e_=>(dX.out.1 _ e_.symm).2 rfl|exact fun e_=>(dX.out.1 _ e_.symm) rfl));replace Bi:=(cell_far (p:=⟨jb,0,none⟩) (by exact nz Ls) (.int .i64 mH)).trans Bi;replace Bj:=(cell_far (p:=⟨jb,0,none⟩) (by exact nz Ls) (.int .i64 mH)).trans Bj;replace Bl:=(cell_far (p:=⟨jb,0,none⟩) (by exact nz Ls) (.int .i64 mH)).trans Bl;replace Bn:=(cell_far (p:=⟨jb,0,none⟩) (by exact nz Ls) (.int .i64 mH)).trans Bn;replace Bo:=(cell_far (p:=⟨jb,0,none⟩) (by exact nz Ls) (.int .i64 mH)).trans Bo;replace Bi:=(cell_far (p:=⟨jb,1,none⟩) (by exact nz Lt) (.string nX)).trans Bi;replace Bj:=(cell_far (p:=⟨jb,1,none⟩) (by exact nz Lt) (.string nX)).trans Bj;replace Bl:=(cell_far (p:=⟨jb,1,none⟩) (by exact nz Lt) (.string nX)).trans Bl;replace Bn:=(cell_far (p:=⟨jb,1,none⟩) (by exact nz Lt) (.string nX)).trans Bn;replace Bo:=(cell_far (p:=⟨jb,1,none⟩) (by exact nz Lt) (.string nX)).trans Bo;replace Bi:=(cell_far (p:=⟨jb,2,none⟩) (by exact nz Lu) (.int .i64 nY)).trans Bi;replace Bj:=(cell_far (p:=⟨jb,2,none⟩) (by exact nz Lu) (.int .i64 nY)).trans Bj;replace Bl:=(cell_far (p:=⟨jb,2,none⟩) (by exact nz Lu) (.int .i64 nY)).trans Bl;replace Bn:=(cell_far (p:=⟨jb,2,none⟩) (by exact nz Lu) (.int .i64 nY)).trans Bn;replace Bo:=(cell_far (p:=⟨jb,2,none⟩) (by exact nz Lu) (.int .i64 nY)).trans Bo;replace Bi:=(cell_far (p:=⟨jb,3,none⟩) (by exact nz Lv) (.int .i64 nZ)).trans Bi;replace Bj:=(cell_far (p:=⟨jb,3,none⟩) (by exact nz Lv) (.int .i64 nZ)).trans Bj;replace Bl:=(cell_far (p:=⟨jb,3,none⟩) (by exact nz Lv) (.int .i64 nZ)).trans Bl;replace Bn:=(cell_far (p:=⟨jb,3,none⟩) (by exact nz Lv) (.int .i64 nZ)).trans Bn;replace Bo:=(cell_far (p:=⟨jb,3,none⟩) (by exact nz Lv) (.int .i64 nZ)).trans Bo;replace Bi:=(cell_far (p:=⟨jb,4,none⟩) (by exact nz Lx) (.string og)).trans Bi;replace Bj:=(cell_far (p:=⟨jb,4,none⟩) (by exact nz Lx) (.string og)).trans Bj;replace Bl:=(cell_far (p:=⟨jb,4,none⟩) (by exact nz Lx) (.string og)).trans Bl;replace Bn:=(cell_far (p:=⟨jb,4,none⟩) (by exact nz Lx) (.string og)).trans Bn;replace Bo:=(cell_far (p:=⟨jb,4,none⟩) (by exact nz Lx) (.string og)).trans Bo;clear Ls;clear Lt;clear Lu;clear Lv;clear Lx
          go_wp2
          go_meet
          case rel=>exact ⟨_,((ai kG (ME)).f0),(by first|rfl|(simp;done)|(simp only [← Ww] <;> (first|rfl|simp))|(simp [*];done)),H',⟨by have:=xe.out;have:=cz.out;first|omega|exact Nat.le_refl _⟩,⟨Kd.dI (rf (Kd.lK gZ.out gT.out (by decide))) (fun _ hk=>trivial)⟩,⟨Kd.dI (rf (Kd.dI dX.out (fun k_ hk=>(⟨hk,hk.2⟩:_∧k_≠jb)))) (fun _ hk=>hk.1.2)⟩,⟨ks bE⟩,⟨ks bZ⟩,⟨ks bH⟩,⟨kp gT⟩,⟨bs HB⟩⟩
         ·intro Ph H;have Hu:decide (0<(kG.length:Int))=false:=decide_eq_false Ph;have aaR:decide (0<kG.length)=false:=decide_eq_false (by omega);clear Ph
          (first|rw [Hu]|(simp only [fu,gy];rw [Hu])|rw [aaR]|skip)
          have H':=am H;clear H
          go_wp2
          go_meet
          case rel=>exact ⟨_,(0),fg,H',⟨by have:=xe.out;have:=cz.out;first|omega|exact Nat.le_refl _⟩,⟨Kd.dI (rf (Kd.lK gZ.out gT.out (by decide))) (fun _ hk=>trivial)⟩,⟨Kd.dI (rf (Kd.dI dX.out (fun k_ hk=>(⟨hk,hk.2⟩:_∧k_≠jb)))) (fun _ hk=>hk.1.2)⟩,⟨ks bE⟩,⟨ks bZ⟩,⟨ks bH⟩,⟨kp gT⟩,⟨bs HB⟩⟩
        case rest =>
         clear Zi
         try clear c1
         try clear c7
         try clear uk
         try clear Cz
         try clear EF
         try clear EG
         try clear Ht
         try clear Be
         try clear Lm
         try clear P8
         try clear xL
         try clear wD
         try clear xM
         try clear wE
         try clear Da
         try clear yE
         try clear L9
         try clear Fg
         try clear Dt
         try clear Du
         try clear SB
         try clear Xt
         try clear Dv
         try clear Dw
         try clear SI
         try clear Xz
         obtain ⟨kq,aeg,rfl,HA,Cj,gZ,dX,bE,bZ,bH,gT,HB⟩:=hcut
         cases kq with
         | zero=>exact absurd HA.out (by simp [bK.j2])
         | succ avg =>
          have H:=HA.out;clear HA;simp only [bK.j2] at H;have Zm:=am H;clear H
          go_upto_region 17 with (fail)
          go_cut [97] (fun v97 wc=>∃ (kq:Nat) (YA:Bool),v97=.bool YA∧af (bK.j3 kq a0 l1 kH YA a0 mG tL tN tO kG mH nX nY nZ og=some (r1,r2,r3,r4,r5,r6,r7,r8))∧af (kq≤avg)∧af (Kd.R Kd.string 9 wc w.heap.size (fun _=>True) wQ tO)∧af (Kd.R iR 95 wc w.heap.size (fun k_=>k_≠jb) (.slice Cb kG.length CJ) kG)∧af (wc.heap[sV]? = some (.cells #[.int .i64 Np,.string Nq,.string Nr,.int .i64 Ns,(.slice none 0 0),(.slice none 0 0),.int .i64 Nt,.int .i64 Nu] 64 (0,0)))∧af (wc.heap[mO]? = some (.cells #[.int .i64 vK,.int .i64 wO,.int .i64 vL] 78 (0,0)))∧af (wc.heap[eB]? = some (.cells #[.int .i64 a0,.string mG,.string tL,.int .i64 tN,wQ,(.slice Cb kG.length CJ)] 45 (0,0)))∧af (wc.heap[jb]? = some (.cells #[.int .i64 mH,.string nX,.int .i64 nY,.int .i64 nZ,.string og] 95 (0,0)))∧af (Below w.heap.size w wc))
          case first =>
           have H:=Zm.out;clear Zm;replace H:=bo H;obtain ⟨XR,A67,H⟩:=H
           try go_wp2_with (fail)
           go_at_call 72;(with_reducible refine (Jh.calls a0 XR _ A67.out).mono ?_);rintro e w' ⟨rfl,⟨nd,rfl⟩⟩
           obtain rfl|rfl:=bt XR
           ·replace H:=dE H
            revert H;refine cB ?_ ?_
            ·intro Pj H
             (first|rw [Pj]|(simp only [fu,gy];rw [Pj])|skip)
             have H':=am H;clear H;have aFR:=GJ.out;have aGC:=GH.out;have atO:=UU.out;have auk:=UT.out;have atP:=GK.out;have aul:=GU.out;have as3:=jY gT
             go_wp2
             go_meet
             case rel=>exact ⟨_,(true),fg,H',⟨by have:=xe.out;have:=cz.out;have:=Cj.out;first|omega|exact Nat.le_refl _⟩,⟨rz gZ.out⟩,⟨rz dX.out⟩,⟨ks bE⟩,⟨ks bZ⟩,⟨ks bH⟩,⟨ks gT⟩,⟨bs HB⟩⟩
            ·intro Pj H
             (first|rw [Pj]|(simp only [fu,gy];rw [Pj])|skip)
             have H':=am H;clear H;have atQ:=GJ.out;have aum:=GH.out;have aFS:=UU.out;have aGD:=UT.out;have atS:=GK.out;have aun:=GU.out;have as4:=jY gT
             go_wp2
             go_meet
             case rel=>exact ⟨_,(decide (mH>999)),fg,H',⟨by have:=xe.out;have:=cz.out;have:=Cj.out;first|omega|exact Nat.le_refl _⟩,⟨rz gZ.out⟩,⟨rz dX.out⟩,⟨ks bE⟩,⟨ks bZ⟩,⟨ks bH⟩,⟨ks gT⟩,⟨bs HB⟩⟩
           ·replace H:=dD H;have H':=am H;clear H
            go_wp2
            go_meet
            case rel=>exact ⟨_,(false),fg,H',⟨by have:=xe.out;have:=cz.out;have:=Cj.out;first|omega|exact Nat.le_refl _⟩,⟨rz gZ.out⟩,⟨rz dX.out⟩,⟨ks bE⟩,⟨ks bZ⟩,⟨ks bH⟩,⟨ks gT⟩,⟨bs HB⟩⟩
          case rest =>
           clear Zm
           try clear c1
           try clear c7
           try clear uk
           try clear Cz
           try clear EF
           try clear EG
           try clear Ht
           try clear Be
           try clear Lm
           try clear P8
           try clear xL
           try clear wD
           try clear xM
           try clear wE
           try clear Da
           try clear yE
           try clear L9
           try clear Fg
           try clear Dt
           try clear Du
           try clear SB
           try clear Xt
           try clear Dv
           try clear Dw
           try clear SI
           try clear Xz
           obtain ⟨kq,YA,rfl,HA,Km,gZ,dX,bE,bZ,bH,gT,HB⟩:=hcut
           cases kq with
           | zero=>exact absurd HA.out (by simp [bK.j3])
           | succ aku =>
            have H:=HA.out;clear HA;simp only [bK.j3] at H
            obtain rfl|rfl:=bt YA
            ·replace H:=dE H;replace H:=SY H;obtain ⟨rfl,rfl,rfl,rfl,rfl,rfl,rfl,rfl⟩:=H;have aFT:=GG.out;have aGE:=GI.out;have aFU:=ol.out;have aGF:=om.out;have aFV:=GH.out;have aGG:=GJ.out;have as5:=HV bE
             go_wp2
             refine bodyPost_ret (results_cell_row rfl _ _ sV 64 #[.int .i64 0,.string (⟨#[]⟩:ByteArray),.string (⟨#[]⟩:ByteArray),.int .i64 0,.slice none 0 0,.slice none 0 0,.int .i64 kH,.int .i64 11] (0,0) _ rfl (kp bE) Tryz.underlying64 rfl (by kernel_rfl)) rfl ?_
             exact ⟨_,_,ff,by first|exact Kd.qj _ _ _ _ _|exact Kd.uN _ _ _ _ _|exact Kd.uS _ _ _ _ _|exact Kd.uO _ _ _ _ _|exact Kd.qO _ _ _ _ _,by first|exact Kd.qj _ _ _ _ _|exact Kd.uN _ _ _ _ _|exact Kd.uS _ _ _ _ _|exact Kd.uO _ _ _ _ _|exact Kd.qO _ _ _ _ _,bs HB⟩
            ·replace H:=dD H;have H':=am H;clear H
             go_wp2
             go_loopg [10] aku (fun kq v10 w'=>∃ (JU:Int) (TB:Int) (TC:ByteArray) (TD:ByteArray) (TE:Int) (TF:Int) (TG:Int),v10=.int .i64 JU∧af (bK.l1 kq a0 l1 kH JU a0 mG tL tN tO kG mH nX nY nZ og=some (r1,r2,r3,r4,r5,r6,r7,r8))∧af (kq≤aku)∧af (Kd.R Kd.string 9 w' w.heap.size (fun _=>True) wQ tO)∧af (Kd.R iR 95 w' w.heap.size (fun k_=>k_≠jb) (.slice Cb kG.length CJ) kG)∧af (w'.heap[sV]? = some (.cells #[.int .i64 TB,.string TC,.string TD,.int .i64 TE,(.slice none 0 0),(.slice none 0 0),.int .i64 TF,.int .i64 TG] 64 (0,0)))∧af (w'.heap[mO]? = some (.cells #[.int .i64 vK,.int .i64 wO,.int .i64 vL] 78 (0,0)))∧af (w'.heap[eB]? = some (.cells #[.int .i64 a0,.string mG,.string tL,.int .i64 tN,wQ,(.slice Cb kG.length CJ)] 45 (0,0)))∧af (w'.heap[jb]? = some (.cells #[.int .i64 mH,.string nX,.int .i64 nY,.int .i64 nZ,.string og] 95 (0,0)))∧af (Below w.heap.size w w'))
             case atStart=>exact ⟨(0),(Np),(Nq),(Nr),(Ns),(Nt),(Nu),fg,H',⟨Nat.le_refl _⟩,⟨rz gZ.out⟩,⟨rz dX.out⟩,⟨ks bE⟩,⟨ks bZ⟩,⟨ks bH⟩,⟨ks gT⟩,⟨bs HB⟩⟩
             case round =>
              clear H'
              try clear c1
              try clear c7
              try clear uk
              try clear Cz
              try clear EF
              try clear EG
              try clear Ht
              try clear Be
              try clear Lm
              try clear P8
              try clear xL
              try clear wD
              try clear xM
              try clear wE
              try clear Da
              try clear yE
              try clear L9
              try clear Fg
              try clear Dt
              try clear Du
              try clear SB
              try clear Xt
              try clear Dv
              try clear Dw
              try clear SI
              try clear Xz
              try clear bE
              try clear bZ
              try clear bH
              try clear gT
              obtain ⟨JU,TB,TC,TD,TE,TF,TG,rfl,HA,Kn,gZ,dX,bE,bZ,bH,gT,HB⟩:=hrel
              cases gk with
              | zero=>exact absurd HA.out (by simp [bK.l1])
              | succ k5 =>
               have H:=HA.out;clear HA;simp only [bK.l1] at H;have Zo:=am H;clear H
               go_upto_region 20 with (fail)
               go_cut [108] (fun ayV wc=>∃ (kq:Nat) (Ya:Bool),ayV=.bool Ya∧af (bK.j5 kq a0 l1 kH JU Ya a0 mG tL tN tO kG mH nX nY nZ og=some (r1,r2,r3,r4,r5,r6,r7,r8))∧af (kq≤k5)∧af (Kd.R Kd.string 9 wc w.heap.size (fun _=>True) wQ tO)∧af (Kd.R iR 95 wc w.heap.size (fun k_=>k_≠jb) (.slice Cb kG.length CJ) kG)∧af (wc.heap[sV]? = some (.cells #[.int .i64 TB,.string TC,.string TD,.int .i64 TE,(.slice none 0 0),(.slice none 0 0),.int .i64 TF,.int .i64 TG] 64 (0,0)))∧af (wc.heap[mO]? = some (.cells #[.int .i64 vK,.int .i64 wO,.int .i64 vL] 78 (0,0)))∧af (wc.heap[eB]? = some (.cells #[.int .i64 a0,.string mG,.string tL,.int .i64 tN,wQ,(.slice Cb kG.length CJ)] 45 (0,0)))∧af (wc.heap[jb]? = some (.cells #[.int .i64 mH,.string nX,.int .i64 nY,.int .i64 nZ,.string og] 95 (0,0)))∧af (Below w.heap.size w wc))
               case first =>
                have H:=Zo.out;clear Zo
                revert H;refine cB ?_ ?_
                ·intro Hz H
                 (first|rw [Hz]|(simp only [fu,gy];rw [Hz])|skip)
                 replace H:=bo H;obtain ⟨XT,YS,H⟩:=H;have H':=am H;clear H;have aFW:=om.out;have aGH:=ol.out;have aFX:=qh.out;have aGI:=qg.out;have aFY:=GU.out;have aGJ:=GK.out;have aCR:=dC bH
                 go_wp2_with (first|(go_at_call 73;(with_reducible refine (Ji.calls a0 XT _ YS.out).mono ?_);rintro e w' ⟨rfl,⟨nd,rfl⟩⟩))
                 go_meet
                 case rel=>exact ⟨_,(XT),fg,H',⟨by have:=xe.out;have:=cz.out;have:=Cj.out;have:=Km.out;have:=Kn.out;first|omega|exact Nat.le_refl _⟩,⟨rz gZ.out⟩,⟨rz dX.out⟩,⟨ks bE⟩,⟨ks bZ⟩,⟨ks bH⟩,⟨ks gT⟩,⟨bs HB⟩⟩
                ·intro Hz H
                 (first|rw [Hz]|(simp only [fu,gy];rw [Hz])|skip)
                 have H':=am H;clear H;have aFZ:=om.out;have aGK:=ol.out;have aF0:=qh.out;have aGL:=qg.out;have aF1:=GU.out;have aGM:=GK.out;have aCS:=dC bH
                 go_wp2
                 go_meet
                 case rel=>exact ⟨_,(false),fg,H',⟨by have:=xe.out;have:=cz.out;have:=Cj.out;have:=Km.out;have:=Kn.out;first|omega|exact Nat.le_refl _⟩,⟨rz gZ.out⟩,⟨rz dX.out⟩,⟨ks bE⟩,⟨ks bZ⟩,⟨ks bH⟩,⟨ks gT⟩,⟨bs HB⟩⟩
               case rest =>
                clear Zo
                try clear c1
                try clear c7
                try clear uk
                try clear Cz
                try clear EF
                try clear EG
                try clear Ht
                try clear Be
                try clear Lm
                try clear P8
                try clear xL
                try clear wD
                try clear xM
                try clear wE
                try clear Da
                try clear yE
                try clear L9
                try clear Fg
                try clear Dt
                try clear Du
                try clear SB
                try clear Xt
                try clear Dv
                try clear Dw
                try clear SI
                try clear Xz
                obtain ⟨kq,Ya,rfl,HA,UD,gZ,dX,bE,bZ,bH,gT,HB⟩:=hcut
                cases kq with
                | zero=>exact absurd HA.out (by simp [bK.j5])
                | succ IU =>
                 have H:=HA.out;clear HA;simp only [bK.j5] at H
                 obtain rfl|rfl:=bt Ya
                 ·replace H:=dE H
                  revert H;refine bu ?_
                  intro aBm H
                  revert H;refine bu ?_
                  intro aBo H
                  revert H;refine bL ?_ ?_
                  ·intro aq1 aq2 H;replace H:=SY H;obtain ⟨rfl,rfl,rfl,rfl,rfl,rfl,rfl,rfl⟩:=H
                   try go_wp2
                   replace gZ:=am (Kd.dY gZ.out);replace dX:=am (Kd.dY dX.out);replace bE:=am (bg bE.out);replace bZ:=am (bg bZ.out);replace bH:=am (bg bH.out);replace gT:=am (bg gT.out);replace HB:=am (cO HB.out);obtain ⟨avV,av8,apR,aaZ,RA,RB,RD,RF,RG⟩:=wi (rM (Kd.dU dX.out).2.2 JU)
                   cases aaZ
                   refine il 9 (oF bH (EL gT (aJ RA (aJ RB (aJ RD (aJ RF (hc RG))))))) (fun hHeld=>?_);refine gq bK.alk bK.agu (fun HT_ HW_=>?_)
                   generalize wc.drew=w98 at gZ dX bE bZ bH gT HB RA RB RD RF RG hHeld ⊢
                   refine bV 0 ?_;refine bV 2 ?_;refine bV 6 ?_;refine ta 1 ?_;refine jm 3 ?_;refine ta 5 ?_;refine ta 7 ?_;refine bV 8 ?_;refine fq (gp HT_.out (by kernel_rfl)) ?_;have aF3:=GG.out;have aGO:=GI.out;have aFj:=ol.out;have aF4:=om.out;have aFk:=GH.out;have aF5:=GJ.out;have aBI:=HV bE
                   try go_wp2
                   refine bodyPost_ret (results_cell_row rfl _ _ sV 64 #[.int .i64 0,.string (⟨#[]⟩:ByteArray),.string (⟨#[]⟩:ByteArray),.int .i64 0,.slice none 0 0,.slice none 0 0,.int .i64 kH,.int .i64 11] (0,0) _ rfl (kp bE) Tryz.underlying64 rfl (by kernel_rfl)) rfl ?_
                   exact ⟨_,_,ff,by first|exact Kd.qj _ _ _ _ _|exact Kd.uN _ _ _ _ _|exact Kd.uS _ _ _ _ _|exact Kd.uO _ _ _ _ _|exact Kd.qO _ _ _ _ _,by first|exact Kd.qj _ _ _ _ _|exact Kd.uN _ _ _ _ _|exact Kd.uS _ _ _ _ _|exact Kd.uO _ _ _ _ _|exact Kd.qO _ _ _ _ _,bs HB⟩
                  ·intro c97 aq1 aq2 H;have H':=am H;clear H
                   try go_wp2
                   replace gZ:=am (Kd.dY gZ.out);replace dX:=am (Kd.dY dX.out);replace bE:=am (bg bE.out);replace bZ:=am (bg bZ.out);replace bH:=am (bg bH.out);replace gT:=am (bg gT.out);replace HB:=am (cO HB.out);obtain ⟨avV,av8,apR,aaZ,RA,RB,RD,RF,RG⟩:=wi (rM (Kd.dU dX.out).2.2 JU)
                   cases aaZ
                   refine il 9 (oF bH (EL gT (aJ RA (aJ RB (aJ RD (aJ RF (hc RG))))))) (fun hHeld=>?_);refine gq bK.alk bK.agu (fun HT_ HW_=>?_)
                   generalize wc.drew=aJi at gZ dX bE bZ bH gT HB RA RB RD RF RG hHeld ⊢
                   refine bV 0 ?_;refine bV 2 ?_;refine bV 6 ?_;refine ta 1 ?_;refine jm 3 ?_;refine ta 5 ?_;refine ta 7 ?_;refine bV 8 ?_;refine fq (gp HT_.out (by kernel_rfl)) ?_
                   try go_wp2
                   go_roundg IU
                   case measure=>have:=xe.out;have:=cz.out;have:=Cj.out;have:=Km.out;have:=Kn.out;have:=UD.out;omega
                   case rel=>exact ⟨(wrap64 (JU+1)),(TB),(TC),(TD),(TE),(TF),(TG),fg,H',⟨by have:=xe.out;have:=cz.out;have:=Cj.out;have:=Km.out;have:=Kn.out;have:=UD.out;omega⟩,⟨rz gZ.out⟩,⟨rz dX.out⟩,⟨ks bE⟩,⟨ks bZ⟩,⟨ks bH⟩,⟨ks gT⟩,⟨bs HB⟩⟩
                 ·replace H:=dD H;replace H:=bo H;obtain ⟨⟨M6,M7⟩,aen,H⟩:=H;(try dsimp only at H)
                  revert H;refine bu ?_
                  intro agM H
                  revert H;refine bu ?_
                  intro aAV H;replace H:=bo H;obtain ⟨adK,aeo,H⟩:=H
                  obtain rfl|rfl:=bt adK
                  ·replace H:=dE H
                   revert H;refine jE ?_
                   intro c109 H;have aoj:=am c109;clear c109;obtain ⟨aek,acl⟩:∃ y_:List (aY),y_=(kG++[(⟨mH,nX,nY,nZ,og⟩:aY)]):=⟨_,rfl⟩
                   replace H:(bK.l0 IU a0 l1 (wrap64 (kH+1)) a0 mG tL tN tO aek)=some (r1,r2,r3,r4,r5,r6,r7,r8):=ye acl H
                   have apa:=am acl;clear acl;have H':=am H;clear H
                   try go_wp2
                   replace gZ:=am (Kd.dY gZ.out);replace dX:=am (Kd.dY dX.out);replace bE:=am (bg bE.out);replace bZ:=am (bg bZ.out);replace bH:=am (bg bH.out);replace gT:=am (bg gT.out);replace HB:=am (cO HB.out);obtain ⟨avW,av9,aaq,YO,aaL,aa0,Db,zS,QC,Qg⟩:=wi (lv HR1.out kH);have Im:=zS;have Il:=Db;obtain rfl:lY=aaq:=(by injection aa0);replace Db:=cb HB Db;replace zS:=cb HB zS;(try (have ea_:=Option.some.inj ((cb HB mU).symm.trans zS);injection ea_ with ea_ en_ ec_;subst ea_;subst ec_;clear en_));have Ot:=am Qg;have Zh:=am QC;clear Qg QC;refine il 9 (EL gT (aJ (cb HB Il) (hc (cb HB Im)))) (fun hHeld=>?_);refine gq bK.alm bK.agv (fun HT_ HW_=>?_)
                   generalize wc.drew=aJl at gZ dX bE bZ bH gT HB Ot Db zS hHeld ⊢
                   refine bV 0 ?_;refine kZ 3 ?_;refine ta 1 ?_;refine ta 6 ?_;refine oA 2 124 HT_ (fun K hK=>?_);refine gA Tryz.func64 #[.int .i64 a0,.agg #[.int .i64 mH,.string nX,.int .i64 nY,.int .i64 nZ,.string og]] ?_;(with_reducible refine (eF.calls IU a0 mH nX nY nZ og M6 M7 _ aen.out).mono ?_);rintro e aJm ⟨ayZ,rfl,ho0,hb⟩;refine ⟨_,rfl,?_⟩;replace dX:=am (Kd.dK (rs dX) hb);have xm:=am (Kd.mJ (Kd.ug ho0 (Kd.jX (rs gZ))) (bC (bs HB)));replace gZ:=am (Kd.dK (rs gZ) hb);replace bE:=bb bE hb;replace bZ:=bb bZ hb;replace bH:=bb bH hb;replace gT:=bb gT hb;replace HB:=bq HB hb;(try clear hb);(try clear ho0);obtain ⟨amj,arb,ahh⟩:=Kd.kI xm.out
                   (first|subst ahh|(injection ahh with dZ iJ d9;have iK:=dZ.symm;have iL:=d9.symm;clear dZ iJ d9;subst iK;subst iL))
                   refine hK.out _ _ (EL gT (aJ (cb HB Il) (hc (cb HB Im)))).out (fun hHeld=>?_);clear hK K;refine nA 124 ?_;refine oA 7 129 HT_ (fun K hK=>?_);refine gA Tryz.func74 #[.agg #[.string M6,.slice amj M7.length arb],.agg #[.string ((av l1 kH).f0),.slice YO ((av l1 kH).f1).length aaL]] ?_;(with_reducible refine (kL.calls IU M6 _ _ M7 ((av l1 kH).f0) _ _ ((av l1 kH).f1) true _ ?aI ?aW ?lh ?qZ aeo.out).mono ?_)
                   (case aI=>exact sd (Kd.oP xm.out).2.2)
                   (case aW=>exact (Kd.oP xm.out).2.1)
                   (case lh=>exact sd (Kd.bJ Ot.out HB.out))
                   (case qZ=>exact Zh.out)
                   rintro e aJn ⟨rfl,hb⟩;refine ⟨_,rfl,?_⟩;replace gZ:=am (Kd.dK (rs gZ) hb);replace dX:=am (Kd.dK (rs dX) hb);replace xm:=am (Kd.rJ (by (with_reducible repeat (first|apply Kd.fD|apply Kd.fE|apply Kd.dV));exact xm.out) hb);replace bE:=am (aZ (ks bE) hb);replace bZ:=am (aZ (ks bZ) hb);replace bH:=am (aZ (ks bH) hb);replace gT:=am (aZ (ks gT) hb);replace HB:=am (fF (bs HB) hb);(try clear hb);refine hK.out _ _ (EL gT (aJ (cb HB Il) (hc (cb HB Im)))).out (fun hHeld=>?_);clear hK K;refine nA 129 ?_;refine bV 8 ?_;refine fq (gp HT_.out (by kernel_rfl)) ?_;have aFn:=om.out;have aF8:=ol.out;have atv:=qh.out;have atV:=qg.out;have aFo:=GU.out;have aF9:=GK.out;have aBQ:=dC bH;have aFp:=GJ.out;have aGa:=GH.out;have aFq:=UU.out;have aGb:=UT.out;have aBX:=jY gT
                   try go_wp2_with (first|((with_reducible refine pX (b:=.append) (xs:=#[.tmp 134,.tmp 136]) rfl ?_);at_builtin;refine Kd.rH iR (w0:=w) w.heap.size rfl (.tmp 134) (.tmp 136) 43 95 (.agg #[(.int .i64 0),(.string ⟨#[]⟩),(.int .i64 0),(.int .i64 0),(.string ⟨#[]⟩)]) 56 rfl Tryz.underlying43 Xg rfl (by decide) (by omega) (.slice Cb kG.length CJ) kG (⟨mH,nX,nY,nZ,og⟩:aY) [.int .i64 mH,.string nX,.int .i64 nY,.int .i64 nZ,.string og] (fun k_=>k_≠jb) (fun _=>False) rfl rfl ?aP (fun _ hk=>hk.elim) ?aF ?aO ?aB ?aS ?aL ?_;(case aP=>exact Su _ _ _ (⟨mH,nX,nY,nZ,og⟩:aY));(case aB=>exact (bs HB));(case aF=>exact (fun k_ hk=>Kd.sU (g:=jb) (o:=.cells #[.int .i64 mH,.string nX,.int .i64 nY,.int .i64 nZ,.string og] 95 (0,0)) (ks gT) k_ hk));(case aO=>exact (rs dX));(case aS=>exact (bC (bs HB)));(case aL=>have:=aoj.out;omega);intro aIW aJp ho hb hg hat;rw [← apa.out] at ho;replace gZ:=am (Kd.Er (rs gZ) (Kd.GX (rs dX)) (by decide) hg);replace bE:=am (fG (ks bE) hg (Kd.jy dX.out bE.out (by decide)));replace bZ:=am (fG (ks bZ) hg (Kd.jy dX.out bZ.out (by decide)));replace bH:=am (fG (ks bH) hg (Kd.jy dX.out bH.out (by decide)));replace gT:=am (fG (ks gT) hg (Kd.apn dX.out (fun _ hk=>hk)));replace xm:=am (Kd.apC (by (with_reducible repeat (first|apply Kd.fD|apply Kd.fE|apply Kd.dV));exact xm.out) (Kd.GX (rs dX)) (by decide) hg);replace HB:=am (hb);have afb:=am (ho);clear dX;clear ho hb hg hat;obtain ⟨amk,arc,ar2⟩:=Kd.iy afb.out;subst ar2;have aBY:=dC bH))
                   go_roundg IU
                   case measure=>have:=xe.out;have:=cz.out;have:=Cj.out;have:=Km.out;have:=Kn.out;have:=UD.out;omega
                   case rel=>exact ⟨(wrap64 (kH+1)),(TB),(TC),(TD),(TE),(TF),(TG),(tO),(aek),(wQ),(.slice amk aek.length arc),fg,H',⟨by have:=xe.out;have:=cz.out;have:=Cj.out;have:=Km.out;have:=Kn.out;have:=UD.out;omega⟩,⟨Kd.dI (rf (Kd.lK gZ.out bH.out (by decide))) (fun _ hk=>trivial)⟩,⟨Kd.dI (rf (Kd.lK afb.out bH.out (by decide))) (fun _ hk=>trivial)⟩,⟨ks bE⟩,⟨ks bZ⟩,⟨kp bH⟩,⟨bs HB⟩⟩
                  ·replace H:=dD H;replace H:=SY H;obtain ⟨rfl,rfl,rfl,rfl,rfl,rfl,rfl,rfl⟩:=H
                   try go_wp2
                   replace gZ:=am (Kd.dY gZ.out);replace dX:=am (Kd.dY dX.out);replace bE:=am (bg bE.out);replace bZ:=am (bg bZ.out);replace bH:=am (bg bH.out);replace gT:=am (bg gT.out);replace HB:=am (cO HB.out);obtain ⟨avW,av9,aaq,YO,aaL,aa0,Db,zS,QC,Qg⟩:=wi (lv HR1.out kH);have Im:=zS;have Il:=Db;obtain rfl:lY=aaq:=(by injection aa0);replace Db:=cb HB Db;replace zS:=cb HB zS;(try (have ea_:=Option.some.inj ((cb HB mU).symm.trans zS);injection ea_ with ea_ en_ ec_;subst ea_;subst ec_;clear en_));have Ot:=am Qg;have Zh:=am QC;clear Qg QC;refine il 9 (EL gT (aJ (cb HB Il) (hc (cb HB Im)))) (fun hHeld=>?_);refine gq bK.alm bK.agv (fun HT_ HW_=>?_)
                   generalize wc.drew=aJq at gZ dX bE bZ bH gT HB Ot Db zS hHeld ⊢
                   refine bV 0 ?_;refine kZ 3 ?_;refine ta 1 ?_;refine ta 6 ?_;refine oA 2 124 HT_ (fun K hK=>?_);refine gA Tryz.func64 #[.int .i64 a0,.agg #[.int .i64 mH,.string nX,.int .i64 nY,.int .i64 nZ,.string og]] ?_;(with_reducible refine (eF.calls IU a0 mH nX nY nZ og M6 M7 _ aen.out).mono ?_);rintro e aJr ⟨ayZ,rfl,ho0,hb⟩;refine ⟨_,rfl,?_⟩;replace dX:=am (Kd.dK (rs dX) hb);have xm:=am (Kd.mJ (Kd.ug ho0 (Kd.jX (rs gZ))) (bC (bs HB)));replace gZ:=am (Kd.dK (rs gZ) hb);replace bE:=bb bE hb;replace bZ:=bb bZ hb;replace bH:=bb bH hb;replace gT:=bb gT hb;replace HB:=bq HB hb;(try clear hb);(try clear ho0);obtain ⟨aml,ard,ahi⟩:=Kd.kI xm.out
                   (first|subst ahi|(injection ahi with dZ iJ d9;have iK:=dZ.symm;have iL:=d9.symm;clear dZ iJ d9;subst iK;subst iL))
                   refine hK.out _ _ (EL gT (aJ (cb HB Il) (hc (cb HB Im)))).out (fun hHeld=>?_);clear hK K;refine nA 124 ?_;refine oA 7 129 HT_ (fun K hK=>?_);refine gA Tryz.func74 #[.agg #[.string M6,.slice aml M7.length ard],.agg #[.string ((av l1 kH).f0),.slice YO ((av l1 kH).f1).length aaL]] ?_;(with_reducible refine (kL.calls IU M6 _ _ M7 ((av l1 kH).f0) _ _ ((av l1 kH).f1) false _ ?aI ?aW ?lh ?qZ aeo.out).mono ?_)
                   (case aI=>exact sd (Kd.oP xm.out).2.2)
                   (case aW=>exact (Kd.oP xm.out).2.1)
                   (case lh=>exact sd (Kd.bJ Ot.out HB.out))
                   (case qZ=>exact Zh.out)
                   rintro e aJs ⟨rfl,hb⟩;refine ⟨_,rfl,?_⟩;replace gZ:=am (Kd.dK (rs gZ) hb);replace dX:=am (Kd.dK (rs dX) hb);replace xm:=am (Kd.rJ (by (with_reducible repeat (first|apply Kd.fD|apply Kd.fE|apply Kd.dV));exact xm.out) hb);replace bE:=am (aZ (ks bE) hb);replace bZ:=am (aZ (ks bZ) hb);replace bH:=am (aZ (ks bH) hb);replace gT:=am (aZ (ks gT) hb);replace HB:=am (fF (bs HB) hb);(try clear hb);refine hK.out _ _ (EL gT (aJ (cb HB Il) (hc (cb HB Im)))).out (fun hHeld=>?_);clear hK K;refine nA 129 ?_;refine bV 8 ?_;refine fq (gp HT_.out (by kernel_rfl)) ?_;have aFs:=GG.out;have aGd:=GI.out;have aFt:=ol.out;have aGe:=om.out;have aFu:=GH.out;have aGf:=GJ.out;have aB3:=HV bE
                   try go_wp2
                   refine bodyPost_ret (results_cell_row rfl _ _ sV 64 #[.int .i64 0,.string (⟨#[]⟩:ByteArray),.string (⟨#[]⟩:ByteArray),.int .i64 0,.slice none 0 0,.slice none 0 0,.int .i64 kH,.int .i64 3] (0,0) _ rfl (kp bE) Tryz.underlying64 rfl (by kernel_rfl)) rfl ?_
                   exact ⟨_,_,ff,by first|exact Kd.qj _ _ _ _ _|exact Kd.uN _ _ _ _ _|exact Kd.uS _ _ _ _ _|exact Kd.uO _ _ _ _ _|exact Kd.qO _ _ _ _ _,by first|exact Kd.qj _ _ _ _ _|exact Kd.uN _ _ _ _ _|exact Kd.uS _ _ _ _ _|exact Kd.uO _ _ _ _ _|exact Kd.qO _ _ _ _ _,bs HB⟩
      ·intro uk H;replace H:=SY H;obtain ⟨rfl,rfl,rfl,rfl,rfl,rfl,rfl,rfl⟩:=H;have aFv:=om.out;have aGg:=ol.out;have aFw:=qh.out;have aGh:=qg.out;have aB4:=dC bH;obtain ⟨amm,arf,ar3⟩:=Kd.iy dX.out;subst ar3;obtain ⟨amn,arh,ar4⟩:=Kd.iy gZ.out;subst ar4;have aFx:=GG.out;have aGi:=GI.out;have aB5:=HV bE
       go_wp2
       refine bodyPost_ret (results_cell_row rfl _ _ sV 64 #[.int .i64 a0,.string mG,.string tL,.int .i64 tN,.slice amn tO.length arh,.slice amm kG.length arf,.int .i64 0,.int .i64 0] (0,0) _ rfl (kp bE) Tryz.underlying64 rfl (by kernel_rfl)) rfl ?_
       exact ⟨_,_,ff,Kd.dI (rf (Kd.lK gZ.out bE.out (by decide))) (fun _ hk=>trivial),Kd.dI (rf (Kd.lK dX.out bE.out (by decide))) (fun _ hk=>trivial),bs HB⟩
 ·intro c6 gQ pW H;replace H:=SY H;obtain ⟨rfl,rfl,rfl,rfl,rfl,rfl,rfl,rfl⟩:=H
  go_wp2_with (first|((with_reducible refine aN (N:=5) rfl ?_);refine bz 5 (cs:=#[.int .i64 0,.int .i64 0,.int .i64 0]) (t:=78) HB ?_;clear HB;intro mO hg aJt bZ amT hb HB;have GG:=na hg bE;have GI:=nc hg bE;replace bE:=bb bE hb;clear hb hg;have aFy:=GI.out;have aGj:=GG.out;have aB6:=l6 bZ;have aB7:=HV bE))
  refine bodyPost_ret (results_cell_row rfl _ _ sV 64 #[.int .i64 0,.string (⟨#[]⟩:ByteArray),.string (⟨#[]⟩:ByteArray),.int .i64 0,.slice none 0 0,.slice none 0 0,.int .i64 vK,.int .i64 vL] (0,0) _ rfl (kp bE) Tryz.underlying64 rfl (by kernel_rfl)) rfl ?_
  exact ⟨_,_,ff,by first|exact Kd.qj _ _ _ _ _|exact Kd.uN _ _ _ _ _|exact Kd.uS _ _ _ _ _|exact Kd.uO _ _ _ _ _|exact Kd.qO _ _ _ _ _,by first|exact Kd.qj _ _ _ _ _|exact Kd.uN _ _ _ _ _|exact Kd.uS _ _ _ _ _|exact Kd.uO _ _ _ _ _|exact Kd.qO _ _ _ _ _,bs HB⟩
end Go.Proofs.YtapilmimgiaglaaGreatDoor.QA
