import Derived.Test.YtapilmimgiaglaaGreatDoorKFnExactParcelIx12
set_option maxHeartbeats 8000000
set_option maxRecDepth 100000
set_option linter.unusedSimpArgs false
set_option linter.unusedVariables false
namespace Go.Proofs.YtapilmimgiaglaaGreatDoor.QX
open Go.RowKit Go.Proofs.bB.eH Go.Proofs.bB.PrintLast Go.Proofs.bB.PrintMore
attribute [local go_sem] oU o5 oZ o8 oW o7 oV o6
def bW.T4:Bool × List (List Nat × List Nat):=(true,[([],[]),([],[]),([1],[1]),([2],[2]),([3],[3]),([],[]),([5],[5]),([6],[6]),([7,4],[7]),([0,4,8],[0,4,8]),([],[]),([10,9,8,0,1,2,3,4,5,6,7,8,9,10],[9,10])])
def bW.B4:List Nat:=[0,0,2,6,14,0,32,96,254,511,0,2047]
theorem bW.xQ:fD .any (opsOf Tryz.f34 4)=bW.T4:=by kernel_rfl
theorem bW.xg:jg bW.T4.2 bW.B4=true:=by kernel_rfl
def bW.u7:Bool × List (List Nat × List Nat):=(true,[([],[]),([0],[0]),([],[]),([],[]),([2,3],[2,3]),([4],[4]),([5],[5]),([6],[6]),([1,7,6],[1,7]),([0,1,2,3,4,5,6,7,8],[]),([9,8,8,0,1,2,3,4,5,6,7,8],[8,9])])
def bW.Bf:List Nat:=[0,1,0,0,12,28,60,124,255,511,1023]
theorem bW.yI:fD .any (opsOf Tryz.f34 12)=bW.u7:=by kernel_rfl
theorem bW.yf:jg bW.u7.2 bW.Bf=true:=by kernel_rfl
def bW.T22:Bool × List (List Nat × List Nat):=(true,[([],[]),([0],[0]),([],[]),([1,2],[1,2]),([3],[3]),([4],[4]),([],[]),([6],[6]),([5,7],[5,7])])
def bW.B22:List Nat:=[0,1,0,7,15,31,0,64,255]
theorem bW.aoe:fD .any (opsOf Tryz.f34 22)=bW.T22:=by kernel_rfl
theorem bW.ajl:jg bW.T22.2 bW.B22=true:=by kernel_rfl
def bW.T24:Bool × List (List Nat × List Nat):=(true,[([],[]),([],[]),([0,1],[0,1]),([],[]),([],[]),([3,4],[3,4]),([5],[5]),([2,6,2],[2,6]),([7],[7])])
def bW.B24:List Nat:=[0,0,3,0,0,24,56,127,255]
theorem bW.aof:fD .any (opsOf Tryz.f34 24)=bW.T24:=by kernel_rfl
theorem bW.ajm:jg bW.T24.2 bW.B24=true:=by kernel_rfl
theorem bW.calls (k:Nat)(a0:Int)(A1:Option Addr)(c1:Nat)(l1:List bn)(r1:Int)(r2 r3:ByteArray)(r4:Int)(r5:List ByteArray)(r6:List aZ)(r7 r8:Int)(w:World)(hr1:Kd.C kP w A1 l1.length l1)(hc1:l1.length≤c1)(H:bW.f k a0 l1=some (r1,r2,r3,r4,r5,r6,r7,r8)) :
  Calls Tryz.prog 34 #[.int .i64 a0,.slice A1 l1.length c1] w fun e w'=>∃ Jb Jc:Value,e=.returned (.agg #[.int .i64 r1,.string r2,.string r3,.int .i64 r4,Jb,Jc,.int .i64 r7,.int .i64 r8])∧Kd.R Kd.string 9 w' w.heap.size (fun _=>True) Jb r5∧Kd.R iA 95 w' w.heap.size (fun _=>True) Jc r6∧Below w.heap.size w w':=by
 have hu64:=Tryz.underlying64;have amt:=Tryz.underlying78;have r9:=Tryz.underlying62;have xq:=Tryz.underlying45;have Dx:=Tryz.underlying95;have HR1:=am hr1;have uY:=am hc1;clear hr1 hc1;have HB:=am (Below.refl w.heap.size w);unfold bW.f at H;replace H:=bo H;obtain ⟨⟨xO,yH,xP⟩,A3,H⟩:=H;(try dsimp only at H)
 go_in
 try go_wp2_with (first|((with_reducible refine aJ (N:=4) rfl ?_);refine bz 4 (cs:=#[.int .i64 0,.string (⟨#[]⟩:ByteArray),.string (⟨#[]⟩:ByteArray),.int .i64 0,.slice none 0 0,.slice none 0 0,.int .i64 0,.int .i64 0]) (t:=64) HB ?_;clear HB;intro vD hg w4 bM aDH hb HB;clear hb hg))
 go_at_call 68;refine (eu.calls k a0 _ _ l1 xO yH xP _ (Kd.bi HR1.o (bs HB)) uY.o A3.o).mono ?_;rintro e w5 ⟨rfl,hb⟩;replace bM:=bb bM hb;replace HB:=bq HB hb;(try clear hb)
 revert H;refine bH ?_ ?_
 ·intro gu nM H
  revert H;refine qO ?_
  intro c7 kH H;have zV:decide (0<l1.length)=true:=decide_eq_true (by omega);clear c7;replace H:=bo H;obtain ⟨nX,A8,H⟩:=H;replace H:=bo H;obtain ⟨AQ,A9,H⟩:=H;replace H:=bo H;obtain ⟨aaV,ul,H⟩:=H
  try go_wp2_with (first|((with_reducible refine aJ (N:=5) rfl ?_);refine bz 5 (cs:=#[.int .i64 0,.int .i64 0,.int .i64 0]) (t:=78) HB ?_;clear HB;intro oo hg jY dC apJ hb HB;have JS:=na hg bM;have JV:=nc hg bM;replace bM:=bb bM hb;clear hb hg;have aIZ:=JV.o;have aJJ:=JS.o;have zY:=lH dC))
  have cK:=kz (((jY.setCell ⟨oo,0,none⟩ (.int .i64 xO)).setCell ⟨oo,1,none⟩ (.int .i64 yH)).setCell ⟨oo,2,none⟩ (.int .i64 xP)) bM;have cO:af ((((jY.setCell ⟨oo,0,none⟩ (.int .i64 xO)).setCell ⟨oo,1,none⟩ (.int .i64 yH)).setCell ⟨oo,2,none⟩ (.int .i64 xP)).heap[oo]? = some (.cells #[.int .i64 xO,.int .i64 yH,.int .i64 xP] 78 (0,0))):=⟨kp dC⟩;have dw:af (Below w.heap.size w (((jY.setCell ⟨oo,0,none⟩ (.int .i64 xO)).setCell ⟨oo,1,none⟩ (.int .i64 yH)).setCell ⟨oo,2,none⟩ (.int .i64 xP))):=⟨bs HB⟩;(try clear bM);(try clear dC);(try clear HB)
  generalize (((jY.setCell ⟨oo,0,none⟩ (.int .i64 xO)).setCell ⟨oo,1,none⟩ (.int .i64 yH)).setCell ⟨oo,2,none⟩ (.int .i64 xP))=tF at cK cO dw ⊢
  have bM:=cK;have dC:=cO;have HB:=dw;clear cK cO dw;replace bM:=am (bD bM.o);replace dC:=am (bD dC.o);replace HB:=am (cZ HB.o);have FT:0≤(0:Int):=(by omega);have FV:0<(l1.length:Int):=oa;obtain ⟨nu,El,EU,auJ,zw,yx,alr,akU⟩:=kN HR1.o 0 FT FV;have ou:=yx
  (try rw [show ((0:Int)).toNat=0 from rfl] at ou)
  (try rw [show 0 * 2=0 from rfl] at ou)
  (try rw [Addr.add_zero'] at ou)
  have uD:=zw
  (try rw [show ((0:Int)).toNat=0 from rfl] at uD)
  (try rw [show 0 * 2=0 from rfl] at uD)
  (try rw [Addr.add_zero'] at uD)
  cases auJ
  have aLR:(0<l1.length)=True:=eq_true (by omega)
  (try rw [show ((0:Int)).toNat=0 from rfl] at zw)
  (try rw [show 0 * 2=0 from rfl] at zw)
  (try rw [Addr.add_zero'] at zw)
  (try rw [show ((0:Int)).toNat=0 from rfl] at yx)
  (try rw [show 0 * 2=0 from rfl] at yx)
  (try rw [Addr.add_zero'] at yx)
  replace zw:=cb HB zw;replace yx:=cb HB yx;have acw:=am akU;have ahN:=am alr;clear akU alr;replace FT:=eq_true FT;replace FV:=eq_true FV;have FU:0≤(0:Int):=(by omega);have FW:0<(l1.length:Int):=oa;obtain ⟨asN,aC8,aEz,auK,zx,yz,als,akV⟩:=kN HR1.o 0 FU FW;have uF:=yz
  (try rw [show ((0:Int)).toNat=0 from rfl] at uF)
  (try rw [show 0 * 2=0 from rfl] at uF)
  (try rw [Addr.add_zero'] at uF)
  have uE:=zx
  (try rw [show ((0:Int)).toNat=0 from rfl] at uE)
  (try rw [show 0 * 2=0 from rfl] at uE)
  (try rw [Addr.add_zero'] at uE)
  obtain rfl:nu=asN:=(by injection auK);have aLS:(0<l1.length)=True:=eq_true (by omega)
  (try rw [show ((0:Int)).toNat=0 from rfl] at zx)
  (try rw [show 0 * 2=0 from rfl] at zx)
  (try rw [Addr.add_zero'] at zx)
  (try rw [show ((0:Int)).toNat=0 from rfl] at yz)
  (try rw [show 0 * 2=0 from rfl] at yz)
  (try rw [Addr.add_zero'] at yz)
  replace zx:=cb HB zx;replace yz:=cb HB yz;have Yd:=am akV;have ab3:=am als;clear akV als;replace FU:=eq_true FU;replace FW:=eq_true FW;(try (have ea_:=Option.some.inj (yx.symm.trans yz);injection ea_ with ea_ en_ ec_;subst ea_;subst ec_;clear en_));refine gD 12 (aC (cb HB uD) (aC (cb HB ou) (aC (cb HB uE) (hc (cb HB uF))))) (fun hHeld=>?_);refine fu bW.xQ bW.xg (fun HT_ HW_=>?_)
  generalize tF.drew=CG at bM dC HB acw Yd zw yx zx yz hHeld ⊢
  refine jo 0 ?_;refine jU 5 ?_;refine ta 3 ?_;refine ta 7 ?_;refine axZ (σ:=Nat) 1 #[true,true,true,true,true,true,true,true,true,true,true,false] (fun s_=>[(26,.string nX),(30,.int .i64 AQ),(6,.pointer (some ⟨s_,0,none⟩)),(31,.agg #[.int .i64 a0,.string nX,.string (⟨#[]⟩:ByteArray),.int .i64 AQ,.slice none 0 0,.slice none 0 0])]) (fun s_ w'=>(w'.cell? nu=some (.string ((av l1 0).f0))∧w'.cell? ⟨nu.block,nu.off+1,none⟩=some (.slice El ((av l1 0).f1).length EU)∧w'.cell? nu=some (.string ((av l1 0).f0))∧w'.cell? ⟨nu.block,nu.off+1,none⟩=some (.slice El ((av l1 0).f1).length EU))∧(w'.heap[vD]? = some (.cells #[.int .i64 0,.string (⟨#[]⟩:ByteArray),.string (⟨#[]⟩:ByteArray),.int .i64 0,.slice none 0 0,.slice none 0 0,.int .i64 0,.int .i64 0] 64 (0,0)))∧(w'.heap[oo]? = some (.cells #[.int .i64 xO,.int .i64 yH,.int .i64 xP] 78 (0,0)))∧(w'.heap[s_]? = some (.cells #[.int .i64 0,.string (⟨#[]⟩:ByteArray),.string (⟨#[]⟩:ByteArray),.int .i64 0,.slice none 0 0,.slice none 0 0] 45 (0,0)))∧(w.heap.size≤s_)∧(w.heap.size≤s_)∧(vD≠s_)∧(s_≠vD)∧(oo≠s_)∧(s_≠oo)∧(Below w.heap.size w w')) ?_ ?_
  rotate_left
  ·intro hCont;refine aoj (i:=4) (j:=10) (Ni:=some 26) (Nj:=some 6) #[true,true,true,true,true,true,true,true,false,false,false,false] #[true,true,true,true,false,true,true,true,false,false,true,false] rfl rfl rfl rfl (aok HT_.o (by kernel_rfl)) (by decide) (by decide) (fun K hK=>?_) (fun K hK=>?_)
   ·skip
    refine gA Tryz.func69 #[.agg #[.string ((av l1 0).f0),.slice El ((av l1 0).f1).length EU],.int .i64 0,.int .i64 0] ?_;(with_reducible refine (qd.calls ((av l1 0).f0) _ _ ((av l1 0).f1) 0 0 nX _ ?aR ?bg A8.o).mono ?_)
    (case aR=>exact sd (Kd.bi acw.o HB.o))
    (case bg=>exact ahN.o)
    rintro e w16 ⟨rfl,hb⟩;refine ⟨_,rfl,?_⟩;replace bM:=bb bM hb;replace dC:=bb dC hb;replace HB:=bq HB hb;(try clear hb);refine hK.out _ _ (aC (cb HB uD) (aC (cb HB ou) (aC (cb HB uE) (hc (cb HB uF))))).o (fun hHeld=>?_);clear hK K;refine nA 26 ?_;refine aoj (i:=8) (j:=10) (Ni:=some 30) (Nj:=some 6) #[true,true,true,true,true,true,true,true,true,false,false,false] #[true,true,true,true,true,true,true,true,false,false,true,false] rfl rfl rfl rfl (aok HT_.o (by kernel_rfl)) (by decide) (by decide) (fun K hK=>?_) (fun K hK=>?_)
    ·skip
     refine gA Tryz.func70 #[.agg #[.string ((av l1 0).f0),.slice El ((av l1 0).f1).length EU],.int .i64 1] ?_;(with_reducible refine (kQ.calls k ((av l1 0).f0) _ _ ((av l1 0).f1) 1 AQ _ ?aR ?bg A9.o).mono ?_)
     (case aR=>exact sd (Kd.bi Yd.o HB.o))
     (case bg=>exact ab3.o)
     rintro e MN ⟨rfl,hb⟩;refine ⟨_,rfl,?_⟩;replace bM:=bb bM hb;replace dC:=bb dC hb;replace HB:=bq HB hb;(try clear hb);refine hK.out _ _ (aC (cb HB uD) (aC (cb HB ou) (aC (cb HB uE) (hc (cb HB uF))))).o (fun hHeld=>?_);clear hK K;refine nA 30 ?_;refine bQ 9 ?_;refine oA 10 6 HT_ (fun K hK=>?_);refine YN ?hg (N:=6) ?hd (cs:=#[.int .i64 0,.string (⟨#[]⟩:ByteArray),.string (⟨#[]⟩:ByteArray),.int .i64 0,.slice none 0 0,.slice none 0 0]) (t:=45) ?hr ?_;(case hd=>rfl);(case hg=>rfl);(case hr=>first|(go_simp;done)|(go_simp;rfl));intro eZ hg xR hbox hb;have bV:=am (hbox);have kg:=gw hg HB;have Ng:=kg;replace HB:=bq HB hb;have qA:=na hg bM;have qB:=nc hg bM;replace bM:=bb bM hb;have sG:=na hg dC;have sH:=nc hg dC;replace dC:=bb dC hb;clear hb hbox hg;refine hK.out _ _ (aC (cb HB uD) (aC (cb HB ou) (aC (cb HB uE) (hc (cb HB uF))))).o (fun hHeld=>?_);clear hK K;refine nA 6 ?_
     exact Wi (by simp only [LM,Act.put,List.setIfInBounds_toArray,List.set_cons_zero,List.set_cons_succ]) (hCont (eZ) _ ⟨hHeld,(ks bM),(ks dC),(ks bV),kg.o,Ng.o,qA.o,qB.o,sG.o,sH.o,(bs HB)⟩)
    ·skip
     refine YN ?hg (N:=6) ?hd (cs:=#[.int .i64 0,.string (⟨#[]⟩:ByteArray),.string (⟨#[]⟩:ByteArray),.int .i64 0,.slice none 0 0,.slice none 0 0]) (t:=45) ?hr ?_;(case hd=>rfl);(case hg=>rfl);(case hr=>first|(go_simp;done)|(go_simp;rfl));intro eZ hg MN hbox hb;have bV:=am (hbox);have kg:=gw hg HB;have Ng:=kg;replace HB:=bq HB hb;have qA:=na hg bM;have qB:=nc hg bM;replace bM:=bb bM hb;have sG:=na hg dC;have sH:=nc hg dC;replace dC:=bb dC hb;clear hb hbox hg;refine hK.out _ _ (aC (cb HB uD) (aC (cb HB ou) (aC (cb HB uE) (hc (cb HB uF))))).o (fun hHeld=>?_);clear hK K;refine nA 6 ?_;refine oA 8 30 HT_ (fun K hK=>?_);refine gA Tryz.func70 #[.agg #[.string ((av l1 0).f0),.slice El ((av l1 0).f1).length EU],.int .i64 1] ?_;(with_reducible refine (kQ.calls k ((av l1 0).f0) _ _ ((av l1 0).f1) 1 AQ _ ?aR ?bg A9.o).mono ?_)
     (case aR=>exact sd (Kd.bi Yd.o HB.o))
     (case bg=>exact ab3.o)
     rintro e xR ⟨rfl,hb⟩;refine ⟨_,rfl,?_⟩;replace bM:=bb bM hb;replace dC:=bb dC hb;replace bV:=bb bV hb;replace HB:=bq HB hb;(try clear hb);refine hK.out _ _ (aC (cb HB uD) (aC (cb HB ou) (aC (cb HB uE) (hc (cb HB uF))))).o (fun hHeld=>?_);clear hK K;refine nA 30 ?_;refine bQ 9 ?_
     exact Wi (by simp only [LM,Act.put,List.setIfInBounds_toArray,List.set_cons_zero,List.set_cons_succ]) (hCont (eZ) _ ⟨hHeld,(ks bM),(ks dC),(ks bV),kg.o,Ng.o,qA.o,qB.o,sG.o,sH.o,(bs HB)⟩)
   ·skip
    refine YN ?hg (N:=6) ?hd (cs:=#[.int .i64 0,.string (⟨#[]⟩:ByteArray),.string (⟨#[]⟩:ByteArray),.int .i64 0,.slice none 0 0,.slice none 0 0]) (t:=45) ?hr ?_;(case hd=>rfl);(case hg=>rfl);(case hr=>first|(go_simp;done)|(go_simp;rfl));intro eZ hg w16 hbox hb;have bV:=am (hbox);have kg:=gw hg HB;have Ng:=kg;replace HB:=bq HB hb;have qA:=na hg bM;have qB:=nc hg bM;replace bM:=bb bM hb;have sG:=na hg dC;have sH:=nc hg dC;replace dC:=bb dC hb;clear hb hbox hg;refine hK.out _ _ (aC (cb HB uD) (aC (cb HB ou) (aC (cb HB uE) (hc (cb HB uF))))).o (fun hHeld=>?_);clear hK K;refine nA 6 ?_;refine oA 4 26 HT_ (fun K hK=>?_);refine gA Tryz.func69 #[.agg #[.string ((av l1 0).f0),.slice El ((av l1 0).f1).length EU],.int .i64 0,.int .i64 0] ?_;(with_reducible refine (qd.calls ((av l1 0).f0) _ _ ((av l1 0).f1) 0 0 nX _ ?aR ?bg A8.o).mono ?_)
    (case aR=>exact sd (Kd.bi acw.o HB.o))
    (case bg=>exact ahN.o)
    rintro e MN ⟨rfl,hb⟩;refine ⟨_,rfl,?_⟩;replace bM:=bb bM hb;replace dC:=bb dC hb;replace bV:=bb bV hb;replace HB:=bq HB hb;(try clear hb);refine hK.out _ _ (aC (cb HB uD) (aC (cb HB ou) (aC (cb HB uE) (hc (cb HB uF))))).o (fun hHeld=>?_);clear hK K;refine nA 26 ?_;refine oA 8 30 HT_ (fun K hK=>?_);refine gA Tryz.func70 #[.agg #[.string ((av l1 0).f0),.slice El ((av l1 0).f1).length EU],.int .i64 1] ?_;(with_reducible refine (kQ.calls k ((av l1 0).f0) _ _ ((av l1 0).f1) 1 AQ _ ?aR ?bg A9.o).mono ?_)
    (case aR=>exact sd (Kd.bi Yd.o HB.o))
    (case bg=>exact ab3.o)
    rintro e xR ⟨rfl,hb⟩;refine ⟨_,rfl,?_⟩;replace bM:=bb bM hb;replace dC:=bb dC hb;replace bV:=bb bV hb;replace HB:=bq HB hb;(try clear hb);refine hK.out _ _ (aC (cb HB uD) (aC (cb HB ou) (aC (cb HB uE) (hc (cb HB uF))))).o (fun hHeld=>?_);clear hK K;refine nA 30 ?_;refine bQ 9 ?_
    exact Wi (by simp only [LM,Act.put,List.setIfInBounds_toArray,List.set_cons_zero,List.set_cons_succ]) (hCont (eZ) _ ⟨hHeld,(ks bM),(ks dC),(ks bV),kg.o,Ng.o,qA.o,qB.o,sG.o,sH.o,(bs HB)⟩)
  rintro eZ pz ⟨hS_,h0_,h1_,h2_,h3_,h4_,h5_,h6_,h7_,h8_,h9_⟩;have cK:af (pz.heap[vD]? = some (.cells #[.int .i64 0,.string (⟨#[]⟩:ByteArray),.string (⟨#[]⟩:ByteArray),.int .i64 0,.slice none 0 0,.slice none 0 0,.int .i64 0,.int .i64 0] 64 (0,0))):=⟨h0_⟩;have cO:af (pz.heap[oo]? = some (.cells #[.int .i64 xO,.int .i64 yH,.int .i64 xP] 78 (0,0))):=⟨h1_⟩;have dw:af (pz.heap[eZ]? = some (.cells #[.int .i64 0,.string (⟨#[]⟩:ByteArray),.string (⟨#[]⟩:ByteArray),.int .i64 0,.slice none 0 0,.slice none 0 0] 45 (0,0))):=⟨h2_⟩;have iB:af (w.heap.size≤eZ):=⟨h3_⟩;have nG:af (w.heap.size≤eZ):=⟨h4_⟩;have wR:af (vD≠eZ):=⟨h5_⟩;have zG:af (eZ≠vD):=⟨h6_⟩;have Wh:af (oo≠eZ):=⟨h7_⟩;have n8_:af (eZ≠oo):=⟨h8_⟩;have n9_:af (Below w.heap.size w pz):=⟨h9_⟩;clear bM;clear dC;clear HB;clear h0_ h1_ h2_ h3_ h4_ h5_ h6_ h7_ h8_ h9_;have bM:=cK;have dC:=cO;have bV:=dw;have kg:=iB;have Ng:=nG;have qA:=wR;have qB:=zG;have sG:=Wh;have sH:=n8_;have HB:=n9_;clear cK cO dw iB nG wR zG Wh n8_ n9_;have hHeld:pz.cell? nu=some (.string ((av l1 0).f0))∧pz.cell? ⟨nu.block,nu.off+1,none⟩=some (.slice El ((av l1 0).f1).length EU)∧pz.cell? nu=some (.string ((av l1 0).f0))∧pz.cell? ⟨nu.block,nu.off+1,none⟩=some (.slice El ((av l1 0).f1).length EU):=hS_;refine Wi (a':=?_) ?_ ?_
  rotate_left
  ·simp only [LM,Act.put,List.setIfInBounds_toArray,List.set_cons_zero,List.set_cons_succ]
   rfl
  refine o9 (i:=11) (N:=none) #[true,true,true,true,true,true,true,true,true,true,true,true] rfl rfl (xH HT_.o (by kernel_rfl)) (by decide) (fun K hK=>?_);have aK7:pz.cell? ⟨eZ,0,none⟩=some (.int .i64 0):=(aA bV.o 0).trans rfl;have aGI:=bu bV.o 0;have aKp:=qA.o;have aKq:=sG.o;have aId:=qB.o;have aIe:=sH.o;have aK8:pz.cell? ⟨eZ,1,none⟩=some (.string (⟨#[]⟩:ByteArray)):=(aA bV.o 1).trans rfl;have aGJ:=bu bV.o 1;have aKr:=qA.o;have aKs:=sG.o;have aIf:=qB.o;have aIg:=sH.o;have aK9:pz.cell? ⟨eZ,2,none⟩=some (.string (⟨#[]⟩:ByteArray)):=(aA bV.o 2).trans rfl;have aGK:=bu bV.o 2;have aKt:=qA.o;have aKu:=sG.o;have aIh:=qB.o;have aIi:=sH.o;have aLa:pz.cell? ⟨eZ,3,none⟩=some (.int .i64 0):=(aA bV.o 3).trans rfl;have aGL:=bu bV.o 3;have aKv:=qA.o;have aKw:=sG.o;have aIj:=qB.o;have aIk:=sH.o;have aLb:pz.cell? ⟨eZ,4,none⟩=some (.slice none 0 0):=(aA bV.o 4).trans rfl;have aGM:=bu bV.o 4;have aKx:=qA.o;have aKy:=sG.o;have aIl:=qB.o;have aIm:=sH.o;have aLc:pz.cell? ⟨eZ,5,none⟩=some (.slice none 0 0):=(aA bV.o 5).trans rfl;have aGN:=bu bV.o 5;have aKz:=qA.o;have aKA:=sG.o;have aIn:=qB.o;have aIo:=sH.o;refine xJ (w1:=?_) (by rfl) rfl ?_ ?_
  rotate_left
  ·go_simp
   rfl
  refine hK.out _ _ ⟨((cell_far (p:=⟨eZ,_,none⟩) (by exact nl uD kg) _).trans (((cell_far (p:=⟨eZ,_,none⟩) (by exact nl uD kg) _).trans (((cell_far (p:=⟨eZ,_,none⟩) (by exact nl uD kg) _).trans (((cell_far (p:=⟨eZ,_,none⟩) (by exact nl uD kg) _).trans (((cell_far (p:=⟨eZ,_,none⟩) (by exact nl uD kg) _).trans (((cell_far (p:=⟨eZ,_,none⟩) (by exact nl uD kg) _).trans (hHeld.1)))))))))))),((cell_far (p:=⟨eZ,_,none⟩) (by exact nl ou kg) _).trans (((cell_far (p:=⟨eZ,_,none⟩) (by exact nl ou kg) _).trans (((cell_far (p:=⟨eZ,_,none⟩) (by exact nl ou kg) _).trans (((cell_far (p:=⟨eZ,_,none⟩) (by exact nl ou kg) _).trans (((cell_far (p:=⟨eZ,_,none⟩) (by exact nl ou kg) _).trans (((cell_far (p:=⟨eZ,_,none⟩) (by exact nl ou kg) _).trans (hHeld.2.1)))))))))))),((cell_far (p:=⟨eZ,_,none⟩) (by exact nl uE kg) _).trans (((cell_far (p:=⟨eZ,_,none⟩) (by exact nl uE kg) _).trans (((cell_far (p:=⟨eZ,_,none⟩) (by exact nl uE kg) _).trans (((cell_far (p:=⟨eZ,_,none⟩) (by exact nl uE kg) _).trans (((cell_far (p:=⟨eZ,_,none⟩) (by exact nl uE kg) _).trans (((cell_far (p:=⟨eZ,_,none⟩) (by exact nl uE kg) _).trans (hHeld.2.2.1)))))))))))),((cell_far (p:=⟨eZ,_,none⟩) (by exact nl uF kg) _).trans (((cell_far (p:=⟨eZ,_,none⟩) (by exact nl uF kg) _).trans (((cell_far (p:=⟨eZ,_,none⟩) (by exact nl uF kg) _).trans (((cell_far (p:=⟨eZ,_,none⟩) (by exact nl uF kg) _).trans (((cell_far (p:=⟨eZ,_,none⟩) (by exact nl uF kg) _).trans (((cell_far (p:=⟨eZ,_,none⟩) (by exact nl uF kg) _).trans (hHeld.2.2.2))))))))))))⟩ (fun hHeld=>?_);clear hK K;refine ek (fo HT_.o (by kernel_rfl)) ?_
  try go_wp2_with (fail)
  go_at_call 62;refine (DX.calls a0 aaV _ ul.o).mono ?_;rintro e w' ⟨rfl,⟨nd,rfl⟩⟩;have ab0:=am H;clear H
  go_upto_if 33 with (fail)
  go_cut [] (fun wc=>∃ (kq:Nat) (vO:ByteArray) (vP:Int),af (bW.j0 kq a0 l1 a0 nX vO vP=some (r1,r2,r3,r4,r5,r6,r7,r8))∧af (kq≤k)∧af (wc.heap[vD]? = some (.cells #[.int .i64 0,.string (⟨#[]⟩:ByteArray),.string (⟨#[]⟩:ByteArray),.int .i64 0,(.slice none 0 0),(.slice none 0 0),.int .i64 0,.int .i64 0] 64 (0,0)))∧af (wc.heap[oo]? = some (.cells #[.int .i64 xO,.int .i64 yH,.int .i64 xP] 78 (0,0)))∧af (wc.heap[eZ]? = some (.cells #[.int .i64 a0,.string nX,.string vO,.int .i64 vP,(.slice none 0 0),(.slice none 0 0)] 45 (0,0)))∧af (Below w.heap.size w wc))
  case first =>
   have H:=ab0.o;clear ab0
   obtain rfl|rfl:=bt aaV
   ·replace H:=dm H;replace H:=bo H;obtain ⟨Mg,CW,H⟩:=H;replace H:=bo H;obtain ⟨aaW,A29,H⟩:=H;have H':=am H;clear H;have af4:0≤(0:Int):=(by omega);have agf:0<(l1.length:Int):=oa;obtain ⟨asO,aC9,aEA,auL,qM,uG,alu,akW⟩:=kN HR1.o 0 af4 agf;obtain rfl:nu=asO:=(by injection auL);have aLT:(0<l1.length)=True:=eq_true (by omega)
    (try rw [show ((0:Int)).toNat=0 from rfl] at qM)
    (try rw [show 0 * 2=0 from rfl] at qM)
    (try rw [Addr.add_zero'] at qM)
    (try rw [show ((0:Int)).toNat=0 from rfl] at uG)
    (try rw [show 0 * 2=0 from rfl] at uG)
    (try rw [Addr.add_zero'] at uG)
    have aej:nu.block≠eZ:=nl qM kg;have aek:nu.block≠eZ:=nl qM kg;have ael:nu.block≠eZ:=nl qM kg;have aem:nu.block≠eZ:=nl qM kg;have aen:nu.block≠eZ:=nl qM kg;have aeo:nu.block≠eZ:=nl qM kg;replace qM:=cb HB qM;replace uG:=cb HB uG;(try (have ea_:=Option.some.inj ((cb HB ou).symm.trans uG);injection ea_ with ea_ en_ ec_;subst ea_;subst ec_;clear en_));have aqV:=am akW;have apZ:=am alu;clear akW alu;replace qM:=(cell_far (p:=⟨eZ,0,none⟩) (by exact nz aej) (.int .i64 a0)).trans qM;replace uG:=(cell_far (p:=⟨eZ,0,none⟩) (by exact nz aej) (.int .i64 a0)).trans uG;replace qM:=(cell_far (p:=⟨eZ,1,none⟩) (by exact nz aek) (.string nX)).trans qM;replace uG:=(cell_far (p:=⟨eZ,1,none⟩) (by exact nz aek) (.string nX)).trans uG;replace qM:=(cell_far (p:=⟨eZ,2,none⟩) (by exact nz ael) (.string (⟨#[]⟩:ByteArray))).trans qM;replace uG:=(cell_far (p:=⟨eZ,2,none⟩) (by exact nz ael) (.string (⟨#[]⟩:ByteArray))).trans uG;replace qM:=(cell_far (p:=⟨eZ,3,none⟩) (by exact nz aem) (.int .i64 AQ)).trans qM;replace uG:=(cell_far (p:=⟨eZ,3,none⟩) (by exact nz aem) (.int .i64 AQ)).trans uG;replace qM:=(cell_far (p:=⟨eZ,4,none⟩) (by exact nz aen) (.slice none 0 0)).trans qM;replace uG:=(cell_far (p:=⟨eZ,4,none⟩) (by exact nz aen) (.slice none 0 0)).trans uG;replace qM:=(cell_far (p:=⟨eZ,5,none⟩) (by exact nz aeo) (.slice none 0 0)).trans qM;replace uG:=(cell_far (p:=⟨eZ,5,none⟩) (by exact nz aeo) (.slice none 0 0)).trans uG;clear aej;clear aek;clear ael;clear aem;clear aen;clear aeo;replace af4:=eq_true af4;replace agf:=eq_true agf
    go_wp2_with (first|((go_at_call 69;refine (qd.calls ((av l1 0).f0) _ _ ((av l1 0).f1) 1 0 Mg _ ?aR apZ.o CW.o).mono ?_;(case aR=>exact Kd.bi aqV.o (bs HB));rintro e uk ⟨rfl,hb⟩);replace bM:=bb bM hb;replace dC:=bb dC hb;replace bV:=am (aU (g:=eZ) (o:=.cells #[.int .i64 a0,.string nX,.string (⟨#[]⟩:ByteArray),.int .i64 AQ,.slice none 0 0,.slice none 0 0] 45 (0,0)) (kp bV) hb);replace HB:=bq HB hb;(try clear hb);have UG:=qB.o;have UK:=qA.o;have aey:=sH.o;have aeE:=sG.o;have ZM:=dO bV;have af5:0≤(0:Int):=(by omega);have agh:0<(l1.length:Int):=oa;obtain ⟨asP,aDa,aEB,auM,Ii,Ij,alv,akX⟩:=kN HR1.o 0 af5 agh;obtain rfl:nu=asP:=(by injection auM);have aLU:(0<l1.length)=True:=eq_true (by omega);(try rw [show ((0:Int)).toNat=0 from rfl] at Ii);(try rw [show 0 * 2=0 from rfl] at Ii);(try rw [Addr.add_zero'] at Ii);(try rw [show ((0:Int)).toNat=0 from rfl] at Ij);(try rw [show 0 * 2=0 from rfl] at Ij);(try rw [Addr.add_zero'] at Ij);have aep:nu.block≠eZ:=nl Ii kg;replace Ii:=cb HB Ii;replace Ij:=cb HB Ij;(try (have ea_:=Option.some.inj ((cb HB ou).symm.trans Ij);injection ea_ with ea_ en_ ec_;subst ea_;subst ec_;clear en_));have aqW:=am akX;have ap0:=am alv;clear akX alv;replace Ii:=(cell_far (p:=⟨eZ,2,none⟩) (by exact nz aep) (.string Mg)).trans Ii;replace Ij:=(cell_far (p:=⟨eZ,2,none⟩) (by exact nz aep) (.string Mg)).trans Ij;clear aep;replace af5:=eq_true af5;replace agh:=eq_true agh)|((go_at_call 70;refine (kQ.calls k ((av l1 0).f0) _ _ ((av l1 0).f1) 2 aaW _ ?aR ap0.o A29.o).mono ?_;(case aR=>exact Kd.bi aqW.o (bs HB));rintro e CO ⟨rfl,hb⟩);replace bM:=bb bM hb;replace dC:=bb dC hb;replace bV:=am (aU (g:=eZ) (o:=.cells #[.int .i64 a0,.string nX,.string Mg,.int .i64 AQ,.slice none 0 0,.slice none 0 0] 45 (0,0)) (kp bV) hb);replace HB:=bq HB hb;(try clear hb);have ZN:=dO bV))
    go_meet
    case rel=>exact ⟨_,(Mg),(aaW),H',⟨fl⟩,⟨ks bM⟩,⟨ks dC⟩,⟨kp bV⟩,⟨bs HB⟩⟩
   ·replace H:=di H;have H':=am H;clear H
    go_wp2
    go_meet
    case rel=>exact ⟨_,((⟨#[]⟩:ByteArray)),(AQ),H',⟨fl⟩,⟨ks bM⟩,⟨ks dC⟩,⟨kp bV⟩,⟨bs HB⟩⟩
  case rest =>
   clear ab0
   try clear c1
   try clear c7
   try clear zY
   try clear zw
   try clear yx
   try clear zx
   try clear yz
   try clear FT
   try clear FU
   try clear FV
   try clear FW
   obtain ⟨kq,vO,vP,HA,yT,bM,dC,bV,HB⟩:=hcut
   cases kq with
   | zero=>exact absurd HA.o (by simp [bW.j0])
   | succ am9 =>
    have H:=HA.o;clear HA;simp only [bW.j0] at H;have H':=am H;clear H
    go_wp2
    go_loopg [7] am9 (fun kq v7 w'=>∃ (lG:Int) (Qj:Int) (Qk:ByteArray) (Ql:ByteArray) (Qm:Int) (Qn:Int) (Qo:Int) (vQ:List ByteArray) (lF:List aZ) (yK:Value) (aa7:Value),v7=.int .i64 lG∧af (bW.l0 kq a0 l1 lG a0 nX vO vP vQ lF=some (r1,r2,r3,r4,r5,r6,r7,r8))∧af (kq≤am9)∧af (Kd.R Kd.string 9 w' w.heap.size (fun _=>True) yK vQ)∧af (Kd.R iA 95 w' w.heap.size (fun _=>True) aa7 lF)∧af (w'.heap[vD]? = some (.cells #[.int .i64 Qj,.string Qk,.string Ql,.int .i64 Qm,(.slice none 0 0),(.slice none 0 0),.int .i64 Qn,.int .i64 Qo] 64 (0,0)))∧af (w'.heap[oo]? = some (.cells #[.int .i64 xO,.int .i64 yH,.int .i64 xP] 78 (0,0)))∧af (w'.heap[eZ]? = some (.cells #[.int .i64 a0,.string nX,.string vO,.int .i64 vP,yK,aa7] 45 (0,0)))∧af (Below w.heap.size w w'))
    case atStart=>exact ⟨(1),(0),((⟨#[]⟩:ByteArray)),((⟨#[]⟩:ByteArray)),(0),(0),(0),(([]:List ByteArray)),(([]:List aZ)),(.slice none 0 0),(.slice none 0 0),fg,H',⟨Nat.le_refl _⟩,⟨by first|exact Kd.rq _ _ _ _ _|exact Kd.uZ _ _ _ _ _|exact Kd.vk _ _ _ _ _|exact Kd.u6 _ _ _ _ _|exact Kd.rX _ _ _ _ _⟩,⟨by first|exact Kd.rq _ _ _ _ _|exact Kd.uZ _ _ _ _ _|exact Kd.vk _ _ _ _ _|exact Kd.u6 _ _ _ _ _|exact Kd.rX _ _ _ _ _⟩,⟨ks bM⟩,⟨ks dC⟩,⟨ks bV⟩,⟨bs HB⟩⟩
    case round =>
     clear H'
     try clear c1
     try clear c7
     try clear zY
     try clear zw
     try clear yx
     try clear zx
     try clear yz
     try clear FT
     try clear FU
     try clear FV
     try clear FW
     try clear bM
     try clear dC
     try clear bV
     obtain ⟨lG,Qj,Qk,Ql,Qm,Qn,Qo,vQ,lF,yK,aa7,rfl,HA,dD,iF,eP,bM,dC,bV,HB⟩:=hrel
     cases gk with
     | zero=>exact absurd HA.o (by simp [bW.l0])
     | succ k2 =>
      have H:=HA.o;clear HA;simp only [bW.l0] at H
      revert H;refine bK ?_ ?_
      ·intro wm H
       revert H;refine bv ?_
       intro ET H
       revert H;refine bH ?_ ?_
       ·intro Hf Kv H;replace H:=bo H;obtain ⟨PZ,A39,H⟩:=H
        revert H;refine ku ?_
        intro c40 H;have arx:=am c40;clear c40;obtain ⟨aha,afg⟩:∃ y_:List ByteArray,y_=(vQ++[PZ]):=⟨_,rfl⟩
        replace H:(bW.l0 k2 a0 l1 (wrap64 (lG+1)) a0 nX vO vP aha lF)=some (r1,r2,r3,r4,r5,r6,r7,r8):=ye afg H
        have asa:=am afg;clear afg;have H':=am H;clear H;obtain ⟨Wl,Ws,ac3,ao2,atP,adJ,Fw,Aj,Us,TR⟩:=wi (kN HR1.o lG);obtain rfl:nu=ac3:=(by injection adJ);replace Fw:=cb HB Fw;replace Aj:=cb HB Aj;(try (have ea_:=Option.some.inj ((cb HB ou).symm.trans Aj);injection ea_ with ea_ en_ ec_;subst ea_;subst ec_;clear en_));have aqX:=am TR;have ap1:=am Us;clear TR Us
        try go_wp2
        replace iF:=am (Kd.eO iF.o);replace eP:=am (Kd.eO eP.o);replace bM:=am (bD bM.o);replace dC:=am (bD dC.o);replace bV:=am (bD bV.o);replace HB:=am (cZ HB.o);obtain ⟨aLN,aLP,asR,ao3,atQ,auN,aae,Vu,alx,akY⟩:=wi (kN HR1.o lG);have Vp:=Vu;have Vo:=aae;obtain rfl:nu=asR:=(by injection auN);replace aae:=cb HB aae;replace Vu:=cb HB Vu;(try (have ea_:=Option.some.inj ((cb HB ou).symm.trans Vu);injection ea_ with ea_ en_ ec_;subst ea_;subst ec_;clear en_));have ah9:=am akY;have ap2:=am alx;clear akY alx;refine CE 11 [10] (qJ bV (aC (cb HB Vo) (hc (cb HB Vp)))) (fun hHeld=>?_);refine fu bW.yI bW.yf (fun HT_ HW_=>?_)
        generalize wr.drew=w41 at iF eP bM dC bV HB ah9 aae Vu hHeld ⊢
        refine bQ 0 ?_;refine jo 2 ?_;refine ta 1 ?_;refine ta 5 ?_;refine oA 6 62 HT_ (fun K hK=>?_);refine gA Tryz.func69 #[.agg #[.string ((av l1 lG).f0),.slice ao3 ((av l1 lG).f1).length atQ],.int .i64 0,.int .i64 0] ?_;(with_reducible refine (qd.calls ((av l1 lG).f0) _ _ ((av l1 lG).f1) 0 0 PZ _ ?aR ?bg A39.o).mono ?_)
        (case aR=>exact sd (Kd.bi ah9.o HB.o))
        (case bg=>exact ap2.o)
        rintro e vN ⟨rfl,hb⟩;refine ⟨_,rfl,?_⟩;replace iF:=am (Kd.cu (rs iF) hb);replace eP:=am (Kd.cu (rs eP) hb);replace bM:=bb bM hb;replace dC:=bb dC hb;replace bV:=bb bV hb;replace HB:=bq HB hb;(try clear hb);refine hK.out _ _ (qJ bV (aC (cb HB Vo) (hc (cb HB Vp)))).o (fun hHeld=>?_);clear hK K;refine nA 62 ?_;refine oA 7 63 HT_ (fun K hK=>?_);refine F8 (w1:=?_) (v:=?_) (by rfl) rfl ?_ ?_
        rotate_left 2
        ·go_simp
         constructor
         ·rfl
         ·rfl
        refine hK.out _ _ ⟨(aA (eY bV.o _) 0).trans rfl,(aA (eY bV.o _) 1).trans rfl,(aA (eY bV.o _) 2).trans rfl,(aA (eY bV.o _) 3).trans rfl,(aA (eY bV.o _) 4).trans rfl,(aA (eY bV.o _) 5).trans rfl,(World.cell?_alloc_lt _ _ _ (World.block_lt_of_cell? _ _ (((cb HB Vo).trans rfl)))).trans (((cb HB Vo).trans rfl)),(World.cell?_alloc_lt _ _ _ (World.block_lt_of_cell? _ _ (((cb HB Vp).trans rfl)))).trans (((cb HB Vp).trans rfl))⟩ (fun hHeld=>?_);clear hK K;refine nA 63 ?_;refine oA 8 64 HT_ (fun K hK=>?_);refine Kd.Yp Kd.string (w0:=w) w.heap.size (by rfl) (.tmp 57) (.tmp 63) 42 9 (.string ⟨#[]⟩) 16 rfl Tryz.underlying42 zC rfl (by decide) (by omega) yK vQ PZ [.string PZ] (fun _=>True) (fun _=>False) rfl rfl ?aP (fun _ hk=>hk.elim) ?aF ?aO ?aB ?aS ?aL ?_
        (case aP=>exact rfl)
        (case aB=>exact (bs HB))
        (case aF=>exact (fun _ _=>trivial))
        (case aO=>exact (rs iF))
        (case aS=>exact (bJ (bs HB)))
        (case aL=>have:=arx.o;omega)
        intro aMt Qe ho hb hg hat
        rw [← asa.o] at ho
        replace eP:=am (Kd.GM (rs eP) (Kd.J9 (rs iF)) (by decide) hg);replace bM:=am (fV (ks bM) hg (Kd.ko iF.o bM.o (by decide)));replace dC:=am (fV (ks dC) hg (Kd.ko iF.o dC.o (by decide)));replace bV:=am (fV (ks bV) hg (Kd.ko iF.o bV.o (by decide)));replace HB:=am (hb);have ah4:=am (ho);clear iF;clear ho hb hg hat;obtain ⟨ahx,ajY,S9⟩:=Kd.gW ah4.o
        (first|subst S9|(injection S9 with fO jy fP;have jA:=fO.symm;have jB:=fP.symm;clear fO jy fP;subst jA;subst jB))
        refine hK.out _ _ (qJ bV (aC (cb HB Vo) (hc (cb HB Vp)))).o (fun hHeld=>?_);clear hK K;refine nA 64 ?_;refine bQ 9 ?_;refine IB (i:=10) (N:=none) #[true,true,true,true,true,true,true,true,true,true,true] rfl rfl (xH HT_.o (by kernel_rfl)) (by decide) (fun K hK=>?_);have axv:Qe.cell? ⟨eZ,4,none⟩=some (yK):=(aA bV.o 4).trans rfl;have awv:=bu bV.o 4;have axr:=qA.o;have aKK:=sG.o;have awG:=qB.o;have aIy:=sH.o;refine xJ (w1:=?_) (by rfl) rfl ?_ ?_
        rotate_left
        ·go_simp
         rfl
        refine hK.out _ _ ?_;clear hK K;refine ek (fo HT_.o (by kernel_rfl)) ?_
        try go_wp2
        go_roundg k2
        case measure=>have:=yT.o;have:=dD.o;omega
        case rel=>exact ⟨(wrap64 (lG+1)),(Qj),(Qk),(Ql),(Qm),(Qn),(Qo),(aha),(lF),(.slice ahx aha.length ajY),(aa7),fg,H',⟨by have:=yT.o;have:=dD.o;omega⟩,⟨Kd.dE (rf (Kd.mi ah4.o bV.o (by decide))) (fun _ hk=>trivial)⟩,⟨Kd.dE (rf (Kd.mi eP.o bV.o (by decide))) (fun _ hk=>trivial)⟩,⟨ks bM⟩,⟨ks dC⟩,⟨kp bV⟩,⟨bs HB⟩⟩
       ·intro He Hf Kv H;replace H:=bo H;obtain ⟨⟨nY,qf,qj,ql,qm⟩,A46,H⟩:=H;(try dsimp only at H);obtain ⟨Wl,Ws,ac3,ao2,atP,adJ,Fw,Aj,Us,TR⟩:=wi (kN HR1.o lG);obtain rfl:nu=ac3:=(by injection adJ);replace Fw:=cb HB Fw;replace Aj:=cb HB Aj;(try (have ea_:=Option.some.inj ((cb HB ou).symm.trans Aj);injection ea_ with ea_ en_ ec_;subst ea_;subst ec_;clear en_));have aqX:=am TR;have ap1:=am Us;clear TR Us;obtain ⟨aaE,aaH,asS,aDb,aEC,auO,O4,Ik,aly,akZ⟩:=wi (kN HR1.o lG);obtain rfl:nu=asS:=(by injection auO);replace O4:=cb HB O4;replace Ik:=cb HB Ik;(try (have ea_:=Option.some.inj ((cb HB ou).symm.trans Ik);injection ea_ with ea_ en_ ec_;subst ea_;subst ec_;clear en_));have aqY:=am akZ;have ap3:=am aly;clear akZ aly;(try (have ea_:=Option.some.inj (Aj.symm.trans Ik);injection ea_ with ea_ en_ ec_;subst ea_;subst ec_;clear en_))
        try go_wp2_with (fail)
        go_at_call 71;refine (jJ.calls k2 a0 ((av l1 lG).f0) _ _ ((av l1 lG).f1) nY qf qj ql qm _ (Kd.bi aqY.o (bs HB)) ap3.o A46.o).mono ?_;rintro e WW ⟨rfl,hb⟩;replace iF:=am (Kd.cu (rs iF) hb);replace eP:=am (Kd.cu (rs eP) hb);replace bM:=bb bM hb;replace dC:=bb dC hb;replace bV:=bb bV hb;replace HB:=bq HB hb;(try clear hb);have ab6:=am H;clear H
        go_upto_if 75 with (first|((with_reducible refine aJ (N:=8) rfl ?_);refine bx 8 (cs:=#[.int .i64 0,.string (⟨#[]⟩:ByteArray),.int .i64 0,.int .i64 0,.string (⟨#[]⟩:ByteArray)]) (t:=95) ?_;intro jF hg Qf hbox hb;replace iF:=am (Kd.cu (rs iF) hb);replace eP:=am (Kd.cu (Kd.aiW (rs eP) jF (Nat.le_of_eq hg.symm)) hb);have iw:=am (hbox);have aDI:=gw hg HB;replace HB:=bq HB hb;have JU:=na hg bM;have JW:=nc hg bM;replace bM:=bb bM hb;have Yh:=na hg dC;have Yi:=nc hg dC;replace dC:=bb dC hb;have J7:=na hg bV;have JX:=nc hg bV;replace bV:=bb bV hb;clear hb hbox hg;have awW:=JW.o;have axi:=JU.o;have awX:=Yi.o;have axj:=Yh.o;have awY:=JX.o;have axk:=J7.o;have Ow:=kW iw;have al9:=qB.o;have amk:=qA.o;have ama:=sH.o;have aml:=sG.o;have TD:=dO bV;obtain ⟨Eo,EY,avj⟩:=Kd.gW eP.o;subst avj))
        (try simp only [Act.put,List.setIfInBounds_toArray,List.set_cons_zero,List.set_cons_succ])
        go_cut [9] (fun v9 wc=>∃ (kq:Nat) (ag7:Int),v9=.int .i64 ag7∧af (bW.j2 kq a0 l1 lG ag7 a0 nX vO vP vQ lF nY qf qj ql qm=some (r1,r2,r3,r4,r5,r6,r7,r8))∧af (kq≤k2)∧af (Kd.R Kd.string 9 wc w.heap.size (fun _=>True) yK vQ)∧af (Kd.R iA 95 wc w.heap.size (fun k_=>k_≠jF) (.slice Eo lF.length EY) lF)∧af (wc.heap[vD]? = some (.cells #[.int .i64 Qj,.string Qk,.string Ql,.int .i64 Qm,(.slice none 0 0),(.slice none 0 0),.int .i64 Qn,.int .i64 Qo] 64 (0,0)))∧af (wc.heap[oo]? = some (.cells #[.int .i64 xO,.int .i64 yH,.int .i64 xP] 78 (0,0)))∧af (wc.heap[eZ]? = some (.cells #[.int .i64 a0,.string nX,.string vO,.int .i64 vP,yK,(.slice Eo lF.length EY)] 45 (0,0)))∧af (wc.heap[jF]? = some (.cells #[.int .i64 nY,.string qf,.int .i64 qj,.int .i64 ql,.string qm] 95 (0,0)))∧af (Below w.heap.size w wc))
        case first =>
         have H:=ab6.o;clear ab6
         revert H;refine gT ?_ ?_
         ·intro Su H;have Kw:decide (0<(lF.length:Int))=true:=decide_eq_true Su;have adA:decide (0<lF.length)=true:=decide_eq_true (by omega);clear Su
          (first|rw [Kw]|(simp only [fC,gK];rw [Kw])|rw [adA]|skip)
          obtain ⟨Pw,ZU⟩:∃ j_:Int,(wrap64 ((lF.length:Int) - 1))=j_:=⟨_,rfl⟩
          replace H:(if 0≤(Pw) then (if (Pw)<(lF.length:Int) then (bW.j2 k2 a0 l1 lG ((ai lF (Pw)).f0) a0 nX vO vP vQ lF nY qf qj ql qm) else none) else none)=some (r1,r2,r3,r4,r5,r6,r7,r8):=by first|(rw [ZU] at H;exact H)|(simp only [ZU] at H ⊢;exact H)
          have aH7:(IntKind.i64.wrap ((lF.length:Int) - 1))=Pw:=(fC _).trans ZU
          revert H;refine bv ?_
          intro aEI H
          revert H;refine bv ?_
          intro aEJ H;have H':=am H;clear H;have amb:=qB.o;have amm:=qA.o;have aJj:=sH.o;have aJ3:=sG.o;have aJk:=J7.o;have aJ4:=JX.o;have aGc:=dO bV;obtain ⟨aLO,aLQ,RU,auP,Dz,DC,DD,DF,DI⟩:=wi (uA (Kd.dH eP.o).2.2 (Pw))
          cases auP
          have Oz:RU.block≠jF:=Kd.PH ((by first|exact Kd.ko eP.o iw.o (by decide)|exact fun e_=>(eP.o.1 _ e_.symm).2 rfl|exact fun e_=>(eP.o.1 _ e_.symm) rfl));have OA:RU.block≠jF:=Kd.PH ((by first|exact Kd.ko eP.o iw.o (by decide)|exact fun e_=>(eP.o.1 _ e_.symm).2 rfl|exact fun e_=>(eP.o.1 _ e_.symm) rfl));have OB:RU.block≠jF:=Kd.PH ((by first|exact Kd.ko eP.o iw.o (by decide)|exact fun e_=>(eP.o.1 _ e_.symm).2 rfl|exact fun e_=>(eP.o.1 _ e_.symm) rfl));have OC:RU.block≠jF:=Kd.PH ((by first|exact Kd.ko eP.o iw.o (by decide)|exact fun e_=>(eP.o.1 _ e_.symm).2 rfl|exact fun e_=>(eP.o.1 _ e_.symm) rfl));have OD:RU.block≠jF:=Kd.PH ((by first|exact Kd.ko eP.o iw.o (by decide)|exact fun e_=>(eP.o.1 _ e_.symm).2 rfl|exact fun e_=>(eP.o.1 _ e_.symm) rfl));replace Dz:=(cell_far (p:=⟨jF,0,none⟩) (by exact nz Oz) (.int .i64 nY)).trans Dz;replace DC:=(cell_far (p:=⟨jF,0,none⟩) (by exact nz Oz) (.int .i64 nY)).trans DC;replace DD:=(cell_far (p:=⟨jF,0,none⟩) (by exact nz Oz) (.int .i64 nY)).trans DD;replace DF:=(cell_far (p:=⟨jF,0,none⟩) (by exact nz Oz) (.int .i64 nY)).trans DF;replace DI:=(cell_far (p:=⟨jF,0,none⟩) (by exact nz Oz) (.int .i64 nY)).trans DI;replace Dz:=(cell_far (p:=⟨jF,1,none⟩) (by exact nz OA) (.string qf)).trans Dz;replace DC:=(cell_far (p:=⟨jF,1,none⟩) (by exact nz OA) (.string qf)).trans DC;replace DD:=(cell_far (p:=⟨jF,1,none⟩) (by exact nz OA) (.string qf)).trans DD;replace DF:=(cell_far (p:=⟨jF,1,none⟩) (by exact nz OA) (.string qf)).trans DF;replace DI:=(cell_far (p:=⟨jF,1,none⟩) (by exact nz OA) (.string qf)).trans DI;replace Dz:=(cell_far (p:=⟨jF,2,none⟩) (by exact nz OB) (.int .i64 qj)).trans Dz;replace DC:=(cell_far (p:=⟨jF,2,none⟩) (by exact nz OB) (.int .i64 qj)).trans DC;replace DD:=(cell_far (p:=⟨jF,2,none⟩) (by exact nz OB) (.int .i64 qj)).trans DD;replace DF:=(cell_far (p:=⟨jF,2,none⟩) (by exact nz OB) (.int .i64 qj)).trans DF;replace DI:=(cell_far (p:=⟨jF,2,none⟩) (by exact nz OB) (.int .i64 qj)).trans DI;replace Dz:=(cell_far (p:=⟨jF,3,none⟩) (by exact nz OC) (.int .i64 ql)).trans Dz;replace DC:=(cell_far (p:=⟨jF,3,none⟩) (by exact nz OC) (.int .i64 ql)).trans DC;replace DD:=(cell_far (p:=⟨jF,3,none⟩) (by exact nz OC) (.int .i64 ql)).trans DD;replace DF:=(cell_far (p:=⟨jF,3,none⟩) (by exact nz OC) (.int .i64 ql)).trans DF;replace DI:=(cell_far (p:=⟨jF,3,none⟩) (by exact nz OC) (.int .i64 ql)).trans DI;replace Dz:=(cell_far (p:=⟨jF,4,none⟩) (by exact nz OD) (.string qm)).trans Dz;replace DC:=(cell_far (p:=⟨jF,4,none⟩) (by exact nz OD) (.string qm)).trans DC;replace DD:=(cell_far (p:=⟨jF,4,none⟩) (by exact nz OD) (.string qm)).trans DD;replace DF:=(cell_far (p:=⟨jF,4,none⟩) (by exact nz OD) (.string qm)).trans DF;replace DI:=(cell_far (p:=⟨jF,4,none⟩) (by exact nz OD) (.string qm)).trans DI;clear Oz;clear OA;clear OB;clear OC;clear OD
          go_wp2
          go_meet
          case rel=>exact ⟨_,((ai lF (Pw)).f0),(by first|rfl|(simp;done)|(simp only [← ZU] <;> (first|rfl|simp))|(simp [*];done)),H',⟨by have:=yT.o;have:=dD.o;first|omega|exact Nat.le_refl _⟩,⟨Kd.dE (rf (Kd.mi iF.o iw.o (by decide))) (fun _ hk=>trivial)⟩,⟨Kd.dE (rf (Kd.dE eP.o (fun k_ hk=>(⟨hk,hk.2⟩:_∧k_≠jF)))) (fun _ hk=>hk.1.2)⟩,⟨ks bM⟩,⟨ks dC⟩,⟨ks bV⟩,⟨kp iw⟩,⟨bs HB⟩⟩
         ·intro Su H;have Kw:decide (0<(lF.length:Int))=false:=decide_eq_false Su;have adA:decide (0<lF.length)=false:=decide_eq_false (by omega);clear Su
          (first|rw [Kw]|(simp only [fC,gK];rw [Kw])|rw [adA]|skip)
          have H':=am H;clear H
          go_wp2
          go_meet
          case rel=>exact ⟨_,(0),fg,H',⟨by have:=yT.o;have:=dD.o;first|omega|exact Nat.le_refl _⟩,⟨Kd.dE (rf (Kd.mi iF.o iw.o (by decide))) (fun _ hk=>trivial)⟩,⟨Kd.dE (rf (Kd.dE eP.o (fun k_ hk=>(⟨hk,hk.2⟩:_∧k_≠jF)))) (fun _ hk=>hk.1.2)⟩,⟨ks bM⟩,⟨ks dC⟩,⟨ks bV⟩,⟨kp iw⟩,⟨bs HB⟩⟩
        case rest =>
         clear ab6
         try clear c1
         try clear c7
         try clear wm
         try clear ET
         try clear He
         try clear Hf
         try clear Kv
         try clear zY
         try clear Ow
         try clear TD
         try clear zw
         try clear yx
         try clear zx
         try clear yz
         try clear Fw
         try clear Aj
         try clear O4
         try clear Ik
         try clear FT
         try clear FU
         try clear Wl
         try clear aaE
         try clear FV
         try clear FW
         try clear Ws
         try clear aaH
         obtain ⟨kq,ag7,rfl,HA,Ex,iF,eP,bM,dC,bV,iw,HB⟩:=hcut
         cases kq with
         | zero=>exact absurd HA.o (by simp [bW.j2])
         | succ ayj =>
          have H:=HA.o;clear HA;simp only [bW.j2] at H;have aca:=am H;clear H
          go_upto_region 17 with (fail)
          go_cut [97] (fun v97 wc=>∃ (kq:Nat) (abz:Bool),v97=.bool abz∧af (bW.j3 kq a0 l1 lG abz a0 nX vO vP vQ lF nY qf qj ql qm=some (r1,r2,r3,r4,r5,r6,r7,r8))∧af (kq≤ayj)∧af (Kd.R Kd.string 9 wc w.heap.size (fun _=>True) yK vQ)∧af (Kd.R iA 95 wc w.heap.size (fun k_=>k_≠jF) (.slice Eo lF.length EY) lF)∧af (wc.heap[vD]? = some (.cells #[.int .i64 Qj,.string Qk,.string Ql,.int .i64 Qm,(.slice none 0 0),(.slice none 0 0),.int .i64 Qn,.int .i64 Qo] 64 (0,0)))∧af (wc.heap[oo]? = some (.cells #[.int .i64 xO,.int .i64 yH,.int .i64 xP] 78 (0,0)))∧af (wc.heap[eZ]? = some (.cells #[.int .i64 a0,.string nX,.string vO,.int .i64 vP,yK,(.slice Eo lF.length EY)] 45 (0,0)))∧af (wc.heap[jF]? = some (.cells #[.int .i64 nY,.string qf,.int .i64 qj,.int .i64 ql,.string qm] 95 (0,0)))∧af (Below w.heap.size w wc))
          case first =>
           have H:=aca.o;clear aca;replace H:=bo H;obtain ⟨aaX,A67,H⟩:=H
           try go_wp2_with (fail)
           go_at_call 72;refine (Md.calls a0 aaX _ A67.o).mono ?_;rintro e w' ⟨rfl,⟨nd,rfl⟩⟩
           obtain rfl|rfl:=bt aaX
           ·replace H:=dm H
            revert H;refine bK ?_ ?_
            ·intro Sw H
             (first|rw [Sw]|(simp only [fC,gK];rw [Sw])|skip)
             have H':=am H;clear H;have aJo:=JW.o;have aJ8:=JU.o;have aw0:=Yi.o;have axm:=Yh.o;have aw1:=JX.o;have axn:=J7.o;have av9:=kW iw
             go_wp2
             go_meet
             case rel=>exact ⟨_,(true),fg,H',⟨by have:=yT.o;have:=dD.o;have:=Ex.o;first|omega|exact Nat.le_refl _⟩,⟨rz iF.o⟩,⟨rz eP.o⟩,⟨ks bM⟩,⟨ks dC⟩,⟨ks bV⟩,⟨ks iw⟩,⟨bs HB⟩⟩
            ·intro Sw H
             (first|rw [Sw]|(simp only [fC,gK];rw [Sw])|skip)
             have H':=am H;clear H;have aw2:=JW.o;have axo:=JU.o;have aJp:=Yi.o;have aJ9:=Yh.o;have aw3:=JX.o;have axp:=J7.o;have awc:=kW iw
             go_wp2
             go_meet
             case rel=>exact ⟨_,(decide (nY>999)),fg,H',⟨by have:=yT.o;have:=dD.o;have:=Ex.o;first|omega|exact Nat.le_refl _⟩,⟨rz iF.o⟩,⟨rz eP.o⟩,⟨ks bM⟩,⟨ks dC⟩,⟨ks bV⟩,⟨ks iw⟩,⟨bs HB⟩⟩
           ·replace H:=di H;have H':=am H;clear H
            go_wp2
            go_meet
            case rel=>exact ⟨_,(false),fg,H',⟨by have:=yT.o;have:=dD.o;have:=Ex.o;first|omega|exact Nat.le_refl _⟩,⟨rz iF.o⟩,⟨rz eP.o⟩,⟨ks bM⟩,⟨ks dC⟩,⟨ks bV⟩,⟨ks iw⟩,⟨bs HB⟩⟩
          case rest =>
           clear aca
           try clear c1
           try clear c7
           try clear wm
           try clear ET
           try clear He
           try clear Hf
           try clear Kv
           try clear zY
           try clear Ow
           try clear TD
           try clear zw
           try clear yx
           try clear zx
           try clear yz
           try clear Fw
           try clear Aj
           try clear O4
           try clear Ik
           try clear FT
           try clear FU
           try clear Wl
           try clear aaE
           try clear FV
           try clear FW
           try clear Ws
           try clear aaH
           obtain ⟨kq,abz,rfl,HA,Nn,iF,eP,bM,dC,bV,iw,HB⟩:=hcut
           cases kq with
           | zero=>exact absurd HA.o (by simp [bW.j3])
           | succ anc =>
            have H:=HA.o;clear HA;simp only [bW.j3] at H
            obtain rfl|rfl:=bt abz
            ·replace H:=dm H;replace H:=Wz H;obtain ⟨rfl,rfl,rfl,rfl,rfl,rfl,rfl,rfl⟩:=H;have aJq:=JS.o;have aKa:=JV.o;have aJr:=qA.o;have aKb:=qB.o;have aJs:=JU.o;have aKc:=JW.o;have awd:=KC bM
             go_wp2
             refine bodyPost_ret (results_cell_row rfl _ _ vD 64 #[.int .i64 0,.string (⟨#[]⟩:ByteArray),.string (⟨#[]⟩:ByteArray),.int .i64 0,.slice none 0 0,.slice none 0 0,.int .i64 lG,.int .i64 11] (0,0) _ rfl (kp bM) Tryz.underlying64 rfl (by kernel_rfl)) rfl ?_
             exact ⟨_,_,ff,by first|exact Kd.rq _ _ _ _ _|exact Kd.uZ _ _ _ _ _|exact Kd.vk _ _ _ _ _|exact Kd.u6 _ _ _ _ _|exact Kd.rX _ _ _ _ _,by first|exact Kd.rq _ _ _ _ _|exact Kd.uZ _ _ _ _ _|exact Kd.vk _ _ _ _ _|exact Kd.u6 _ _ _ _ _|exact Kd.rX _ _ _ _ _,bs HB⟩
            ·replace H:=di H;have H':=am H;clear H
             go_wp2
             go_loopg [10] anc (fun kq v10 w'=>∃ (MS:Int) (W9:Int) (Xb:ByteArray) (Xc:ByteArray) (Xd:Int) (Xe:Int) (Xf:Int),v10=.int .i64 MS∧af (bW.l1 kq a0 l1 lG MS a0 nX vO vP vQ lF nY qf qj ql qm=some (r1,r2,r3,r4,r5,r6,r7,r8))∧af (kq≤anc)∧af (Kd.R Kd.string 9 w' w.heap.size (fun _=>True) yK vQ)∧af (Kd.R iA 95 w' w.heap.size (fun k_=>k_≠jF) (.slice Eo lF.length EY) lF)∧af (w'.heap[vD]? = some (.cells #[.int .i64 W9,.string Xb,.string Xc,.int .i64 Xd,(.slice none 0 0),(.slice none 0 0),.int .i64 Xe,.int .i64 Xf] 64 (0,0)))∧af (w'.heap[oo]? = some (.cells #[.int .i64 xO,.int .i64 yH,.int .i64 xP] 78 (0,0)))∧af (w'.heap[eZ]? = some (.cells #[.int .i64 a0,.string nX,.string vO,.int .i64 vP,yK,(.slice Eo lF.length EY)] 45 (0,0)))∧af (w'.heap[jF]? = some (.cells #[.int .i64 nY,.string qf,.int .i64 qj,.int .i64 ql,.string qm] 95 (0,0)))∧af (Below w.heap.size w w'))
             case atStart=>exact ⟨(0),(Qj),(Qk),(Ql),(Qm),(Qn),(Qo),fg,H',⟨Nat.le_refl _⟩,⟨rz iF.o⟩,⟨rz eP.o⟩,⟨ks bM⟩,⟨ks dC⟩,⟨ks bV⟩,⟨ks iw⟩,⟨bs HB⟩⟩
             case round =>
              clear H'
              try clear c1
              try clear c7
              try clear wm
              try clear ET
              try clear He
              try clear Hf
              try clear Kv
              try clear zY
              try clear Ow
              try clear TD
              try clear zw
              try clear yx
              try clear zx
              try clear yz
              try clear Fw
              try clear Aj
              try clear O4
              try clear Ik
              try clear FT
              try clear FU
              try clear Wl
              try clear aaE
              try clear FV
              try clear FW
              try clear Ws
              try clear aaH
              try clear bM
              try clear dC
              try clear bV
              try clear iw
              obtain ⟨MS,W9,Xb,Xc,Xd,Xe,Xf,rfl,HA,Np,iF,eP,bM,dC,bV,iw,HB⟩:=hrel
              cases gk with
              | zero=>exact absurd HA.o (by simp [bW.l1])
              | succ k5 =>
               have H:=HA.o;clear HA;simp only [bW.l1] at H;have acb:=am H;clear H
               go_upto_region 20 with (fail)
               go_cut [108] (fun aCp wc=>∃ (kq:Nat) (aa9:Bool),aCp=.bool aa9∧af (bW.j5 kq a0 l1 lG MS aa9 a0 nX vO vP vQ lF nY qf qj ql qm=some (r1,r2,r3,r4,r5,r6,r7,r8))∧af (kq≤k5)∧af (Kd.R Kd.string 9 wc w.heap.size (fun _=>True) yK vQ)∧af (Kd.R iA 95 wc w.heap.size (fun k_=>k_≠jF) (.slice Eo lF.length EY) lF)∧af (wc.heap[vD]? = some (.cells #[.int .i64 W9,.string Xb,.string Xc,.int .i64 Xd,(.slice none 0 0),(.slice none 0 0),.int .i64 Xe,.int .i64 Xf] 64 (0,0)))∧af (wc.heap[oo]? = some (.cells #[.int .i64 xO,.int .i64 yH,.int .i64 xP] 78 (0,0)))∧af (wc.heap[eZ]? = some (.cells #[.int .i64 a0,.string nX,.string vO,.int .i64 vP,yK,(.slice Eo lF.length EY)] 45 (0,0)))∧af (wc.heap[jF]? = some (.cells #[.int .i64 nY,.string qf,.int .i64 qj,.int .i64 ql,.string qm] 95 (0,0)))∧af (Below w.heap.size w wc))
               case first =>
                have H:=acb.o;clear acb
                revert H;refine bK ?_ ?_
                ·intro KA H
                 (first|rw [KA]|(simp only [fC,gK];rw [KA])|skip)
                 replace H:=bo H;obtain ⟨aaY,A85,H⟩:=H;have H':=am H;clear H;have aJt:=qB.o;have aKd:=qA.o;have aJu:=sH.o;have aKe:=sG.o;have aJv:=J7.o;have aKf:=JX.o;have aGo:=dO bV
                 go_wp2_with (first|(go_at_call 73;refine (Me.calls a0 aaY _ A85.o).mono ?_;rintro e w' ⟨rfl,⟨nd,rfl⟩⟩))
                 go_meet
                 case rel=>exact ⟨_,(aaY),fg,H',⟨by have:=yT.o;have:=dD.o;have:=Ex.o;have:=Nn.o;have:=Np.o;first|omega|exact Nat.le_refl _⟩,⟨rz iF.o⟩,⟨rz eP.o⟩,⟨ks bM⟩,⟨ks dC⟩,⟨ks bV⟩,⟨ks iw⟩,⟨bs HB⟩⟩
                ·intro KA H
                 (first|rw [KA]|(simp only [fC,gK];rw [KA])|skip)
                 have H':=am H;clear H;have aJw:=qB.o;have aKg:=qA.o;have aJx:=sH.o;have aKh:=sG.o;have aJy:=J7.o;have aKi:=JX.o;have aGp:=dO bV
                 go_wp2
                 go_meet
                 case rel=>exact ⟨_,(false),fg,H',⟨by have:=yT.o;have:=dD.o;have:=Ex.o;have:=Nn.o;have:=Np.o;first|omega|exact Nat.le_refl _⟩,⟨rz iF.o⟩,⟨rz eP.o⟩,⟨ks bM⟩,⟨ks dC⟩,⟨ks bV⟩,⟨ks iw⟩,⟨bs HB⟩⟩
               case rest =>
                clear acb
                try clear c1
                try clear c7
                try clear wm
                try clear ET
                try clear He
                try clear Hf
                try clear Kv
                try clear zY
                try clear Ow
                try clear TD
                try clear zw
                try clear yx
                try clear zx
                try clear yz
                try clear Fw
                try clear Aj
                try clear O4
                try clear Ik
                try clear FT
                try clear FU
                try clear Wl
                try clear aaE
                try clear FV
                try clear FW
                try clear Ws
                try clear aaH
                obtain ⟨kq,aa9,rfl,HA,X3,iF,eP,bM,dC,bV,iw,HB⟩:=hcut
                cases kq with
                | zero=>exact absurd HA.o (by simp [bW.j5])
                | succ Ls =>
                 have H:=HA.o;clear HA;simp only [bW.j5] at H
                 obtain rfl|rfl:=bt aa9
                 ·replace H:=dm H
                  revert H;refine bv ?_
                  intro aEU H
                  revert H;refine bv ?_
                  intro aEW H
                  revert H;refine bH ?_ ?_
                  ·intro aud aue H;replace H:=Wz H;obtain ⟨rfl,rfl,rfl,rfl,rfl,rfl,rfl,rfl⟩:=H
                   try go_wp2
                   replace iF:=am (Kd.eO iF.o);replace eP:=am (Kd.eO eP.o);replace bM:=am (bD bM.o);replace dC:=am (bD dC.o);replace bV:=am (bD bV.o);replace iw:=am (bD iw.o);replace HB:=am (cZ HB.o);obtain ⟨azc,azp,asT,adK,Vv,Vw,Vx,Vy,Vz⟩:=wi (uA (Kd.dH eP.o).2.2 MS)
                   cases adK
                   refine gD 9 (qJ bV (Hq iw (aC Vv (aC Vw (aC Vx (aC Vy (hc Vz))))))) (fun hHeld=>?_);refine fu bW.aoe bW.ajl (fun HT_ HW_=>?_)
                   generalize wc.drew=w98 at iF eP bM dC bV iw HB Vv Vw Vx Vy Vz hHeld ⊢
                   refine bQ 0 ?_;refine bQ 2 ?_;refine bQ 6 ?_;refine ta 1 ?_;refine jU 3 ?_;refine ta 5 ?_;refine ta 7 ?_;refine bQ 8 ?_;refine ek (fo HT_.o (by kernel_rfl)) ?_;have aJA:=JS.o;have aKk:=JV.o;have aIR:=qA.o;have aJB:=qB.o;have aIS:=JU.o;have aJC:=JW.o;have aFf:=KC bM
                   try go_wp2
                   refine bodyPost_ret (results_cell_row rfl _ _ vD 64 #[.int .i64 0,.string (⟨#[]⟩:ByteArray),.string (⟨#[]⟩:ByteArray),.int .i64 0,.slice none 0 0,.slice none 0 0,.int .i64 lG,.int .i64 11] (0,0) _ rfl (kp bM) Tryz.underlying64 rfl (by kernel_rfl)) rfl ?_
                   exact ⟨_,_,ff,by first|exact Kd.rq _ _ _ _ _|exact Kd.uZ _ _ _ _ _|exact Kd.vk _ _ _ _ _|exact Kd.u6 _ _ _ _ _|exact Kd.rX _ _ _ _ _,by first|exact Kd.rq _ _ _ _ _|exact Kd.uZ _ _ _ _ _|exact Kd.vk _ _ _ _ _|exact Kd.u6 _ _ _ _ _|exact Kd.rX _ _ _ _ _,bs HB⟩
                  ·intro c97 aud aue H;have H':=am H;clear H
                   try go_wp2
                   replace iF:=am (Kd.eO iF.o);replace eP:=am (Kd.eO eP.o);replace bM:=am (bD bM.o);replace dC:=am (bD dC.o);replace bV:=am (bD bV.o);replace iw:=am (bD iw.o);replace HB:=am (cZ HB.o);obtain ⟨azc,azp,asT,adK,Vv,Vw,Vx,Vy,Vz⟩:=wi (uA (Kd.dH eP.o).2.2 MS)
                   cases adK
                   refine gD 9 (qJ bV (Hq iw (aC Vv (aC Vw (aC Vx (aC Vy (hc Vz))))))) (fun hHeld=>?_);refine fu bW.aoe bW.ajl (fun HT_ HW_=>?_)
                   generalize wc.drew=aMS at iF eP bM dC bV iw HB Vv Vw Vx Vy Vz hHeld ⊢
                   refine bQ 0 ?_;refine bQ 2 ?_;refine bQ 6 ?_;refine ta 1 ?_;refine jU 3 ?_;refine ta 5 ?_;refine ta 7 ?_;refine bQ 8 ?_;refine ek (fo HT_.o (by kernel_rfl)) ?_
                   try go_wp2
                   go_roundg Ls
                   case measure=>have:=yT.o;have:=dD.o;have:=Ex.o;have:=Nn.o;have:=Np.o;have:=X3.o;omega
                   case rel=>exact ⟨(wrap64 (MS+1)),(W9),(Xb),(Xc),(Xd),(Xe),(Xf),fg,H',⟨by have:=yT.o;have:=dD.o;have:=Ex.o;have:=Nn.o;have:=Np.o;have:=X3.o;omega⟩,⟨rz iF.o⟩,⟨rz eP.o⟩,⟨ks bM⟩,⟨ks dC⟩,⟨ks bV⟩,⟨ks iw⟩,⟨bs HB⟩⟩
                 ·replace H:=di H;replace H:=bo H;obtain ⟨⟨P5,P6⟩,ahe,H⟩:=H;(try dsimp only at H)
                  revert H;refine bv ?_
                  intro ajB H
                  revert H;refine bv ?_
                  intro aEp H;replace H:=bo H;obtain ⟨agH,ahf,H⟩:=H
                  obtain rfl|rfl:=bt agH
                  ·replace H:=dm H
                   revert H;refine ku ?_
                   intro c109 H;have arj:=am c109;clear c109;obtain ⟨ahb,afh⟩:∃ y_:List aZ,y_=(lF++[(⟨nY,qf,qj,ql,qm⟩:aZ)]):=⟨_,rfl⟩
                   replace H:(bW.l0 Ls a0 l1 (wrap64 (lG+1)) a0 nX vO vP vQ ahb)=some (r1,r2,r3,r4,r5,r6,r7,r8):=ye afh H
                   have asb:=am afh;clear afh;have H':=am H;clear H
                   try go_wp2
                   replace iF:=am (Kd.eO iF.o);replace eP:=am (Kd.eO eP.o);replace bM:=am (bD bM.o);replace dC:=am (bD dC.o);replace bV:=am (bD bV.o);replace iw:=am (bD iw.o);replace HB:=am (cZ HB.o);obtain ⟨azd,azq,ac4,abG,adt,adL,Fx,Co,Ut,TS⟩:=wi (kN HR1.o lG);have KW:=Co;have KV:=Fx;obtain rfl:nu=ac4:=(by injection adL);replace Fx:=cb HB Fx;replace Co:=cb HB Co;(try (have ea_:=Option.some.inj ((cb HB ou).symm.trans Co);injection ea_ with ea_ en_ ec_;subst ea_;subst ec_;clear en_));have Rn:=am TS;have ab5:=am Ut;clear TS Ut;refine gD 9 (Hq iw (aC (cb HB KV) (hc (cb HB KW)))) (fun hHeld=>?_);refine fu bW.aof bW.ajm (fun HT_ HW_=>?_)
                   generalize wc.drew=aMV at iF eP bM dC bV iw HB Rn Fx Co hHeld ⊢
                   refine bQ 0 ?_;refine jo 3 ?_;refine ta 1 ?_;refine ta 6 ?_;refine oA 2 124 HT_ (fun K hK=>?_);refine gA Tryz.func64 #[.int .i64 a0,.agg #[.int .i64 nY,.string qf,.int .i64 qj,.int .i64 ql,.string qm]] ?_;(with_reducible refine (fq.calls Ls a0 nY qf qj ql qm P5 P6 _ ahe.o).mono ?_);rintro e aMW ⟨aCt,rfl,ho0,hb⟩;refine ⟨_,rfl,?_⟩;replace eP:=am (Kd.cu (rs eP) hb);have yY:=am (Kd.mM (Kd.yc ho0 (Kd.kU (rs iF))) (bJ (bs HB)));replace iF:=am (Kd.cu (rs iF) hb);replace bM:=bb bM hb;replace dC:=bb dC hb;replace bV:=bb bV hb;replace iw:=bb iw hb;replace HB:=bq HB hb;(try clear hb);(try clear ho0);obtain ⟨apb,aum,aj6⟩:=Kd.ji yY.o
                   (first|subst aj6|(injection aj6 with fO jy fP;have jA:=fO.symm;have jB:=fP.symm;clear fO jy fP;subst jA;subst jB))
                   refine hK.out _ _ (Hq iw (aC (cb HB KV) (hc (cb HB KW)))).o (fun hHeld=>?_);clear hK K;refine nA 124 ?_;refine oA 7 129 HT_ (fun K hK=>?_);refine gA Tryz.func74 #[.agg #[.string P5,.slice apb P6.length aum],.agg #[.string ((av l1 lG).f0),.slice abG ((av l1 lG).f1).length adt]] ?_;(with_reducible refine (lJ.calls Ls P5 _ _ P6 ((av l1 lG).f0) _ _ ((av l1 lG).f1) true _ ?aR ?bg ?jI ?ma ahf.o).mono ?_)
                   (case aR=>exact sd (Kd.sI yY.o).2.2)
                   (case bg=>exact (Kd.sI yY.o).2.1)
                   (case jI=>exact sd (Kd.bi Rn.o HB.o))
                   (case ma=>exact ab5.o)
                   rintro e aMX ⟨rfl,hb⟩;refine ⟨_,rfl,?_⟩;replace iF:=am (Kd.cu (rs iF) hb);replace eP:=am (Kd.cu (rs eP) hb);replace yY:=am (Kd.l6 (by (with_reducible repeat (first|apply Kd.iH|apply Kd.iJ|apply Kd.fU));exact yY.o) hb);replace bM:=am (aU (ks bM) hb);replace dC:=am (aU (ks dC) hb);replace bV:=am (aU (ks bV) hb);replace iw:=am (aU (ks iw) hb);replace HB:=am (gP (bs HB) hb);(try clear hb);refine hK.out _ _ (Hq iw (aC (cb HB KV) (hc (cb HB KW)))).o (fun hHeld=>?_);clear hK K;refine nA 129 ?_;refine bQ 8 ?_;refine ek (fo HT_.o (by kernel_rfl)) ?_;have aIV:=qB.o;have aJF:=qA.o;have awJ:=sH.o;have aw5:=sG.o;have aIW:=J7.o;have aJG:=JX.o;have aFn:=dO bV;have aIX:=JW.o;have aJH:=JU.o;have aIY:=Yi.o;have aJI:=Yh.o;have aFu:=kW iw
                   try go_wp2_with (first|((with_reducible refine rY (b:=.append) (xs:=#[.tmp 134,.tmp 136]) rfl ?_);at_builtin;refine Kd.uy iA (w0:=w) w.heap.size rfl (.tmp 134) (.tmp 136) 43 95 (.agg #[(.int .i64 0),(.string ⟨#[]⟩),(.int .i64 0),(.int .i64 0),(.string ⟨#[]⟩)]) 56 rfl Tryz.underlying43 aat rfl (by decide) (by omega) (.slice Eo lF.length EY) lF (⟨nY,qf,qj,ql,qm⟩:aZ) [.int .i64 nY,.string qf,.int .i64 qj,.int .i64 ql,.string qm] (fun k_=>k_≠jF) (fun _=>False) rfl rfl ?aP (fun _ hk=>hk.elim) ?aF ?aO ?aB ?aS ?aL ?_;(case aP=>exact Lp _ _ _ (⟨nY,qf,qj,ql,qm⟩:aZ));(case aB=>exact (bs HB));(case aF=>exact (fun k_ hk=>Kd.vC (g:=jF) (o:=.cells #[.int .i64 nY,.string qf,.int .i64 qj,.int .i64 ql,.string qm] 95 (0,0)) (ks iw) k_ hk));(case aO=>exact (rs eP));(case aS=>exact (bJ (bs HB)));(case aL=>have:=arj.o;omega);intro aMu aMZ ho hb hg hat;rw [← asb.o] at ho;replace iF:=am (Kd.GM (rs iF) (Kd.J9 (rs eP)) (by decide) hg);replace bM:=am (fV (ks bM) hg (Kd.ko eP.o bM.o (by decide)));replace dC:=am (fV (ks dC) hg (Kd.ko eP.o dC.o (by decide)));replace bV:=am (fV (ks bV) hg (Kd.ko eP.o bV.o (by decide)));replace iw:=am (fV (ks iw) hg (Kd.ass eP.o (fun _ hk=>hk)));replace yY:=am (Kd.asE (by (with_reducible repeat (first|apply Kd.iH|apply Kd.iJ|apply Kd.fU));exact yY.o) (Kd.J9 (rs eP)) (by decide) hg);replace HB:=am (hb);have ah5:=am (ho);clear eP;clear ho hb hg hat;obtain ⟨apc,aun,au7⟩:=Kd.gW ah5.o;subst au7;have aFv:=dO bV))
                   go_roundg Ls
                   case measure=>have:=yT.o;have:=dD.o;have:=Ex.o;have:=Nn.o;have:=Np.o;have:=X3.o;omega
                   case rel=>exact ⟨(wrap64 (lG+1)),(W9),(Xb),(Xc),(Xd),(Xe),(Xf),(vQ),(ahb),(yK),(.slice apc ahb.length aun),fg,H',⟨by have:=yT.o;have:=dD.o;have:=Ex.o;have:=Nn.o;have:=Np.o;have:=X3.o;omega⟩,⟨Kd.dE (rf (Kd.mi iF.o bV.o (by decide))) (fun _ hk=>trivial)⟩,⟨Kd.dE (rf (Kd.mi ah5.o bV.o (by decide))) (fun _ hk=>trivial)⟩,⟨ks bM⟩,⟨ks dC⟩,⟨kp bV⟩,⟨bs HB⟩⟩
                  ·replace H:=di H;replace H:=Wz H;obtain ⟨rfl,rfl,rfl,rfl,rfl,rfl,rfl,rfl⟩:=H
                   try go_wp2
                   replace iF:=am (Kd.eO iF.o);replace eP:=am (Kd.eO eP.o);replace bM:=am (bD bM.o);replace dC:=am (bD dC.o);replace bV:=am (bD bV.o);replace iw:=am (bD iw.o);replace HB:=am (cZ HB.o);obtain ⟨azd,azq,ac4,abG,adt,adL,Fx,Co,Ut,TS⟩:=wi (kN HR1.o lG);have KW:=Co;have KV:=Fx;obtain rfl:nu=ac4:=(by injection adL);replace Fx:=cb HB Fx;replace Co:=cb HB Co;(try (have ea_:=Option.some.inj ((cb HB ou).symm.trans Co);injection ea_ with ea_ en_ ec_;subst ea_;subst ec_;clear en_));have Rn:=am TS;have ab5:=am Ut;clear TS Ut;refine gD 9 (Hq iw (aC (cb HB KV) (hc (cb HB KW)))) (fun hHeld=>?_);refine fu bW.aof bW.ajm (fun HT_ HW_=>?_)
                   generalize wc.drew=aM0 at iF eP bM dC bV iw HB Rn Fx Co hHeld ⊢
                   refine bQ 0 ?_;refine jo 3 ?_;refine ta 1 ?_;refine ta 6 ?_;refine oA 2 124 HT_ (fun K hK=>?_);refine gA Tryz.func64 #[.int .i64 a0,.agg #[.int .i64 nY,.string qf,.int .i64 qj,.int .i64 ql,.string qm]] ?_;(with_reducible refine (fq.calls Ls a0 nY qf qj ql qm P5 P6 _ ahe.o).mono ?_);rintro e aM1 ⟨aCt,rfl,ho0,hb⟩;refine ⟨_,rfl,?_⟩;replace eP:=am (Kd.cu (rs eP) hb);have yY:=am (Kd.mM (Kd.yc ho0 (Kd.kU (rs iF))) (bJ (bs HB)));replace iF:=am (Kd.cu (rs iF) hb);replace bM:=bb bM hb;replace dC:=bb dC hb;replace bV:=bb bV hb;replace iw:=bb iw hb;replace HB:=bq HB hb;(try clear hb);(try clear ho0);obtain ⟨apd,auo,aj7⟩:=Kd.ji yY.o
                   (first|subst aj7|(injection aj7 with fO jy fP;have jA:=fO.symm;have jB:=fP.symm;clear fO jy fP;subst jA;subst jB))
                   refine hK.out _ _ (Hq iw (aC (cb HB KV) (hc (cb HB KW)))).o (fun hHeld=>?_);clear hK K;refine nA 124 ?_;refine oA 7 129 HT_ (fun K hK=>?_);refine gA Tryz.func74 #[.agg #[.string P5,.slice apd P6.length auo],.agg #[.string ((av l1 lG).f0),.slice abG ((av l1 lG).f1).length adt]] ?_;(with_reducible refine (lJ.calls Ls P5 _ _ P6 ((av l1 lG).f0) _ _ ((av l1 lG).f1) false _ ?aR ?bg ?jI ?ma ahf.o).mono ?_)
                   (case aR=>exact sd (Kd.sI yY.o).2.2)
                   (case bg=>exact (Kd.sI yY.o).2.1)
                   (case jI=>exact sd (Kd.bi Rn.o HB.o))
                   (case ma=>exact ab5.o)
                   rintro e aM2 ⟨rfl,hb⟩;refine ⟨_,rfl,?_⟩;replace iF:=am (Kd.cu (rs iF) hb);replace eP:=am (Kd.cu (rs eP) hb);replace yY:=am (Kd.l6 (by (with_reducible repeat (first|apply Kd.iH|apply Kd.iJ|apply Kd.fU));exact yY.o) hb);replace bM:=am (aU (ks bM) hb);replace dC:=am (aU (ks dC) hb);replace bV:=am (aU (ks bV) hb);replace iw:=am (aU (ks iw) hb);replace HB:=am (gP (bs HB) hb);(try clear hb);refine hK.out _ _ (Hq iw (aC (cb HB KV) (hc (cb HB KW)))).o (fun hHeld=>?_);clear hK K;refine nA 129 ?_;refine bQ 8 ?_;refine ek (fo HT_.o (by kernel_rfl)) ?_;have aI0:=JS.o;have aJK:=JV.o;have aI1:=qA.o;have aJL:=qB.o;have aI2:=JU.o;have aJM:=JW.o;have aFA:=KC bM
                   try go_wp2
                   refine bodyPost_ret (results_cell_row rfl _ _ vD 64 #[.int .i64 0,.string (⟨#[]⟩:ByteArray),.string (⟨#[]⟩:ByteArray),.int .i64 0,.slice none 0 0,.slice none 0 0,.int .i64 lG,.int .i64 3] (0,0) _ rfl (kp bM) Tryz.underlying64 rfl (by kernel_rfl)) rfl ?_
                   exact ⟨_,_,ff,by first|exact Kd.rq _ _ _ _ _|exact Kd.uZ _ _ _ _ _|exact Kd.vk _ _ _ _ _|exact Kd.u6 _ _ _ _ _|exact Kd.rX _ _ _ _ _,by first|exact Kd.rq _ _ _ _ _|exact Kd.uZ _ _ _ _ _|exact Kd.vk _ _ _ _ _|exact Kd.u6 _ _ _ _ _|exact Kd.rX _ _ _ _ _,bs HB⟩
      ·intro wm H;replace H:=Wz H;obtain ⟨rfl,rfl,rfl,rfl,rfl,rfl,rfl,rfl⟩:=H;have aI3:=qB.o;have aJN:=qA.o;have aI4:=sH.o;have aJO:=sG.o;have aFB:=dO bV;obtain ⟨ape,aup,au8⟩:=Kd.gW eP.o;subst au8;obtain ⟨apf,auq,au9⟩:=Kd.gW iF.o;subst au9;have aI5:=JS.o;have aJP:=JV.o;have aFC:=KC bM
       go_wp2
       refine bodyPost_ret (results_cell_row rfl _ _ vD 64 #[.int .i64 a0,.string nX,.string vO,.int .i64 vP,.slice apf vQ.length auq,.slice ape lF.length aup,.int .i64 0,.int .i64 0] (0,0) _ rfl (kp bM) Tryz.underlying64 rfl (by kernel_rfl)) rfl ?_
       exact ⟨_,_,ff,Kd.dE (rf (Kd.mi iF.o bM.o (by decide))) (fun _ hk=>trivial),Kd.dE (rf (Kd.mi eP.o bM.o (by decide))) (fun _ hk=>trivial),bs HB⟩
 ·intro c6 gu nM H;replace H:=Wz H;obtain ⟨rfl,rfl,rfl,rfl,rfl,rfl,rfl,rfl⟩:=H
  go_wp2_with (first|((with_reducible refine aJ (N:=5) rfl ?_);refine bz 5 (cs:=#[.int .i64 0,.int .i64 0,.int .i64 0]) (t:=78) HB ?_;clear HB;intro oo hg aM3 dC apJ hb HB;have JS:=na hg bM;have JV:=nc hg bM;replace bM:=bb bM hb;clear hb hg;have aI6:=JV.o;have aJQ:=JS.o;have aFD:=lH dC;have aFE:=KC bM))
  refine bodyPost_ret (results_cell_row rfl _ _ vD 64 #[.int .i64 0,.string (⟨#[]⟩:ByteArray),.string (⟨#[]⟩:ByteArray),.int .i64 0,.slice none 0 0,.slice none 0 0,.int .i64 xO,.int .i64 xP] (0,0) _ rfl (kp bM) Tryz.underlying64 rfl (by kernel_rfl)) rfl ?_
  exact ⟨_,_,ff,by first|exact Kd.rq _ _ _ _ _|exact Kd.uZ _ _ _ _ _|exact Kd.vk _ _ _ _ _|exact Kd.u6 _ _ _ _ _|exact Kd.rX _ _ _ _ _,by first|exact Kd.rq _ _ _ _ _|exact Kd.uZ _ _ _ _ _|exact Kd.vk _ _ _ _ _|exact Kd.u6 _ _ _ _ _|exact Kd.rX _ _ _ _ _,bs HB⟩
end Go.Proofs.YtapilmimgiaglaaGreatDoor.QX
