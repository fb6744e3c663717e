-- Merged by a program of this session (wip/tool/pack.py) out of its own texts for this claim.
import Derived.Test.YtapilmimgiaglaaGreatDoorKFnExactParcelRight11
set_option maxHeartbeats 8000000
set_option maxRecDepth 100000
set_option linter.unusedSimpArgs false
set_option linter.unusedVariables false
namespace Go.Proofs.YtapilmimgiaglaaGreatDoor.QA
open Go.RowKit Go.Proofs.bB.fA Go.Proofs.bB.PrintLast Go.Proofs.bB.PrintMore
attribute [local go_sem] o6 pg o9 pE o8 pz o7 pq   -- for this text's walks alone
def jd.T3:Bool × List (List Nat × List Nat):=(true,[([],[]),([0],[0]),([],[]),([2,1],[2]),([],[]),([4,3],[4]),([],[]),([6,5],[6]),([1,3,5,7],[1,3,5,7]),([8,7,0,1,2,3,4,5,6,7,8],[8])])
def jd.B3:List Nat:=[0,1,0,7,0,31,0,127,255,511]
theorem jd.Tv:fJ .any (opsOf Tryz.f71 3)=jd.T3:=by kernel_rfl
theorem jd.OZ:iY jd.T3.2 jd.B3=true:=by kernel_rfl
def jd.T7:Bool × List (List Nat × List Nat):=(true,[([],[]),([0],[0]),([],[]),([2,1],[2]),([],[]),([4,3],[4]),([1,3,5],[1,3,5]),([6,5,0,1,2,3,4,5,6],[6])])
def jd.B7:List Nat:=[0,1,0,7,0,31,63,127]
theorem jd.ayJ:fJ .any (opsOf Tryz.f71 7)=jd.T7:=by kernel_rfl
theorem jd.aqe:iY jd.T7.2 jd.B7=true:=by kernel_rfl
def jd.T9:Bool × List (List Nat × List Nat):=(true,[([],[]),([0],[0]),([],[]),([2,1],[2]),([],[]),([4,3],[4]),([1,3,5],[1,3,5]),([6,5,0,1,2,3,4,5,6],[6])])
def jd.B9:List Nat:=[0,1,0,7,0,31,63,127]
theorem jd.ayK:fJ .any (opsOf Tryz.f71 9)=jd.T9:=by kernel_rfl
theorem jd.aqf:iY jd.T9.2 jd.B9=true:=by kernel_rfl
def jd.Et:Bool × List (List Nat × List Nat):=(true,[([],[]),([0],[0]),([],[]),([2,1],[2]),([],[]),([4,3],[4]),([1,3,5],[1,3,5]),([6,5,0,1,2,3,4,5,6],[6])])
def jd.B10:List Nat:=[0,1,0,7,0,31,63,127]
theorem jd.JI:fJ .any (opsOf Tryz.f71 10)=jd.Et:=by kernel_rfl
theorem jd.G7:iY jd.Et.2 jd.B10=true:=by kernel_rfl
theorem jd.calls (k:Nat) (a0:Int) (aM:ByteArray) (iV:Option Addr) (iU:Nat) (aR:List (dw)) (r1:Int) (r2:ByteArray) (r3:Int) (r4:Int) (r5:ByteArray) (w:World) (zQ:Kd.C lG w iV aR.length aR) (zJ:aR.length≤iU) (H:jd.f k a0 aM aR=some (r1,r2,r3,r4,r5)) :
  Calls Tryz.prog 71 #[.int .i64 a0,.agg #[.string aM,.slice iV aR.length iU]] w fun e w'=>e=.returned (.agg #[.int .i64 r1,.string r2,.int .i64 r3,.int .i64 r4,.string r5])∧Below w.heap.size w w':=by
 have qR:=Tryz.underlying62;have Bh:=Tryz.underlying95;have lX:=am zQ;have rE:=am zJ;clear zQ zJ;have HB:=am (Below.refl w.heap.size w);unfold jd.f at H
 revert H;refine bL ?_ ?_
 ·intro bN fo H;replace H:=bo H;obtain ⟨t79,A4,H⟩:=H;replace H:=bo H;obtain ⟨t80,A5,H⟩:=H;replace H:=bo H;obtain ⟨xX,A6,H⟩:=H;replace H:=bo H;obtain ⟨t82,A7,H⟩:=H;replace H:=FQ H;obtain ⟨rfl,rfl,rfl,rfl,rfl⟩:=H
  go_in
  try go_wp2_with (first|((with_reducible refine aN (N:=3) rfl ?_);refine bz 3 (cs:=#[.string aM,.slice iV aR.length iU]) (t:=62) HB ?_;clear HB;intro Wh hg w8 dG Uu hb HB;clear hb hg)|((with_reducible refine aN (N:=4) rfl ?_);refine bz 4 (cs:=#[.int .i64 0,.string (⟨#[]⟩:ByteArray),.int .i64 0,.int .i64 0,.string (⟨#[]⟩:ByteArray)]) (t:=95) HB ?_;clear HB;intro dJ hg w9 bT Ut hb HB;have dR:=na hg dG;have lJ:=nc hg dG;replace dG:=bb dG hb;clear hb hg))
  replace dG:=am (bg dG.out);replace bT:=am (bg bT.out);replace HB:=am (cO HB.out);refine il 10 (hb2 dG) (fun hHeld=>?_);refine gq jd.Tv jd.OZ (fun HT_ HW_=>?_)
  generalize w9.drew=DI at dG bT HB hHeld ⊢
  refine ta 0 ?_;refine ta 2 ?_;refine ta 4 ?_;refine ta 6 ?_;refine oA 1 9 HT_ (fun K hK=>?_);refine gA Tryz.func70 #[.agg #[.string aM,.slice iV aR.length iU],.int .i64 0] ?_;(with_reducible refine (jT.calls k aM _ _ aR 0 t79 _ ?aI ?aW A4.out).mono ?_)
  (case aI=>exact sd (Kd.bJ lX.out HB.out))
  (case aW=>exact rE.out)
  rintro e kU ⟨rfl,hb⟩;refine ⟨_,rfl,?_⟩;replace dG:=bb dG hb;replace bT:=bb bT hb;replace HB:=bq HB hb;(try clear hb);refine hK.out _ _ (hb2 dG).out (fun hHeld=>?_);clear hK K;refine nA 9 ?_;refine oA 3 11 HT_ (fun K hK=>?_);refine gA Tryz.func69 #[.agg #[.string aM,.slice iV aR.length iU],.int .i64 1,.int .i64 0] ?_;(with_reducible refine (nV.calls aM _ _ aR 1 0 t80 _ ?aI ?aW A5.out).mono ?_)
  (case aI=>exact sd (Kd.bJ lX.out HB.out))
  (case aW=>exact rE.out)
  rintro e wS ⟨rfl,hb⟩;refine ⟨_,rfl,?_⟩;replace dG:=bb dG hb;replace bT:=bb bT hb;replace HB:=bq HB hb;(try clear hb);refine hK.out _ _ (hb2 dG).out (fun hHeld=>?_);clear hK K;refine nA 11 ?_;refine oA 5 13 HT_ (fun K hK=>?_);refine gA Tryz.func70 #[.agg #[.string aM,.slice iV aR.length iU],.int .i64 2] ?_;(with_reducible refine (jT.calls k aM _ _ aR 2 xX _ ?aI ?aW A6.out).mono ?_)
  (case aI=>exact sd (Kd.bJ lX.out HB.out))
  (case aW=>exact rE.out)
  rintro e vO ⟨rfl,hb⟩;refine ⟨_,rfl,?_⟩;replace dG:=bb dG hb;replace bT:=bb bT hb;replace HB:=bq HB hb;(try clear hb);refine hK.out _ _ (hb2 dG).out (fun hHeld=>?_);clear hK K;refine nA 13 ?_;refine oA 7 15 HT_ (fun K hK=>?_);refine gA Tryz.func70 #[.agg #[.string aM,.slice iV aR.length iU],.int .i64 3] ?_;(with_reducible refine (jT.calls k aM _ _ aR 3 t82 _ ?aI ?aW A7.out).mono ?_)
  (case aI=>exact sd (Kd.bJ lX.out HB.out))
  (case aW=>exact rE.out)
  rintro e vP ⟨rfl,hb⟩;refine ⟨_,rfl,?_⟩;replace dG:=bb dG hb;replace bT:=bb bT hb;replace HB:=bq HB hb;(try clear hb);refine hK.out _ _ (hb2 dG).out (fun hHeld=>?_);clear hK K;refine nA 15 ?_;refine bV 8 ?_;refine nG (i:=9) (N:=none) #[true,true,true,true,true,true,true,true,true,true] rfl rfl (vB HT_.out (by kernel_rfl)) (by decide) (fun K hK=>?_);have aHx:vP.cell? ⟨dJ,0,none⟩=some (.int .i64 0):=(az bT.out 0).trans rfl;have aC6:=aV bT.out 0;have aGP:=dR.out;have aEB:=lJ.out;have aut:vP.cell? ⟨dJ,1,none⟩=some (.string (⟨#[]⟩:ByteArray)):=(az bT.out 1).trans rfl;have atg:=aV bT.out 1;have aup:=dR.out;have atq:=lJ.out;have aHy:vP.cell? ⟨dJ,2,none⟩=some (.int .i64 0):=(az bT.out 2).trans rfl;have aC7:=aV bT.out 2;have aGQ:=dR.out;have aEC:=lJ.out;have aHz:vP.cell? ⟨dJ,3,none⟩=some (.int .i64 0):=(az bT.out 3).trans rfl;have aC8:=aV bT.out 3;have aGR:=dR.out;have aED:=lJ.out;have aHA:vP.cell? ⟨dJ,4,none⟩=some (.string (⟨#[]⟩:ByteArray)):=(az bT.out 4).trans rfl;have aC9:=aV bT.out 4;have aGS:=dR.out;have aEE:=lJ.out;refine vD (w1:=?_) (by rfl) rfl ?_ ?_
  rotate_left
  ·go_simp
   rfl
  refine hK.out _ _ ⟨((cell_far (p:=⟨dJ,_,none⟩) dR.out _).trans (((cell_far (p:=⟨dJ,_,none⟩) dR.out _).trans (((cell_far (p:=⟨dJ,_,none⟩) dR.out _).trans (((cell_far (p:=⟨dJ,_,none⟩) dR.out _).trans (((cell_far (p:=⟨dJ,_,none⟩) dR.out _).trans (hHeld.1)))))))))),((cell_far (p:=⟨dJ,_,none⟩) dR.out _).trans (((cell_far (p:=⟨dJ,_,none⟩) dR.out _).trans (((cell_far (p:=⟨dJ,_,none⟩) dR.out _).trans (((cell_far (p:=⟨dJ,_,none⟩) dR.out _).trans (((cell_far (p:=⟨dJ,_,none⟩) dR.out _).trans (hHeld.2))))))))))⟩ (fun hHeld=>?_);clear hK K;refine fq (gp HT_.out (by kernel_rfl)) ?_
  try go_wp2
  refine bodyPost_ret (results_cell_row rfl _ _ dJ 95 #[.int .i64 t79,.string t80,.int .i64 xX,.int .i64 t82,.string (⟨#[]⟩:ByteArray)] (0,0) _ rfl (kp bT) Tryz.underlying95 rfl (by kernel_rfl)) rfl ?_
  exact ⟨ff,bs HB⟩
 ·intro c3 bN fo H
  revert H;refine bL ?_ ?_
  ·intro ui O8 H;replace H:=bo H;obtain ⟨t83,A21,H⟩:=H;replace H:=bo H;obtain ⟨t84,BV,H⟩:=H;replace H:=FQ H;obtain ⟨rfl,rfl,rfl,rfl,rfl⟩:=H
   go_in
   try go_wp2_with (first|((with_reducible refine aN (N:=3) rfl ?_);refine bz 3 (cs:=#[.string aM,.slice iV aR.length iU]) (t:=62) HB ?_;clear HB;intro Wh hg tH dG Uu hb HB;clear hb hg)|((with_reducible refine aN (N:=4) rfl ?_);refine bz 4 (cs:=#[.int .i64 0,.string (⟨#[]⟩:ByteArray),.int .i64 0,.int .i64 0,.string (⟨#[]⟩:ByteArray)]) (t:=95) HB ?_;clear HB;intro dJ hg JP bT Ut hb HB;have dR:=na hg dG;have lJ:=nc hg dG;replace dG:=bb dG hb;clear hb hg))
   replace dG:=am (bg dG.out);replace bT:=am (bg bT.out);replace HB:=am (cO HB.out);refine il 6 (hb2 dG) (fun hHeld=>?_)
   generalize JP.drew=Nb at dG bT HB hHeld ⊢
   refine tu 0 19 #[true,false,false,false,false,false] ?_
   refine tu 2 21 #[true,false,true,false,false,false] ?_
   refine nG (i:=1) (N:=some 20) #[true,true,true,false,false,false] rfl rfl (by kernel_rfl) (by decide) (fun K hK=>?_);refine gA Tryz.func69 #[.agg #[.string aM,.slice iV aR.length iU],.int .i64 0,.int .i64 0] ?_;(with_reducible refine (nV.calls aM _ _ aR 0 0 t83 _ ?aI ?aW A21.out).mono ?_)
   (case aI=>exact sd (Kd.bJ lX.out HB.out))
   (case aW=>exact rE.out)
   rintro e Nc ⟨rfl,hb⟩;refine ⟨_,rfl,?_⟩;replace dG:=bb dG hb;replace bT:=bb bT hb;replace HB:=bq HB hb;(try clear hb);refine hK.out _ _ (hb2 dG).out (fun hHeld=>?_);clear hK K;refine nA 20 ?_;refine nG (i:=3) (N:=some 22) #[true,true,true,true,false,false] rfl rfl (by kernel_rfl) (by decide) (fun K hK=>?_);refine gA Tryz.func70 #[.agg #[.string aM,.slice iV aR.length iU],.int .i64 1] ?_;(with_reducible refine (jT.calls k aM _ _ aR 1 t84 _ ?aI ?aW BV.out).mono ?_)
   (case aI=>exact sd (Kd.bJ lX.out HB.out))
   (case aW=>exact rE.out)
   rintro e BN ⟨rfl,hb⟩;refine ⟨_,rfl,?_⟩;replace dG:=bb dG hb;replace bT:=bb bT hb;replace HB:=bq HB hb;(try clear hb);refine hK.out _ _ (hb2 dG).out (fun hHeld=>?_);clear hK K;refine nA 22 ?_;refine pu 4 23 #[true,true,true,true,true,false] ?_
   refine nG (i:=5) (N:=none) #[true,true,true,true,true,true] rfl rfl (by kernel_rfl) (by decide) (fun K hK=>?_);have aHI:BN.cell? ⟨dJ,0,none⟩=some (.int .i64 0):=(az bT.out 0).trans rfl;have aDh:=aV bT.out 0;have aG7:=dR.out;have aET:=lJ.out;have aHJ:BN.cell? ⟨dJ,1,none⟩=some (.string (⟨#[]⟩:ByteArray)):=(az bT.out 1).trans rfl;have aDi:=aV bT.out 1;have aG8:=dR.out;have aEU:=lJ.out;have aHK:BN.cell? ⟨dJ,2,none⟩=some (.int .i64 0):=(az bT.out 2).trans rfl;have aDj:=aV bT.out 2;have aG9:=dR.out;have aEV:=lJ.out;have aHL:BN.cell? ⟨dJ,3,none⟩=some (.int .i64 0):=(az bT.out 3).trans rfl;have aDk:=aV bT.out 3;have aHa:=dR.out;have aEW:=lJ.out;have aHM:BN.cell? ⟨dJ,4,none⟩=some (.string (⟨#[]⟩:ByteArray)):=(az bT.out 4).trans rfl;have aDl:=aV bT.out 4;have aHb:=dR.out;have aEX:=lJ.out;refine vD (w1:=?_) (by rfl) rfl ?_ ?_
   rotate_left
   ·go_simp
    rfl
   refine hK.out _ _ ⟨((cell_far (p:=⟨dJ,_,none⟩) dR.out _).trans (((cell_far (p:=⟨dJ,_,none⟩) dR.out _).trans (((cell_far (p:=⟨dJ,_,none⟩) dR.out _).trans (((cell_far (p:=⟨dJ,_,none⟩) dR.out _).trans (((cell_far (p:=⟨dJ,_,none⟩) dR.out _).trans (hHeld.1)))))))))),((cell_far (p:=⟨dJ,_,none⟩) dR.out _).trans (((cell_far (p:=⟨dJ,_,none⟩) dR.out _).trans (((cell_far (p:=⟨dJ,_,none⟩) dR.out _).trans (((cell_far (p:=⟨dJ,_,none⟩) dR.out _).trans (((cell_far (p:=⟨dJ,_,none⟩) dR.out _).trans (hHeld.2))))))))))⟩ (fun hHeld=>?_);clear hK K;refine fq (by kernel_rfl) ?_
   try go_wp2
   refine bodyPost_ret (results_cell_row rfl _ _ dJ 95 #[.int .i64 0,.string t83,.int .i64 t84,.int .i64 0,.string (⟨#[]⟩:ByteArray)] (0,0) _ rfl (kp bT) Tryz.underlying95 rfl (by kernel_rfl)) rfl ?_
   exact ⟨ff,bs HB⟩
  ·intro c20 ui O8 H
   revert H;refine bL ?_ ?_
   ·intro Cy aaK H;replace H:=bo H;obtain ⟨t85,NW,H⟩:=H;replace H:=bo H;obtain ⟨t86,A35,H⟩:=H;replace H:=bo H;obtain ⟨t87,A36,H⟩:=H;replace H:=FQ H;obtain ⟨rfl,rfl,rfl,rfl,rfl⟩:=H
    go_in
    try go_wp2_with (first|((with_reducible refine aN (N:=3) rfl ?_);refine bz 3 (cs:=#[.string aM,.slice iV aR.length iU]) (t:=62) HB ?_;clear HB;intro Wh hg Nf dG Uu hb HB;clear hb hg)|((with_reducible refine aN (N:=4) rfl ?_);refine bz 4 (cs:=#[.int .i64 0,.string (⟨#[]⟩:ByteArray),.int .i64 0,.int .i64 0,.string (⟨#[]⟩:ByteArray)]) (t:=95) HB ?_;clear HB;intro dJ hg w38 bT Ut hb HB;have dR:=na hg dG;have lJ:=nc hg dG;replace dG:=bb dG hb;clear hb hg))
    replace dG:=am (bg dG.out);replace bT:=am (bg bT.out);replace HB:=am (cO HB.out);refine il 8 (hb2 dG) (fun hHeld=>?_);refine gq jd.ayJ jd.aqe (fun HT_ HW_=>?_)
    generalize w38.drew=w39 at dG bT HB hHeld ⊢
    refine ta 0 ?_;refine ta 2 ?_;refine ta 4 ?_;refine oA 1 27 HT_ (fun K hK=>?_);refine gA Tryz.func69 #[.agg #[.string aM,.slice iV aR.length iU],.int .i64 0,.int .i64 0] ?_;(with_reducible refine (nV.calls aM _ _ aR 0 0 t85 _ ?aI ?aW NW.out).mono ?_)
    (case aI=>exact sd (Kd.bJ lX.out HB.out))
    (case aW=>exact rE.out)
    rintro e F8 ⟨rfl,hb⟩;refine ⟨_,rfl,?_⟩;replace dG:=bb dG hb;replace bT:=bb bT hb;replace HB:=bq HB hb;(try clear hb);refine hK.out _ _ (hb2 dG).out (fun hHeld=>?_);clear hK K;refine nA 27 ?_;refine oA 3 29 HT_ (fun K hK=>?_);refine gA Tryz.func70 #[.agg #[.string aM,.slice iV aR.length iU],.int .i64 1] ?_;(with_reducible refine (jT.calls k aM _ _ aR 1 t86 _ ?aI ?aW A35.out).mono ?_)
    (case aI=>exact sd (Kd.bJ lX.out HB.out))
    (case aW=>exact rE.out)
    rintro e w41 ⟨rfl,hb⟩;refine ⟨_,rfl,?_⟩;replace dG:=bb dG hb;replace bT:=bb bT hb;replace HB:=bq HB hb;(try clear hb);refine hK.out _ _ (hb2 dG).out (fun hHeld=>?_);clear hK K;refine nA 29 ?_;refine oA 5 31 HT_ (fun K hK=>?_);refine gA Tryz.func69 #[.agg #[.string aM,.slice iV aR.length iU],.int .i64 2,.int .i64 0] ?_;(with_reducible refine (nV.calls aM _ _ aR 2 0 t87 _ ?aI ?aW A36.out).mono ?_)
    (case aI=>exact sd (Kd.bJ lX.out HB.out))
    (case aW=>exact rE.out)
    rintro e tJ ⟨rfl,hb⟩;refine ⟨_,rfl,?_⟩;replace dG:=bb dG hb;replace bT:=bb bT hb;replace HB:=bq HB hb;(try clear hb);refine hK.out _ _ (hb2 dG).out (fun hHeld=>?_);clear hK K;refine nA 31 ?_;refine bV 6 ?_;refine nG (i:=7) (N:=none) #[true,true,true,true,true,true,true,true] rfl rfl (vB HT_.out (by kernel_rfl)) (by decide) (fun K hK=>?_);have aHN:tJ.cell? ⟨dJ,0,none⟩=some (.int .i64 0):=(az bT.out 0).trans rfl;have aDm:=aV bT.out 0;have aHc:=dR.out;have aEY:=lJ.out;have aHO:tJ.cell? ⟨dJ,1,none⟩=some (.string (⟨#[]⟩:ByteArray)):=(az bT.out 1).trans rfl;have aDn:=aV bT.out 1;have aHd:=dR.out;have aEZ:=lJ.out;have auu:tJ.cell? ⟨dJ,2,none⟩=some (.int .i64 0):=(az bT.out 2).trans rfl;have ath:=aV bT.out 2;have auq:=dR.out;have atr:=lJ.out;have aHP:tJ.cell? ⟨dJ,3,none⟩=some (.int .i64 0):=(az bT.out 3).trans rfl;have aDo:=aV bT.out 3;have aHf:=dR.out;have aE1:=lJ.out;have aHQ:tJ.cell? ⟨dJ,4,none⟩=some (.string (⟨#[]⟩:ByteArray)):=(az bT.out 4).trans rfl;have aDp:=aV bT.out 4;have aHg:=dR.out;have aE2:=lJ.out;refine vD (w1:=?_) (by rfl) rfl ?_ ?_
    rotate_left
    ·go_simp
     rfl
    refine hK.out _ _ ⟨((cell_far (p:=⟨dJ,_,none⟩) dR.out _).trans (((cell_far (p:=⟨dJ,_,none⟩) dR.out _).trans (((cell_far (p:=⟨dJ,_,none⟩) dR.out _).trans (((cell_far (p:=⟨dJ,_,none⟩) dR.out _).trans (((cell_far (p:=⟨dJ,_,none⟩) dR.out _).trans (hHeld.1)))))))))),((cell_far (p:=⟨dJ,_,none⟩) dR.out _).trans (((cell_far (p:=⟨dJ,_,none⟩) dR.out _).trans (((cell_far (p:=⟨dJ,_,none⟩) dR.out _).trans (((cell_far (p:=⟨dJ,_,none⟩) dR.out _).trans (((cell_far (p:=⟨dJ,_,none⟩) dR.out _).trans (hHeld.2))))))))))⟩ (fun hHeld=>?_);clear hK K;refine fq (gp HT_.out (by kernel_rfl)) ?_
    try go_wp2
    refine bodyPost_ret (results_cell_row rfl _ _ dJ 95 #[.int .i64 0,.string t85,.int .i64 t86,.int .i64 0,.string t87] (0,0) _ rfl (kp bT) Tryz.underlying95 rfl (by kernel_rfl)) rfl ?_
    exact ⟨ff,bs HB⟩
   ·intro c33 Cy aaK H
    revert H;refine bL ?_ ?_
    ·intro aqT aqU H;replace H:=bo H;obtain ⟨BH,YP,H⟩:=H;replace H:=bo H;obtain ⟨t89,A50,H⟩:=H;replace H:=bo H;obtain ⟨BI,A51,H⟩:=H;replace H:=FQ H;obtain ⟨rfl,rfl,rfl,rfl,rfl⟩:=H
     go_in
     try go_wp2_with (first|((with_reducible refine aN (N:=3) rfl ?_);refine bz 3 (cs:=#[.string aM,.slice iV aR.length iU]) (t:=62) HB ?_;clear HB;intro Wh hg w52 dG Uu hb HB;clear hb hg)|((with_reducible refine aN (N:=4) rfl ?_);refine bz 4 (cs:=#[.int .i64 0,.string (⟨#[]⟩:ByteArray),.int .i64 0,.int .i64 0,.string (⟨#[]⟩:ByteArray)]) (t:=95) HB ?_;clear HB;intro dJ hg w53 bT Ut hb HB;have dR:=na hg dG;have lJ:=nc hg dG;replace dG:=bb dG hb;clear hb hg))
     replace dG:=am (bg dG.out);replace bT:=am (bg bT.out);replace HB:=am (cO HB.out);refine il 8 (hb2 dG) (fun hHeld=>?_);refine gq jd.ayK jd.aqf (fun HT_ HW_=>?_)
     generalize w53.drew=DN at dG bT HB hHeld ⊢
     refine ta 0 ?_;refine ta 2 ?_;refine ta 4 ?_;refine oA 1 36 HT_ (fun K hK=>?_);refine gA Tryz.func70 #[.agg #[.string aM,.slice iV aR.length iU],.int .i64 0] ?_;(with_reducible refine (jT.calls k aM _ _ aR 0 BH _ ?aI ?aW YP.out).mono ?_)
     (case aI=>exact sd (Kd.bJ lX.out HB.out))
     (case aW=>exact rE.out)
     rintro e w55 ⟨rfl,hb⟩;refine ⟨_,rfl,?_⟩;replace dG:=bb dG hb;replace bT:=bb bT hb;replace HB:=bq HB hb;(try clear hb);refine hK.out _ _ (hb2 dG).out (fun hHeld=>?_);clear hK K;refine nA 36 ?_;refine oA 3 38 HT_ (fun K hK=>?_);refine gA Tryz.func70 #[.agg #[.string aM,.slice iV aR.length iU],.int .i64 1] ?_;(with_reducible refine (jT.calls k aM _ _ aR 1 t89 _ ?aI ?aW A50.out).mono ?_)
     (case aI=>exact sd (Kd.bJ lX.out HB.out))
     (case aW=>exact rE.out)
     rintro e w56 ⟨rfl,hb⟩;refine ⟨_,rfl,?_⟩;replace dG:=bb dG hb;replace bT:=bb bT hb;replace HB:=bq HB hb;(try clear hb);refine hK.out _ _ (hb2 dG).out (fun hHeld=>?_);clear hK K;refine nA 38 ?_;refine oA 5 40 HT_ (fun K hK=>?_);refine gA Tryz.func70 #[.agg #[.string aM,.slice iV aR.length iU],.int .i64 2] ?_;(with_reducible refine (jT.calls k aM _ _ aR 2 BI _ ?aI ?aW A51.out).mono ?_)
     (case aI=>exact sd (Kd.bJ lX.out HB.out))
     (case aW=>exact rE.out)
     rintro e Nk ⟨rfl,hb⟩;refine ⟨_,rfl,?_⟩;replace dG:=bb dG hb;replace bT:=bb bT hb;replace HB:=bq HB hb;(try clear hb);refine hK.out _ _ (hb2 dG).out (fun hHeld=>?_);clear hK K;refine nA 40 ?_;refine bV 6 ?_;refine nG (i:=7) (N:=none) #[true,true,true,true,true,true,true,true] rfl rfl (vB HT_.out (by kernel_rfl)) (by decide) (fun K hK=>?_);have aHS:Nk.cell? ⟨dJ,0,none⟩=some (.int .i64 0):=(az bT.out 0).trans rfl;have aDr:=aV bT.out 0;have aHk:=dR.out;have aE6:=lJ.out;have aHT:Nk.cell? ⟨dJ,1,none⟩=some (.string (⟨#[]⟩:ByteArray)):=(az bT.out 1).trans rfl;have aDs:=aV bT.out 1;have aHl:=dR.out;have aE7:=lJ.out;have aHU:Nk.cell? ⟨dJ,2,none⟩=some (.int .i64 0):=(az bT.out 2).trans rfl;have aDt:=aV bT.out 2;have aHm:=dR.out;have aE8:=lJ.out;have aHV:Nk.cell? ⟨dJ,3,none⟩=some (.int .i64 0):=(az bT.out 3).trans rfl;have aDu:=aV bT.out 3;have aHn:=dR.out;have aE9:=lJ.out;have aHW:Nk.cell? ⟨dJ,4,none⟩=some (.string (⟨#[]⟩:ByteArray)):=(az bT.out 4).trans rfl;have aDv:=aV bT.out 4;have aHo:=dR.out;have aFa:=lJ.out;refine vD (w1:=?_) (by rfl) rfl ?_ ?_
     rotate_left
     ·go_simp
      rfl
     refine hK.out _ _ ⟨((cell_far (p:=⟨dJ,_,none⟩) dR.out _).trans (((cell_far (p:=⟨dJ,_,none⟩) dR.out _).trans (((cell_far (p:=⟨dJ,_,none⟩) dR.out _).trans (((cell_far (p:=⟨dJ,_,none⟩) dR.out _).trans (((cell_far (p:=⟨dJ,_,none⟩) dR.out _).trans (hHeld.1)))))))))),((cell_far (p:=⟨dJ,_,none⟩) dR.out _).trans (((cell_far (p:=⟨dJ,_,none⟩) dR.out _).trans (((cell_far (p:=⟨dJ,_,none⟩) dR.out _).trans (((cell_far (p:=⟨dJ,_,none⟩) dR.out _).trans (((cell_far (p:=⟨dJ,_,none⟩) dR.out _).trans (hHeld.2))))))))))⟩ (fun hHeld=>?_);clear hK K;refine fq (gp HT_.out (by kernel_rfl)) ?_
     try go_wp2
     refine bodyPost_ret (results_cell_row rfl _ _ dJ 95 #[.int .i64 BH,.string (⟨#[]⟩:ByteArray),.int .i64 t89,.int .i64 BI,.string (⟨#[]⟩:ByteArray)] (0,0) _ rfl (kp bT) Tryz.underlying95 rfl (by kernel_rfl)) rfl ?_
     exact ⟨ff,bs HB⟩
    ·intro c48 aqT aqU H;replace H:=bo H;obtain ⟨t91,A63,H⟩:=H;replace H:=bo H;obtain ⟨BJ,A64,H⟩:=H;replace H:=bo H;obtain ⟨t93,A65,H⟩:=H;replace H:=FQ H;obtain ⟨rfl,rfl,rfl,rfl,rfl⟩:=H
     go_in
     try go_wp2_with (first|((with_reducible refine aN (N:=3) rfl ?_);refine bz 3 (cs:=#[.string aM,.slice iV aR.length iU]) (t:=62) HB ?_;clear HB;intro Wh hg w66 dG Uu hb HB;clear hb hg)|((with_reducible refine aN (N:=4) rfl ?_);refine bz 4 (cs:=#[.int .i64 0,.string (⟨#[]⟩:ByteArray),.int .i64 0,.int .i64 0,.string (⟨#[]⟩:ByteArray)]) (t:=95) HB ?_;clear HB;intro dJ hg w67 bT Ut hb HB;have dR:=na hg dG;have lJ:=nc hg dG;replace dG:=bb dG hb;clear hb hg))
     replace dG:=am (bg dG.out);replace bT:=am (bg bT.out);replace HB:=am (cO HB.out);refine il 8 (hb2 dG) (fun hHeld=>?_);refine gq jd.JI jd.G7 (fun HT_ HW_=>?_)
     generalize w67.drew=w68 at dG bT HB hHeld ⊢
     refine ta 0 ?_;refine ta 2 ?_;refine ta 4 ?_;refine oA 1 43 HT_ (fun K hK=>?_);refine gA Tryz.func70 #[.agg #[.string aM,.slice iV aR.length iU],.int .i64 0] ?_;(with_reducible refine (jT.calls k aM _ _ aR 0 t91 _ ?aI ?aW A63.out).mono ?_)
     (case aI=>exact sd (Kd.bJ lX.out HB.out))
     (case aW=>exact rE.out)
     rintro e w69 ⟨rfl,hb⟩;refine ⟨_,rfl,?_⟩;replace dG:=bb dG hb;replace bT:=bb bT hb;replace HB:=bq HB hb;(try clear hb);refine hK.out _ _ (hb2 dG).out (fun hHeld=>?_);clear hK K;refine nA 43 ?_;refine oA 3 45 HT_ (fun K hK=>?_);refine gA Tryz.func70 #[.agg #[.string aM,.slice iV aR.length iU],.int .i64 1] ?_;(with_reducible refine (jT.calls k aM _ _ aR 1 BJ _ ?aI ?aW A64.out).mono ?_)
     (case aI=>exact sd (Kd.bJ lX.out HB.out))
     (case aW=>exact rE.out)
     rintro e w70 ⟨rfl,hb⟩;refine ⟨_,rfl,?_⟩;replace dG:=bb dG hb;replace bT:=bb bT hb;replace HB:=bq HB hb;(try clear hb);refine hK.out _ _ (hb2 dG).out (fun hHeld=>?_);clear hK K;refine nA 45 ?_;refine oA 5 47 HT_ (fun K hK=>?_);refine gA Tryz.func69 #[.agg #[.string aM,.slice iV aR.length iU],.int .i64 2,.int .i64 0] ?_;(with_reducible refine (nV.calls aM _ _ aR 2 0 t93 _ ?aI ?aW A65.out).mono ?_)
     (case aI=>exact sd (Kd.bJ lX.out HB.out))
     (case aW=>exact rE.out)
     rintro e Nl ⟨rfl,hb⟩;refine ⟨_,rfl,?_⟩;replace dG:=bb dG hb;replace bT:=bb bT hb;replace HB:=bq HB hb;(try clear hb);refine hK.out _ _ (hb2 dG).out (fun hHeld=>?_);clear hK K;refine nA 47 ?_;refine bV 6 ?_;refine nG (i:=7) (N:=none) #[true,true,true,true,true,true,true,true] rfl rfl (vB HT_.out (by kernel_rfl)) (by decide) (fun K hK=>?_);have aHZ:Nl.cell? ⟨dJ,0,none⟩=some (.int .i64 0):=(az bT.out 0).trans rfl;have aDx:=aV bT.out 0;have aHs:=dR.out;have aFe:=lJ.out;have aH0:Nl.cell? ⟨dJ,1,none⟩=some (.string (⟨#[]⟩:ByteArray)):=(az bT.out 1).trans rfl;have aDy:=aV bT.out 1;have aHt:=dR.out;have aFf:=lJ.out;have aH1:Nl.cell? ⟨dJ,2,none⟩=some (.int .i64 0):=(az bT.out 2).trans rfl;have aDz:=aV bT.out 2;have aHu:=dR.out;have aFg:=lJ.out;have aH2:Nl.cell? ⟨dJ,3,none⟩=some (.int .i64 0):=(az bT.out 3).trans rfl;have aDA:=aV bT.out 3;have aHv:=dR.out;have aFh:=lJ.out;have aH3:Nl.cell? ⟨dJ,4,none⟩=some (.string (⟨#[]⟩:ByteArray)):=(az bT.out 4).trans rfl;have aDB:=aV bT.out 4;have aHw:=dR.out;have aFi:=lJ.out;refine vD (w1:=?_) (by rfl) rfl ?_ ?_
     rotate_left
     ·go_simp
      rfl
     refine hK.out _ _ ⟨((cell_far (p:=⟨dJ,_,none⟩) dR.out _).trans (((cell_far (p:=⟨dJ,_,none⟩) dR.out _).trans (((cell_far (p:=⟨dJ,_,none⟩) dR.out _).trans (((cell_far (p:=⟨dJ,_,none⟩) dR.out _).trans (((cell_far (p:=⟨dJ,_,none⟩) dR.out _).trans (hHeld.1)))))))))),((cell_far (p:=⟨dJ,_,none⟩) dR.out _).trans (((cell_far (p:=⟨dJ,_,none⟩) dR.out _).trans (((cell_far (p:=⟨dJ,_,none⟩) dR.out _).trans (((cell_far (p:=⟨dJ,_,none⟩) dR.out _).trans (((cell_far (p:=⟨dJ,_,none⟩) dR.out _).trans (hHeld.2))))))))))⟩ (fun hHeld=>?_);clear hK K;refine fq (gp HT_.out (by kernel_rfl)) ?_
     try go_wp2
     refine bodyPost_ret (results_cell_row rfl _ _ dJ 95 #[.int .i64 t91,.string (⟨#[]⟩:ByteArray),.int .i64 BJ,.int .i64 0,.string t93] (0,0) _ rfl (kp bT) Tryz.underlying95 rfl (by kernel_rfl)) rfl ?_
     exact ⟨ff,bs HB⟩
theorem Jh.calls (a0:Int) (r:Bool) (w:World) (H:Jh.f a0=some r) :
  Calls Tryz.prog 72 #[.int .i64 a0] w fun e w'=>e=.returned (.bool r)∧aT w w':=by
 unfold Jh.f at H
 revert H;refine gz ?_ ?_
 ·intro c2 H;have gJ:decide (1≤a0)=true:=decide_eq_true c2;clear c2;obtain rfl:=si H
  go_in
  go_wp2
  go_ret
  exact ⟨fg,dr⟩
 ·intro c2 H;have gJ:decide (1≤a0)=false:=decide_eq_false c2;clear c2;obtain rfl:=si H
  go_in
  go_wp2
  go_ret
  exact ⟨fg,dr⟩
theorem Ji.calls (a0:Int) (r:Bool) (w:World) (H:Ji.f a0=some r) :
  Calls Tryz.prog 73 #[.int .i64 a0] w fun e w'=>e=.returned (.bool r)∧aT w w':=by
 unfold Ji.f at H
 revert H;refine bL ?_ ?_
 ·intro gJ ja H;obtain rfl:=si H
  go_in
  go_wp2
  go_ret
  exact ⟨fg,dr⟩
 ·intro c2 gJ ja H
  revert H;refine bL ?_ ?_
  ·intro bN fo H;obtain rfl:=si H
   go_in
   go_wp2
   go_ret
   exact ⟨fg,dr⟩
  ·intro c3 bN fo H;obtain rfl:=si H
   go_in
   go_wp2
   go_ret
   exact ⟨fg,dr⟩
theorem kL.calls (k:Nat) (ag:ByteArray) (iw:Option Addr) (gV:Nat) (aK:List (dw)) (aM:ByteArray) (iV:Option Addr) (iU:Nat) (aR:List (dw)) (r:Bool) (w:World) (mR:Kd.C lG w iw aK.length aK) (mQ:aK.length≤gV) (zQ:Kd.C lG w iV aR.length aR) (zJ:aR.length≤iU) (H:kL.f k ag aK aM aR=some r) :
  Calls Tryz.prog 74 #[.agg #[.string ag,.slice iw aK.length gV],.agg #[.string aM,.slice iV aR.length iU]] w fun e w'=>e=.returned (.bool r)∧Below w.heap.size w w':=by
 have qR:=Tryz.underlying62;have mq:=am mR;have vT:=am mQ;clear mR mQ;have lX:=am zQ;have rE:=am zJ;clear zQ zJ;have HB:=am (Below.refl w.heap.size w);unfold kL.f at H;have uK:=am H;clear H
 go_in
 go_upto_region 1 with (first|((with_reducible refine aN (N:=2) rfl ?_);(try (refine iM (by rfl) ?_;dsimp only));refine bz 2 (cs:=#[.string ag,.slice iw aK.length gV]) (t:=62) HB ?_;clear HB;intro PO hg w4 kM aeP hb HB;clear hb hg)|((with_reducible refine aN (N:=3) rfl ?_);(try (refine iM (by rfl) ?_;dsimp only));refine bz 3 (cs:=#[.string aM,.slice iV aR.length iU]) (t:=62) HB ?_;clear HB;intro PQ hg w5 qM aeQ hb HB;have AJ:=na hg kM;have AL:=nc hg kM;replace kM:=bb kM hb;clear hb hg))
 repeat (go_quiet (first|((with_reducible refine aN (N:=2) rfl ?_);(try (refine iM (by rfl) ?_;dsimp only));refine bz 2 (cs:=#[.string ag,.slice iw aK.length gV]) (t:=62) HB ?_;clear HB;intro PO hg w4 kM aeP hb HB;clear hb hg)|((with_reducible refine aN (N:=3) rfl ?_);(try (refine iM (by rfl) ?_;dsimp only));refine bz 3 (cs:=#[.string aM,.slice iV aR.length iU]) (t:=62) HB ?_;clear HB;intro PQ hg w5 qM aeQ hb HB;have AJ:=na hg kM;have AL:=nc hg kM;replace kM:=bb kM hb;clear hb hg));go_upto_region 1 with (first|((with_reducible refine aN (N:=2) rfl ?_);(try (refine iM (by rfl) ?_;dsimp only));refine bz 2 (cs:=#[.string ag,.slice iw aK.length gV]) (t:=62) HB ?_;clear HB;intro PO hg w4 kM aeP hb HB;clear hb hg)|((with_reducible refine aN (N:=3) rfl ?_);(try (refine iM (by rfl) ?_;dsimp only));refine bz 3 (cs:=#[.string aM,.slice iV aR.length iU]) (t:=62) HB ?_;clear HB;intro PQ hg w5 qM aeQ hb HB;have AJ:=na hg kM;have AL:=nc hg kM;replace kM:=bb kM hb;clear hb hg)))
 (try simp only [Act.put,List.setIfInBounds_toArray,List.set_cons_zero,List.set_cons_succ])
 go_cut [20] (fun v20 wc=>∃ (kq:Nat) (Yh:Bool),v20=.bool Yh∧af (kL.j0 kq Yh ag aK aM aR=some r)∧af (kq≤k)∧af (wc.heap[PO]? = some (.cells #[.string ag,(.slice iw aK.length gV)] 62 (0,0)))∧af (wc.heap[PQ]? = some (.cells #[.string aM,(.slice iV aR.length iU)] 62 (0,0)))∧af (Below w.heap.size w wc))
 case first =>
  have H:=uK.out;clear uK
  revert H;refine bL ?_ ?_
  ·intro gQ pW H
   (first|rw [gQ]|(simp only [fu,gy];rw [gQ])|rw [pW]|skip)
   have H':=am H;clear H;have ajk:=AJ.out;have ajw:=AL.out;have CR:=gG kM;have CS:=gG qM
   go_wp2
   repeat (go_quiet (fail);try go_wp2)
   go_meet
   case rel=>exact ⟨_,(((aK.length:Int) != (aR.length:Int))),fg,H',⟨fl⟩,⟨ks kM⟩,⟨ks qM⟩,⟨bs HB⟩⟩
  ·intro c6 gQ pW H
   (first|rw [gQ]|(simp only [fu,gy];rw [gQ])|rw [pW]|skip)
   have H':=am H;clear H;have Wx:=AJ.out;have Wz:=AL.out;have Bd:=gG kM;have CP:=gG qM
   go_wp2
   repeat (go_quiet (fail);try go_wp2)
   go_meet
   case rel=>exact ⟨_,(true),fg,H',⟨fl⟩,⟨ks kM⟩,⟨ks qM⟩,⟨bs HB⟩⟩
 case rest =>
  clear uK
  obtain ⟨kq,Yh,rfl,HA,HJ2,kM,qM,HB⟩:=hcut
  cases kq with
  | zero=>exact absurd HA.out (by simp [kL.j0])
  | succ Dq =>
   have H:=HA.out;clear HA;simp only [kL.j0] at H
   obtain rfl|rfl:=bt Yh
   ·replace H:=dE H;obtain rfl:=si H
    go_wp2
    repeat (go_quiet (fail);try go_wp2)
    go_ret
    exact ⟨ff,bs HB⟩
   ·replace H:=dD H;have H':=am H;clear H
    go_wp2
    repeat (go_quiet (fail);try go_wp2)
    go_loopg [5] Dq (fun kq v5 w'=>∃ (eG:Int),v5=.int .i64 eG∧af (kL.l0 kq eG ag aK aM aR=some r)∧af (kq≤Dq)∧af (w'.heap[PO]? = some (.cells #[.string ag,(.slice iw aK.length gV)] 62 (0,0)))∧af (w'.heap[PQ]? = some (.cells #[.string aM,(.slice iV aR.length iU)] 62 (0,0)))∧af (Below w.heap.size w w'))
    case atStart=>exact ⟨(0),fg,H',⟨Nat.le_refl _⟩,⟨ks kM⟩,⟨ks qM⟩,⟨bs HB⟩⟩
    case round =>
     clear H'
     try clear kM
     try clear qM
     obtain ⟨eG,rfl,HA,cz,kM,qM,HB⟩:=hrel
     cases gk with
     | zero=>exact absurd HA.out (by simp [kL.l0])
     | succ k2 =>
      have H:=HA.out;clear HA;simp only [kL.l0] at H
      revert H;refine cB ?_ ?_
      ·intro oU H
       revert H;refine bu ?_
       intro uh H
       revert H;refine bu ?_
       intro vZ H
       revert H;refine Dk ?_ ?_
       ·intro c17 oo AX H
        have agO:(((aH aK eG).f0).length == ((aH aR eG).f0).length)=true:=by first|simpa using c17|(simp at c17 ⊢;omega)
        clear c17;have H':=am H;clear H;have aja:=AJ.out;have ajm:=AL.out;have Ie:=gG kM;obtain ⟨p42,q42,sO,amb,aqM,e42,Dc,QD,Qh⟩:=wi (lZ mq.out eG)
        cases e42
        replace Dc:=cb HB Dc;have an2:=am Qh;have am9:=am QD;clear Qh QD;have EP:=gG qM;obtain ⟨p43,q43,Vd,amc,aqO,e43,Ma,QE,Qi⟩:=wi (lZ lX.out eG)
        cases e43
        replace Ma:=cb HB Ma;have an3:=am Qi;have ana:=am QE;clear Qi QE
        go_wp2
        repeat (go_quiet (fail);try go_wp2)
        go_loopg [6] k2 (fun kq v6 w'=>∃ (gX:Int),v6=.int .i64 gX∧af (kL.l1 kq eG gX ag aK aM aR=some r)∧af (kq≤k2)∧af (w'.heap[PO]? = some (.cells #[.string ag,(.slice (some sO) aK.length gV)] 62 (0,0)))∧af (w'.heap[PQ]? = some (.cells #[.string aM,(.slice (some Vd) aR.length iU)] 62 (0,0)))∧af (Below w.heap.size w w'))
        case atStart=>exact ⟨(0),fg,H',⟨Nat.le_refl _⟩,⟨ks kM⟩,⟨ks qM⟩,⟨bs HB⟩⟩
        case round =>
         clear H'
         try clear oU
         try clear uh
         try clear vZ
         try clear c17
         try clear oo
         try clear AX
         try clear agO
         try clear Ie
         try clear EP
         try clear Dc
         try clear Ma
         try clear p42
         try clear p43
         try clear q42
         try clear q43
         try clear kM
         try clear qM
         obtain ⟨gX,rfl,HA,pU,kM,qM,HB⟩:=hrel
         cases gk with
         | zero=>exact absurd HA.out (by simp [kL.l1])
         | succ k3 =>
          have H:=HA.out;clear HA;simp only [kL.l1] at H
          revert H;refine bu ?_
          intro xH H
          revert H;refine bu ?_
          intro EC H
          revert H;refine cB ?_ ?_
          ·intro ED H
           revert H;refine bu ?_
           intro uj H
           revert H;refine bu ?_
           intro AY H
           revert H;refine bu ?_
           intro O9 H
           revert H;refine bL ?_ ?_
           ·intro Hq aqC H;have H':=am H;clear H;have QO:=AJ.out;have QQ:=AL.out;have Ih:=gG kM;obtain ⟨Xr,Xx,GZ,aep,agN,e13,qp,EX,ES⟩:=wi (lZ mq.out eG);obtain rfl:sO=GZ:=(by injection e13);replace qp:=cb HB qp;have afe:=am ES;have aeT:=am EX;clear ES EX;obtain ⟨p44,q44,aar,amd,aqQ,e44,Iq,QF,Qj⟩:=wi (lZ mq.out eG);obtain rfl:sO=aar:=(by injection e44);replace Iq:=cb HB Iq;have ZM:=am Qj;have anb:=am QF;clear Qj QF;(try (have ea_:=Option.some.inj (qp.symm.trans Iq);injection ea_ with ea_ en_ ec_;subst ea_;subst ec_;clear en_));obtain ⟨p47,q47,apS,e47,RI⟩:=wi (Kd.iZ ZM.out gX)
            cases e47
            replace RI:=cb HB RI;have ahT:=gG qM;obtain ⟨p45,q45,aas,ame,aqS,e45,RH,QG,Qk⟩:=wi (lZ lX.out eG);obtain rfl:Vd=aas:=(by injection e45);replace RH:=cb HB RH;have ZN:=am Qk;have anc:=am QG;clear Qk QG;obtain ⟨p48,q48,apT,e48,RJ⟩:=wi (Kd.iZ ZN.out gX)
            cases e48
            replace RJ:=cb HB RJ
            go_wp2
            repeat (go_quiet (fail);try go_wp2)
            go_roundg k3
            case measure=>have:=HJ2.out;have:=cz.out;have:=pU.out;omega
            case rel=>exact ⟨(wrap64 (gX+1)),fg,H',⟨by have:=HJ2.out;have:=cz.out;have:=pU.out;omega⟩,⟨ks kM⟩,⟨ks qM⟩,⟨bs HB⟩⟩
           ·intro wm Hq aqC H;obtain rfl:=si H;have QP:=AJ.out;have QR:=AL.out;have PZ:=gG kM;obtain ⟨Xr,Xx,GZ,aep,agN,e13,qp,EX,ES⟩:=wi (lZ mq.out eG);obtain rfl:sO=GZ:=(by injection e13);replace qp:=cb HB qp;have afe:=am ES;have aeT:=am EX;clear ES EX;obtain ⟨p44,q44,aar,amd,aqQ,e44,Iq,QF,Qj⟩:=wi (lZ mq.out eG);obtain rfl:sO=aar:=(by injection e44);replace Iq:=cb HB Iq;have ZM:=am Qj;have anb:=am QF;clear Qj QF;(try (have ea_:=Option.some.inj (qp.symm.trans Iq);injection ea_ with ea_ en_ ec_;subst ea_;subst ec_;clear en_));obtain ⟨p47,q47,apS,e47,RI⟩:=wi (Kd.iZ ZM.out gX)
            cases e47
            replace RI:=cb HB RI;have Wp:=gG qM;obtain ⟨p45,q45,aas,ame,aqS,e45,RH,QG,Qk⟩:=wi (lZ lX.out eG);obtain rfl:Vd=aas:=(by injection e45);replace RH:=cb HB RH;have ZN:=am Qk;have anc:=am QG;clear Qk QG;obtain ⟨p48,q48,apT,e48,RJ⟩:=wi (Kd.iZ ZN.out gX)
            cases e48
            replace RJ:=cb HB RJ
            go_wp2
            repeat (go_quiet (fail);try go_wp2)
            go_ret
            exact ⟨ff,bs HB⟩
          ·intro ED H;have H':=am H;clear H;have abG:=AJ.out;have abK:=AL.out;have Wq:=gG kM;obtain ⟨Xr,Xx,GZ,aep,agN,e13,qp,EX,ES⟩:=wi (lZ mq.out eG);obtain rfl:sO=GZ:=(by injection e13);replace qp:=cb HB qp;have afe:=am ES;have aeT:=am EX;clear ES EX
           go_wp2
           repeat (go_quiet (fail);try go_wp2)
           go_roundg k3
           case measure=>have:=HJ2.out;have:=cz.out;have:=pU.out;omega
           case rel=>exact ⟨(wrap64 (eG+1)),fg,H',⟨by have:=HJ2.out;have:=cz.out;have:=pU.out;omega⟩,⟨ks kM⟩,⟨ks qM⟩,⟨bs HB⟩⟩
       ·intro c17 oo AX H
        have agO:(((aH aK eG).f0).length == ((aH aR eG).f0).length)=false:=by first|simpa using c17|(simp at c17 ⊢;omega)
        obtain rfl:=si H;have atE:=AJ.out;have aua:=AL.out;have abj:=gG kM;obtain ⟨p42,q42,sO,amb,aqM,e42,Dc,QD,Qh⟩:=wi (lZ mq.out eG)
        cases e42
        replace Dc:=cb HB Dc;have an2:=am Qh;have am9:=am QD;clear Qh QD;have Ii:=gG qM;obtain ⟨p43,q43,Vd,amc,aqO,e43,Ma,QE,Qi⟩:=wi (lZ lX.out eG)
        cases e43
        replace Ma:=cb HB Ma;have an3:=am Qi;have ana:=am QE;clear Qi QE
        go_wp2
        repeat (go_quiet (fail);try go_wp2)
        go_ret
        exact ⟨ff,bs HB⟩
      ·intro oU H;obtain rfl:=si H;have aFC:=AJ.out;have aGn:=AL.out;have aCz:=gG kM
       go_wp2
       repeat (go_quiet (fail);try go_wp2)
       go_ret
       exact ⟨ff,bs HB⟩
end Go.Proofs.YtapilmimgiaglaaGreatDoor.QA
