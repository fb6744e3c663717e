-- Merged by a program of this session (wip/tool/pack.py) out of its own texts for this claim.
import Derived.Test.YtapilmimgiaglaaGreatDoorKFnExactParcelRight20
set_option maxHeartbeats 8000000
set_option maxRecDepth 100000
set_option linter.unusedSimpArgs false
set_option linter.unusedVariables false
namespace Go.Proofs.YtapilmimgiaglaaGreatDoor.QA
open Go.RowKit Go.Proofs.bB.fA Go.Proofs.bB.PrintLast Go.Proofs.bB.PrintMore
attribute [local go_sem] o6 pg o9 pE o8 pz o7 pq   -- for this text's walks alone
theorem Mv.calls  (r:List ByteArray) (w:World) (H:Mv.f  = some r) :
  Calls Tryz.prog 143 #[] w fun e w'=>∃ kT:Value,e=.returned (kT)∧Kd.R Kd.string 9 w' w.heap.size (fun _=>True) kT r∧Below w.heap.size w w':=by
 have HB:=am (Below.refl w.heap.size w);unfold Mv.f at H;obtain ⟨y3,hy3⟩:∃ y_:List ByteArray,y_=(([(⟨#[73,88,72]⟩:ByteArray),(⟨#[71,82,72]⟩:ByteArray),(⟨#[77,83,72]⟩:ByteArray),(⟨#[77,83,84]⟩:ByteArray),(⟨#[71,82,84]⟩:ByteArray),(⟨#[73,88,84]⟩:ByteArray)]:List ByteArray)):=⟨_,rfl⟩
 replace H:(some y3)=some r:=ye hy3 H
 have Ny3:=am hy3;clear hy3;obtain rfl:=si H
 go_in
 go_wp2_with (first|((with_reducible refine aN (N:=1) rfl ?_);refine rl Kd.string 9 (N:=1) (xs:=([(⟨#[73,88,72]⟩:ByteArray),(⟨#[71,82,72]⟩:ByteArray),(⟨#[77,83,72]⟩:ByteArray),(⟨#[77,83,84]⟩:ByteArray),(⟨#[71,82,84]⟩:ByteArray),(⟨#[73,88,84]⟩:ByteArray)]:List ByteArray)) (inner:=[.string (⟨#[73,88,72]⟩:ByteArray),.string (⟨#[71,82,72]⟩:ByteArray),.string (⟨#[77,83,72]⟩:ByteArray),.string (⟨#[77,83,84]⟩:ByteArray),.string (⟨#[71,82,84]⟩:ByteArray),.string (⟨#[73,88,84]⟩:ByteArray)]) ?hp ?_;(case hp=>exact (aQ.one (show Kd.M Kd.string _ _ _ (⟨#[73,88,72]⟩:ByteArray) [.string (⟨#[73,88,72]⟩:ByteArray)] from rfl) (aQ.one (show Kd.M Kd.string _ _ _ (⟨#[71,82,72]⟩:ByteArray) [.string (⟨#[71,82,72]⟩:ByteArray)] from rfl) (aQ.one (show Kd.M Kd.string _ _ _ (⟨#[77,83,72]⟩:ByteArray) [.string (⟨#[77,83,72]⟩:ByteArray)] from rfl) (aQ.one (show Kd.M Kd.string _ _ _ (⟨#[77,83,84]⟩:ByteArray) [.string (⟨#[77,83,84]⟩:ByteArray)] from rfl) (aQ.one (show Kd.M Kd.string _ _ _ (⟨#[71,82,84]⟩:ByteArray) [.string (⟨#[71,82,84]⟩:ByteArray)] from rfl) (aQ.one (show Kd.M Kd.string _ _ _ (⟨#[73,88,84]⟩:ByteArray) [.string (⟨#[73,88,84]⟩:ByteArray)] from rfl) (aQ.none _ _))))))));intro v5 w1 ho2 hb hg_ hnew_;clear hg_ hnew_;(first|rw [← Ny3.out] at ho2|(simp only [Int.reduceToNat] at ho2;rw [← Ny3.out] at ho2));have HO4:=am (Kd.gU ho2 (bC (bs HB)));replace HB:=bq HB hb;clear hb ho2))
 go_ret
 exact ⟨_,ff,by (with_reducible repeat (first|apply Kd.jW|apply Kd.jk|apply Kd.dY));exact HO4.out,bs HB⟩
theorem vF.calls (k:Nat) (A0:Option Addr) (c0:Nat) (l0:List ByteArray) (a1:ByteArray) (r:Int) (w:World) (hr0:Kd.C Kd.string w A0 l0.length l0) (hc0:l0.length≤c0) (H:vF.f k l0 a1=some r) :
  Calls Tryz.prog 163 #[.slice A0 l0.length c0,.string a1] w fun e w'=>e=.returned (.int .i64 r)∧aT w w':=by
 have fZ:=am hr0;have ku:=am hc0;clear hr0 hc0;unfold vF.f at H;have H':=am H;clear H
 go_in
 go_wp2
 go_loopg [8] k (fun kq v8 w'=>∃ (aA:Int),v8=.int .i64 aA∧af (vF.l0 kq l0 a1 (l0.length:Int) aA=some r)∧af (kq≤k)∧aT w w')
 case atStart=>exact ⟨(0),fg,H',⟨Nat.le_refl _⟩,by repeat (first|exact aT.refl _|apply aT.step)⟩
 case round =>
  clear H'
  obtain ⟨aA,rfl,HA,aU,⟨m1,rfl⟩⟩:=hrel
  cases gk with
  | zero=>exact absurd HA.out (by simp [vF.l0])
  | succ k1 =>
   have H:=HA.out;clear HA;simp only [vF.l0] at H
   revert H;refine cB ?_ ?_
   ·intro bN H
    revert H;refine bu ?_
    intro dS H
    revert H;refine bu ?_
    intro kv H
    revert H;refine bL ?_ ?_
    ·intro gQ pW H;obtain rfl:=si H;obtain ⟨p7,q7,OV,e7,Sg⟩:=wi (Kd.iZ fZ.out aA)
     cases e7
     go_wp2
     go_ret
     exact ⟨fg,dr⟩
    ·intro c6 gQ pW H;have H':=am H;clear H;obtain ⟨p7,q7,OV,e7,Sg⟩:=wi (Kd.iZ fZ.out aA)
     cases e7
     go_wp2
     go_roundg k1
     case measure=>have:=aU.out;omega
     case rel=>exact ⟨(wrap64 (aA+1)),fg,H',⟨by have:=aU.out;omega⟩,by repeat (first|exact aT.refl _|apply aT.step)⟩
   ·intro bN H;obtain rfl:=si H
    go_wp2
    go_ret
    exact ⟨fg,dr⟩
theorem Jf.calls (k:Nat) (A0:Option Addr) (c0:Nat) (l0:List ByteArray) (a1:ByteArray) (r:Bool) (w:World) (hr0:Kd.C Kd.string w A0 l0.length l0) (hc0:l0.length≤c0) (H:Jf.f k l0 a1=some r) :
  Calls Tryz.prog 142 #[.slice A0 l0.length c0,.string a1] w fun e w'=>e=.returned (.bool r)∧aT w w':=by
 have fZ:=am hr0;have ku:=am hc0;clear hr0 hc0;unfold Jf.f at H;replace H:=bo H;obtain ⟨t4,A3,H⟩:=H;obtain rfl:=si H
 go_in
 go_wp2_with (first|((go_at_call 163;(with_reducible refine (vF.calls k _ _ l0 a1 t4 _ ?aI ku.out A3.out).mono ?_);(case aI=>exact sd fZ.out);rintro e w' ⟨rfl,⟨nd,rfl⟩⟩)))
 go_ret
 exact ⟨fg,dr⟩
def rV.T1:Bool × List (List Nat × List Nat):=(true,[([],[]),([0],[0]),([1,1],[1]),([2,2],[2]),([2],[2]),([4,2],[2,4]),([3,5,3,2],[2,3,5]),([6,2],[2,6]),([2,7],[2,7]),([8,6,0,1,2,3,4,5,6,7,8],[8])])
def rV.B1:List Nat:=[0,1,3,7,7,23,63,127,255,511]
theorem rV.alj:fJ .any (opsOf Tryz.f126 1)=rV.T1:=by kernel_rfl
theorem rV.agt:iY rV.T1.2 rV.B1=true:=by kernel_rfl
theorem rV.calls (k:Nat) (ag:ByteArray) (iw:Option Addr) (gV:Nat) (aK:List (dw)) (r:Bool) (w:World) (mR:Kd.C lG w iw aK.length aK) (mQ:aK.length≤gV) (H:rV.f k ag aK=some r) :
  Calls Tryz.prog 126 #[.agg #[.string ag,.slice iw aK.length gV]] w fun e w'=>e=.returned (.bool r)∧Below w.heap.size w w':=by
 have qR:=Tryz.underlying62;have mq:=am mR;have vT:=am mQ;clear mR mQ;have HB:=am (Below.refl w.heap.size w);unfold rV.f at H;replace H:=bo H;obtain ⟨t17,A2,H⟩:=H
 obtain rfl|rfl:=bt t17
 ·replace H:=dE H;replace H:=bo H;obtain ⟨vH,A4,H⟩:=H;replace H:=bo H;obtain ⟨mf,A5,H⟩:=H;obtain rfl:=si H
  go_in
  try go_wp2_with (first|((with_reducible refine aN (N:=1) rfl ?_);refine bz 1 (cs:=#[.string ag,.slice iw aK.length gV]) (t:=62) HB ?_;clear HB;intro Wd hg w6 mg Us hb HB;clear hb hg))
  replace mg:=am (bg mg.out);replace HB:=am (cO HB.out);refine il 10 (hb2 mg) (fun hHeld=>?_);refine gq rV.alj rV.agt (fun HT_ HW_=>?_)
  generalize w6.drew=w7 at mg HB hHeld ⊢
  refine ta 0 ?_;refine oA 1 4 HT_ (fun K hK=>?_);refine gA Tryz.func141 #[.agg #[.string ag,.slice iw aK.length gV]] ?_;(with_reducible refine (mD.calls k ag _ _ aK true _ ?aI ?aW A2.out).mono ?_)
  (case aI=>exact sd (Kd.bJ mq.out HB.out))
  (case aW=>exact vT.out)
  rintro e w8 ⟨rfl,hb⟩;refine ⟨_,rfl,?_⟩;replace mg:=bb mg hb;replace HB:=bq HB hb;(try clear hb);refine hK.out _ _ (hb2 mg).out (fun hHeld=>?_);clear hK K;refine nA 4 ?_;refine bV 2 ?_;refine bV 4 ?_;refine ta 5 ?_;refine oA 3 6 HT_ (fun K hK=>?_);refine gA Tryz.func143 #[] ?_;(with_reducible refine (Mv.calls  vH _ A4.out).mono ?_);rintro e w9 ⟨v19,rfl,ho0,hb⟩;refine ⟨_,rfl,?_⟩;have Cm:=am (Kd.gU ho0 (bC (bs HB)));replace mg:=bb mg hb;replace HB:=bq HB hb;(try clear hb);(try clear ho0);obtain ⟨aev,Po,HZ⟩:=Kd.iy Cm.out
  (first|subst HZ|(injection HZ with dZ iJ d9;have iK:=dZ.symm;have iL:=d9.symm;clear dZ iJ d9;subst iK;subst iL))
  refine hK.out _ _ (hb2 mg).out (fun hHeld=>?_);clear hK K;refine nA 6 ?_;refine oA 6 9 HT_ (fun K hK=>?_);refine gA Tryz.func142 #[.slice aev vH.length Po,.string ag] ?_;(with_reducible refine (Jf.calls k _ _ vH ag mf _ ?aI ?aW A5.out).mono ?_)
  (case aI=>exact sd (Kd.dU Cm.out).2.2)
  (case aW=>exact (Kd.dU Cm.out).2.1)
  rintro e w' ⟨rfl,⟨nd,rfl⟩⟩;refine ⟨_,rfl,?_⟩;refine hK.out _ _ (hb2 mg).out (fun hHeld=>?_);clear hK K;refine nA 9 ?_;refine kZ 7 ?_;refine fq (gp HT_.out (by kernel_rfl)) ?_
  try go_wp2
  go_ret
  exact ⟨ff,bs HB⟩
 ·replace H:=dD H;obtain rfl:=si H
  go_in
  try go_wp2_with (first|((with_reducible refine aN (N:=1) rfl ?_);refine bz 1 (cs:=#[.string ag,.slice iw aK.length gV]) (t:=62) HB ?_;clear HB;intro Wd hg kU mg Us hb HB;clear hb hg))
  replace mg:=am (bg mg.out);replace HB:=am (cO HB.out);refine il 10 (hb2 mg) (fun hHeld=>?_);refine gq rV.alj rV.agt (fun HT_ HW_=>?_)
  generalize kU.drew=wS at mg HB hHeld ⊢
  refine ta 0 ?_;refine oA 1 4 HT_ (fun K hK=>?_);refine gA Tryz.func141 #[.agg #[.string ag,.slice iw aK.length gV]] ?_;(with_reducible refine (mD.calls k ag _ _ aK false _ ?aI ?aW A2.out).mono ?_)
  (case aI=>exact sd (Kd.bJ mq.out HB.out))
  (case aW=>exact vT.out)
  rintro e vO ⟨rfl,hb⟩;refine ⟨_,rfl,?_⟩;replace mg:=bb mg hb;replace HB:=bq HB hb;(try clear hb);refine hK.out _ _ (hb2 mg).out (fun hHeld=>?_);clear hK K;refine nA 4 ?_;refine lH 2 ?_;refine fq (gp HT_.out (by kernel_rfl)) ?_
  try go_wp2
  go_ret
  exact ⟨ff,bs HB⟩
theorem Mt.calls (k:Nat) (ag:ByteArray) (iw:Option Addr) (gV:Nat) (aK:List (dw)) (r:Bool) (w:World) (mR:Kd.C lG w iw aK.length aK) (mQ:aK.length≤gV) (H:Mt.f k ag aK=some r) :
  Calls Tryz.prog 125 #[.agg #[.string ag,.slice iw aK.length gV]] w fun e w'=>e=.returned (.bool r)∧Below w.heap.size w w':=by
 have qR:=Tryz.underlying62;have mq:=am mR;have vT:=am mQ;clear mR mQ;have HB:=am (Below.refl w.heap.size w);unfold Mt.f at H;replace H:=bo H;obtain ⟨t7,A2,H⟩:=H;obtain rfl:=si H
 go_in
 go_wp2_with (first|((with_reducible refine aN (N:=1) rfl ?_);refine bz 1 (cs:=#[.string ag,.slice iw aK.length gV]) (t:=62) HB ?_;clear HB;intro ul hg w3 jQ YY hb HB;clear hb hg;have P6:w3.cell? ⟨ul,0,none⟩=some (.string ag):=(az jQ.out 0).trans rfl;have P7:w3.cell? ⟨ul,1,none⟩=some (.slice iw aK.length gV):=(az jQ.out 1).trans rfl;have P9:=aV jQ.out 0;have Qa:=aV jQ.out 1)|((go_at_call 126;(with_reducible refine (rV.calls k ag _ _ aK t7 _ (Kd.bJ mq.out (bs HB)) vT.out A2.out).mono ?_);rintro e w5 ⟨rfl,hb⟩);replace jQ:=bb jQ hb;replace HB:=bq HB hb;(try clear hb)))
 go_ret
 exact ⟨ff,bs HB⟩
theorem vv.calls (k:Nat) (A0:Option Addr) (c0:Nat) (l0:List (bA))  (r:Int) (w:World) (hr0:Kd.C kS w A0 l0.length l0) (hc0:l0.length≤c0) (H:vv.f k l0=some r) :
  Calls Tryz.prog 140 #[.slice A0 l0.length c0,.func (.func 125) #[] #[]] w fun e w'=>e=.returned (.int .i64 r)∧Below w.heap.size w w':=by
 have qR:=Tryz.underlying62;have fZ:=am hr0;have ku:=am hc0;clear hr0 hc0;have HB:=am (Below.refl w.heap.size w);unfold vv.f at H;have H':=am H;clear H
 go_in
 go_wp2
 go_loopg [8] k (fun kq v8 w'=>∃ (aA:Int),v8=.int .i64 aA∧af (vv.l0 kq l0 (l0.length:Int) aA=some r)∧af (kq≤k)∧af (Below w.heap.size w w'))
 case atStart=>exact ⟨(0),fg,H',⟨Nat.le_refl _⟩,⟨bs HB⟩⟩
 case round =>
  clear H'
  obtain ⟨aA,rfl,HA,aU,HB⟩:=hrel
  cases gk with
  | zero=>exact absurd HA.out (by simp [vv.l0])
  | succ k1 =>
   have H:=HA.out;clear HA;simp only [vv.l0] at H
   revert H;refine cB ?_ ?_
   ·intro bN H
    revert H;refine bu ?_
    intro dS H
    revert H;refine bu ?_
    intro kv H;replace H:=bo H;obtain ⟨pF,A6,H⟩:=H;obtain ⟨p9,q9,yj,amg,aq3,e9,nD,qw,QL,Qp⟩:=wi (lv fZ.out aA)
    cases e9
    replace nD:=cb HB nD;replace qw:=cb HB qw;have ZP:=am Qp;have Zr:=am QL;clear Qp QL
    try go_wp2_with (fail)
    go_at_call 125;(with_reducible refine (Mt.calls k1 ((av l0 aA).f0) _ _ ((av l0 aA).f1) pF _ (Kd.bJ ZP.out (bs HB)) Zr.out A6.out).mono ?_);rintro e w7 ⟨rfl,hb⟩;replace HB:=bq HB hb;(try clear hb)
    obtain rfl|rfl:=bt pF
    ·replace H:=dE H;obtain rfl:=si H
     go_wp2
     go_ret
     exact ⟨ff,bs HB⟩
    ·replace H:=dD H;have H':=am H;clear H
     go_wp2
     go_roundg k1
     case measure=>have:=aU.out;omega
     case rel=>exact ⟨(wrap64 (aA+1)),fg,H',⟨by have:=aU.out;omega⟩,⟨bs HB⟩⟩
   ·intro bN H;obtain rfl:=si H
    go_wp2
    go_ret
    exact ⟨ff,bs HB⟩
theorem Mm.calls (k:Nat) (A0:Option Addr) (c0:Nat) (l0:List (bA))  (r:Bool) (w:World) (hr0:Kd.C kS w A0 l0.length l0) (hc0:l0.length≤c0) (H:Mm.f k l0=some r) :
  Calls Tryz.prog 124 #[.slice A0 l0.length c0,.func (.func 125) #[] #[]] w fun e w'=>e=.returned (.bool r)∧Below w.heap.size w w':=by
 have fZ:=am hr0;have ku:=am hc0;clear hr0 hc0;have HB:=am (Below.refl w.heap.size w);unfold Mm.f at H;replace H:=bo H;obtain ⟨t5,A3,H⟩:=H;obtain rfl:=si H
 go_in
 go_wp2_with (first|((go_at_call 140;(with_reducible refine (vv.calls k _ _ l0  t5 _ ?aI ku.out A3.out).mono ?_);(case aI=>exact sd fZ.out);rintro e w4 ⟨rfl,hb⟩);replace HB:=bq HB hb;(try clear hb)))
 go_ret
 exact ⟨ff,bs HB⟩
theorem IM.calls (k:Nat) (ag:Int) (iw:Option Addr) (gV:Nat) (aK:List (bA)) (r:Bool) (w:World) (mR:Kd.C kS w iw aK.length aK) (mQ:aK.length≤gV) (H:IM.f k ag aK=some r) :
  Calls Tryz.prog 98 #[.agg #[.int .i64 ag,.slice iw aK.length gV]] w fun e w'=>e=.returned (.bool r)∧Below w.heap.size w w':=by
 have abQ:=Tryz.underlying73;have mq:=am mR;have vT:=am mQ;clear mR mQ;have HB:=am (Below.refl w.heap.size w);unfold IM.f at H;replace H:=bo H;obtain ⟨vG,A2,H⟩:=H
 go_in
 try go_wp2_with (first|((with_reducible refine aN (N:=1) rfl ?_);(try (refine iM (by rfl) ?_;dsimp only));refine bz 1 (cs:=#[.int .i64 ag,.slice iw aK.length gV]) (t:=73) HB ?_;clear HB;intro PR hg w3 rA YX hb HB;clear hb hg;have P5:=gG rA))
 go_at_call 48;(with_reducible refine (zX.calls ag vG _ A2.out).mono ?_);rintro e w' ⟨rfl,⟨nd,rfl⟩⟩
 obtain rfl|rfl:=bt vG
 ·replace H:=dE H
  revert H;refine zW ?_ ?_
  ·intro c6 gQ H;have pW:decide (aK.length≤40)=true:=decide_eq_true (by omega);clear c6;replace H:=bo H;obtain ⟨t12,A7,H⟩:=H;obtain rfl:=si H;have CR:=gG rA
   go_wp2_with (first|(go_at_call 124;(with_reducible refine (Mm.calls k _ _ aK  t12 _ ?aI vT.out A7.out).mono ?_);(case aI=>repeat (first|exact (Kd.bJ mq.out (bs HB))|(with_reducible refine Kd.pM ?_ _)|(with_reducible refine Kd.pQ ?_ _)|(with_reducible refine Kd.pO ?_)));rintro e w9 ⟨rfl,hb⟩;replace rA:=bb rA hb;replace HB:=bq HB hb;(try clear hb)))
   go_ret
   exact ⟨ff,bs HB⟩
  ·intro c6 gQ H;have pW:decide (aK.length≤40)=false:=decide_eq_false (by omega);clear c6;obtain rfl:=si H;have zK:=gG rA
   go_wp2
   go_ret
   exact ⟨ff,bs HB⟩
 ·replace H:=dD H;obtain rfl:=si H
  go_wp2
  go_ret
  exact ⟨ff,bs HB⟩
theorem Mo.calls (k:Nat) (ag:Int) (iw:Option Addr) (gV:Nat) (aK:List (bA)) (r:Bool) (w:World) (mR:Kd.C kS w iw aK.length aK) (mQ:aK.length≤gV) (H:Mo.f k ag aK=some r) :
  Calls Tryz.prog 97 #[.agg #[.int .i64 ag,.slice iw aK.length gV]] w fun e w'=>e=.returned (.bool r)∧Below w.heap.size w w':=by
 have abQ:=Tryz.underlying73;have mq:=am mR;have vT:=am mQ;clear mR mQ;have HB:=am (Below.refl w.heap.size w);unfold Mo.f at H;replace H:=bo H;obtain ⟨t7,A2,H⟩:=H;obtain rfl:=si H
 go_in
 go_wp2_with (first|((with_reducible refine aN (N:=1) rfl ?_);refine bz 1 (cs:=#[.int .i64 ag,.slice iw aK.length gV]) (t:=73) HB ?_;clear HB;intro ul hg w3 jQ YY hb HB;clear hb hg;have P6:w3.cell? ⟨ul,0,none⟩=some (.int .i64 ag):=(az jQ.out 0).trans rfl;have P7:w3.cell? ⟨ul,1,none⟩=some (.slice iw aK.length gV):=(az jQ.out 1).trans rfl;have P9:=aV jQ.out 0;have Qa:=aV jQ.out 1)|((go_at_call 98;(with_reducible refine (IM.calls k ag _ _ aK t7 _ (Kd.bJ mq.out (bs HB)) vT.out A2.out).mono ?_);rintro e w5 ⟨rfl,hb⟩);replace jQ:=bb jQ hb;replace HB:=bq HB hb;(try clear hb)))
 go_ret
 exact ⟨ff,bs HB⟩
theorem u7.calls (k:Nat) (A0:Option Addr) (c0:Nat) (l0:List (kN))  (r:Int) (w:World) (hr0:Kd.C qA w A0 l0.length l0) (hc0:l0.length≤c0) (H:u7.f k l0=some r) :
  Calls Tryz.prog 123 #[.slice A0 l0.length c0,.func (.func 97) #[] #[]] w fun e w'=>e=.returned (.int .i64 r)∧Below w.heap.size w w':=by
 have abQ:=Tryz.underlying73;have fZ:=am hr0;have ku:=am hc0;clear hr0 hc0;have HB:=am (Below.refl w.heap.size w);unfold u7.f at H;have H':=am H;clear H
 go_in
 go_wp2
 go_loopg [8] k (fun kq v8 w'=>∃ (aA:Int),v8=.int .i64 aA∧af (u7.l0 kq l0 (l0.length:Int) aA=some r)∧af (kq≤k)∧af (Below w.heap.size w w'))
 case atStart=>exact ⟨(0),fg,H',⟨Nat.le_refl _⟩,⟨bs HB⟩⟩
 case round =>
  clear H'
  obtain ⟨aA,rfl,HA,aU,HB⟩:=hrel
  cases gk with
  | zero=>exact absurd HA.out (by simp [u7.l0])
  | succ k1 =>
   have H:=HA.out;clear HA;simp only [u7.l0] at H
   revert H;refine cB ?_ ?_
   ·intro bN H
    revert H;refine bu ?_
    intro dS H
    revert H;refine bu ?_
    intro kv H;replace H:=bo H;obtain ⟨pF,A6,H⟩:=H;obtain ⟨p9,q9,yj,amg,aq3,e9,nD,qw,QL,Qp⟩:=wi (agr fZ.out aA)
    cases e9
    replace nD:=cb HB nD;replace qw:=cb HB qw;have ZP:=am Qp;have Zr:=am QL;clear Qp QL
    try go_wp2_with (fail)
    go_at_call 97;(with_reducible refine (Mo.calls k1 ((lg l0 aA).f0) _ _ ((lg l0 aA).f1) pF _ (Kd.bJ ZP.out (bs HB)) Zr.out A6.out).mono ?_);rintro e w7 ⟨rfl,hb⟩;replace HB:=bq HB hb;(try clear hb)
    obtain rfl|rfl:=bt pF
    ·replace H:=dE H;obtain rfl:=si H
     go_wp2
     go_ret
     exact ⟨ff,bs HB⟩
    ·replace H:=dD H;have H':=am H;clear H
     go_wp2
     go_roundg k1
     case measure=>have:=aU.out;omega
     case rel=>exact ⟨(wrap64 (aA+1)),fg,H',⟨by have:=aU.out;omega⟩,⟨bs HB⟩⟩
   ·intro bN H;obtain rfl:=si H
    go_wp2
    go_ret
    exact ⟨ff,bs HB⟩
theorem Mh.calls (k:Nat) (A0:Option Addr) (c0:Nat) (l0:List (kN))  (r:Bool) (w:World) (hr0:Kd.C qA w A0 l0.length l0) (hc0:l0.length≤c0) (H:Mh.f k l0=some r) :
  Calls Tryz.prog 96 #[.slice A0 l0.length c0,.func (.func 97) #[] #[]] w fun e w'=>e=.returned (.bool r)∧Below w.heap.size w w':=by
 have fZ:=am hr0;have ku:=am hc0;clear hr0 hc0;have HB:=am (Below.refl w.heap.size w);unfold Mh.f at H;replace H:=bo H;obtain ⟨t5,A3,H⟩:=H;obtain rfl:=si H
 go_in
 go_wp2_with (first|((go_at_call 123;(with_reducible refine (u7.calls k _ _ l0  t5 _ ?aI ku.out A3.out).mono ?_);(case aI=>exact sd fZ.out);rintro e w4 ⟨rfl,hb⟩);replace HB:=bq HB hb;(try clear hb)))
 go_ret
 exact ⟨ff,bs HB⟩
theorem IG.calls (k:Nat) (ag:Int) (aj:Int) (Ea:Option Addr) (EA:Nat) (o5:List (kN)) (r:Bool) (w:World) (Q5:Kd.C qA w Ea o5.length o5) (PU:o5.length≤EA) (H:IG.f k ag aj o5=some r) :
  Calls Tryz.prog 51 #[.agg #[.int .i64 ag,.int .i64 aj,.slice Ea o5.length EA]] w fun e w'=>e=.returned (.bool r)∧Below w.heap.size w w':=by
 have abP:=Tryz.underlying71;have ZK:=am Q5;have Y2:=am PU;clear Q5 PU;have HB:=am (Below.refl w.heap.size w);unfold IG.f at H;replace H:=bo H;obtain ⟨t8,A2,H⟩:=H
 go_in
 try go_wp2_with (first|((with_reducible refine aN (N:=1) rfl ?_);(try (refine iM (by rfl) ?_;dsimp only));refine bz 1 (cs:=#[.int .i64 ag,.int .i64 aj,.slice Ea o5.length EA]) (t:=71) HB ?_;clear HB;intro PR hg w3 rA YX hb HB;clear hb hg;have P5:=l6 rA))
 go_at_call 41;(with_reducible refine (kY.calls ag 1 7 t8 _ A2.out).mono ?_);rintro e w' ⟨rfl,⟨nd,rfl⟩⟩
 obtain rfl|rfl:=bt t8
 ·replace H:=dE H;replace H:=bo H;obtain ⟨vG,A6,H⟩:=H;have Bg:=l6 rA
  try go_wp2_with (fail)
  go_at_call 48;(with_reducible refine (zX.calls aj vG _ A6.out).mono ?_);rintro e w' ⟨rfl,⟨nd,rfl⟩⟩
  obtain rfl|rfl:=bt vG
  ·replace H:=dE H;replace H:=bo H;obtain ⟨vH,A9,H⟩:=H;have zK:=l6 rA
   try go_wp2_with (fail)
   go_at_call 41;(with_reducible refine (kY.calls (o5.length:Int) 1 10 vH _ A9.out).mono ?_);rintro e w' ⟨rfl,⟨nd,rfl⟩⟩
   obtain rfl|rfl:=bt vH
   ·replace H:=dE H;replace H:=bo H;obtain ⟨t16,vQ,H⟩:=H;obtain rfl:=si H;have Be:=l6 rA
    go_wp2_with (first|(go_at_call 96;(with_reducible refine (Mh.calls k _ _ o5  t16 _ ?aI Y2.out vQ.out).mono ?_);(case aI=>repeat (first|exact (Kd.bJ ZK.out (bs HB))|(with_reducible refine Kd.pM ?_ _)|(with_reducible refine Kd.pQ ?_ _)|(with_reducible refine Kd.pO ?_)));rintro e vP ⟨rfl,hb⟩;replace rA:=bb rA hb;replace HB:=bq HB hb;(try clear hb)))
    go_ret
    exact ⟨ff,bs HB⟩
   ·replace H:=dD H;obtain rfl:=si H
    go_wp2
    go_ret
    exact ⟨ff,bs HB⟩
  ·replace H:=dD H;obtain rfl:=si H
   go_wp2
   go_ret
   exact ⟨ff,bs HB⟩
 ·replace H:=dD H;obtain rfl:=si H
  go_wp2
  go_ret
  exact ⟨ff,bs HB⟩
theorem Mg.calls (k:Nat) (ag:Int) (aj:Int) (Ea:Option Addr) (EA:Nat) (o5:List (kN)) (r:Bool) (w:World) (Q5:Kd.C qA w Ea o5.length o5) (PU:o5.length≤EA) (H:Mg.f k ag aj o5=some r) :
  Calls Tryz.prog 50 #[.agg #[.int .i64 ag,.int .i64 aj,.slice Ea o5.length EA]] w fun e w'=>e=.returned (.bool r)∧Below w.heap.size w w':=by
 have abP:=Tryz.underlying71;have ZK:=am Q5;have Y2:=am PU;clear Q5 PU;have HB:=am (Below.refl w.heap.size w);unfold Mg.f at H;replace H:=bo H;obtain ⟨t7,A2,H⟩:=H;obtain rfl:=si H
 go_in
 go_wp2_with (first|((with_reducible refine aN (N:=1) rfl ?_);refine bz 1 (cs:=#[.int .i64 ag,.int .i64 aj,.slice Ea o5.length EA]) (t:=71) HB ?_;clear HB;intro ul hg w3 jQ YY hb HB;clear hb hg;have P6:w3.cell? ⟨ul,0,none⟩=some (.int .i64 ag):=(az jQ.out 0).trans rfl;have P7:w3.cell? ⟨ul,1,none⟩=some (.int .i64 aj):=(az jQ.out 1).trans rfl;have abm:w3.cell? ⟨ul,2,none⟩=some (.slice Ea o5.length EA):=(az jQ.out 2).trans rfl;have P9:=aV jQ.out 0;have Qa:=aV jQ.out 1;have abo:=aV jQ.out 2)|((go_at_call 51;(with_reducible refine (IG.calls k ag aj _ _ o5 t7 _ (Kd.bJ ZK.out (bs HB)) Y2.out A2.out).mono ?_);rintro e w5 ⟨rfl,hb⟩);replace jQ:=bb jQ hb;replace HB:=bq HB hb;(try clear hb)))
 go_ret
 exact ⟨ff,bs HB⟩
theorem uZ.calls (k:Nat) (A0:Option Addr) (c0:Nat) (l0:List (gP))  (r:Int) (w:World) (hr0:Kd.C sZ w A0 l0.length l0) (hc0:l0.length≤c0) (H:uZ.f k l0=some r) :
  Calls Tryz.prog 95 #[.slice A0 l0.length c0,.func (.func 50) #[] #[]] w fun e w'=>e=.returned (.int .i64 r)∧Below w.heap.size w w':=by
 have abP:=Tryz.underlying71;have fZ:=am hr0;have ku:=am hc0;clear hr0 hc0;have HB:=am (Below.refl w.heap.size w);unfold uZ.f at H;have H':=am H;clear H
 go_in
 go_wp2
 go_loopg [8] k (fun kq v8 w'=>∃ (aA:Int),v8=.int .i64 aA∧af (uZ.l0 kq l0 (l0.length:Int) aA=some r)∧af (kq≤k)∧af (Below w.heap.size w w'))
 case atStart=>exact ⟨(0),fg,H',⟨Nat.le_refl _⟩,⟨bs HB⟩⟩
 case round =>
  clear H'
  obtain ⟨aA,rfl,HA,aU,HB⟩:=hrel
  cases gk with
  | zero=>exact absurd HA.out (by simp [uZ.l0])
  | succ k1 =>
   have H:=HA.out;clear HA;simp only [uZ.l0] at H
   revert H;refine cB ?_ ?_
   ·intro bN H
    revert H;refine bu ?_
    intro dS H
    revert H;refine bu ?_
    intro kv H;replace H:=bo H;obtain ⟨pF,A6,H⟩:=H;obtain ⟨p9,q9,yj,azR,aBq,e9,nD,qw,wG,aiU,ait⟩:=wi (agq fZ.out aA)
    cases e9
    replace nD:=cb HB nD;replace qw:=cb HB qw;replace wG:=cb HB wG;have aoe:=am ait;have anh:=am aiU;clear ait aiU
    try go_wp2_with (fail)
    go_at_call 50;(with_reducible refine (Mg.calls k1 ((cu l0 aA).f0) ((cu l0 aA).f1) _ _ ((cu l0 aA).f2) pF _ (Kd.bJ aoe.out (bs HB)) anh.out A6.out).mono ?_);rintro e w7 ⟨rfl,hb⟩;replace HB:=bq HB hb;(try clear hb)
    obtain rfl|rfl:=bt pF
    ·replace H:=dE H;obtain rfl:=si H
     go_wp2
     go_ret
     exact ⟨ff,bs HB⟩
    ·replace H:=dD H;have H':=am H;clear H
     go_wp2
     go_roundg k1
     case measure=>have:=aU.out;omega
     case rel=>exact ⟨(wrap64 (aA+1)),fg,H',⟨by have:=aU.out;omega⟩,⟨bs HB⟩⟩
   ·intro bN H;obtain rfl:=si H
    go_wp2
    go_ret
    exact ⟨ff,bs HB⟩
theorem IC.calls (k:Nat) (A0:Option Addr) (c0:Nat) (l0:List (gP))  (r:Bool) (w:World) (hr0:Kd.C sZ w A0 l0.length l0) (hc0:l0.length≤c0) (H:IC.f k l0=some r) :
  Calls Tryz.prog 49 #[.slice A0 l0.length c0,.func (.func 50) #[] #[]] w fun e w'=>e=.returned (.bool r)∧Below w.heap.size w w':=by
 have fZ:=am hr0;have ku:=am hc0;clear hr0 hc0;have HB:=am (Below.refl w.heap.size w);unfold IC.f at H;replace H:=bo H;obtain ⟨t5,A3,H⟩:=H;obtain rfl:=si H
 go_in
 go_wp2_with (first|((go_at_call 95;(with_reducible refine (uZ.calls k _ _ l0  t5 _ ?aI ku.out A3.out).mono ?_);(case aI=>exact sd fZ.out);rintro e w4 ⟨rfl,hb⟩);replace HB:=bq HB hb;(try clear hb)))
 go_ret
 exact ⟨ff,bs HB⟩
theorem IE.calls (k:Nat) (ag:ByteArray) (aj:ByteArray) (ak:Int) (fP:Option Addr) (eZ:Nat) (au:List (gP)) (r:Bool) (w:World) (kE:Kd.C sZ w fP au.length au) (kD:au.length≤eZ) (H:IE.f k ag aj ak au=some r) :
  Calls Tryz.prog 24 #[.agg #[.string ag,.string aj,.int .i64 ak,.slice fP au.length eZ]] w fun e w'=>e=.returned (.bool r)∧Below w.heap.size w w':=by
 have aux:=Tryz.underlying35;have pV:=am kE;have qN:=am kD;clear kE kD;have HB:=am (Below.refl w.heap.size w);unfold IE.f at H;replace H:=bo H;obtain ⟨vG,A2,H⟩:=H
 go_in
 try go_wp2_with (first|((with_reducible refine aN (N:=1) rfl ?_);(try (refine iM (by rfl) ?_;dsimp only));refine bz 1 (cs:=#[.string ag,.string aj,.int .i64 ak,.slice fP au.length eZ]) (t:=35) HB ?_;clear HB;intro Lf hg w3 Cg GW8 hb HB;clear hb hg;have P5:=eU Cg))
 go_at_call 47;(with_reducible refine (oI.calls k ag vG _ A2.out).mono ?_);rintro e w' ⟨rfl,⟨nd,rfl⟩⟩
 obtain rfl|rfl:=bt vG
 ·replace H:=dE H;replace H:=bo H;obtain ⟨FW,A6,H⟩:=H;have Bg:=eU Cg
  try go_wp2_with (fail)
  go_at_call 47;(with_reducible refine (oI.calls k aj FW _ A6.out).mono ?_);rintro e w' ⟨rfl,⟨nd,rfl⟩⟩
  obtain rfl|rfl:=bt FW
  ·replace H:=dE H;replace H:=bo H;obtain ⟨mf,A9,H⟩:=H;have zK:=eU Cg
   try go_wp2_with (fail)
   go_at_call 48;(with_reducible refine (zX.calls ak mf _ A9.out).mono ?_);rintro e w' ⟨rfl,⟨nd,rfl⟩⟩
   obtain rfl|rfl:=bt mf
   ·replace H:=dE H;replace H:=bo H;obtain ⟨nW,vQ,H⟩:=H;have Be:=eU Cg
    try go_wp2_with (fail)
    go_at_call 41;(with_reducible refine (kY.calls (au.length:Int) 1 5 nW _ vQ.out).mono ?_);rintro e w' ⟨rfl,⟨nd,rfl⟩⟩
    obtain rfl|rfl:=bt nW
    ·replace H:=dE H;replace H:=bo H;obtain ⟨t20,Uh,H⟩:=H;obtain rfl:=si H;have EO:=eU Cg
     go_wp2_with (first|(go_at_call 49;(with_reducible refine (IC.calls k _ _ au  t20 _ ?aI qN.out Uh.out).mono ?_);(case aI=>repeat (first|exact (Kd.bJ pV.out (bs HB))|(with_reducible refine Kd.pM ?_ _)|(with_reducible refine Kd.pQ ?_ _)|(with_reducible refine Kd.pO ?_)));rintro e JN ⟨rfl,hb⟩;replace Cg:=bb Cg hb;replace HB:=bq HB hb;(try clear hb)))
     go_ret
     exact ⟨ff,bs HB⟩
    ·replace H:=dD H;obtain rfl:=si H
     go_wp2
     go_ret
     exact ⟨ff,bs HB⟩
   ·replace H:=dD H;obtain rfl:=si H
    go_wp2
    go_ret
    exact ⟨ff,bs HB⟩
  ·replace H:=dD H;obtain rfl:=si H
   go_wp2
   go_ret
   exact ⟨ff,bs HB⟩
 ·replace H:=dD H;obtain rfl:=si H
  go_wp2
  go_ret
  exact ⟨ff,bs HB⟩
theorem ut.calls (k:Nat) (ag:ByteArray) (aj:ByteArray) (ak:Int) (fP:Option Addr) (eZ:Nat) (au:List (gN)) (r:Bool) (w:World) (kE:Kd.C kK w fP au.length au) (kD:au.length≤eZ) (hTC:zu w) (hTF:sM w) (hTP:uR w) (H:ut.f k ag aj ak au=some r) :
  Calls Tryz.prog 8 #[.agg #[.string ag,.string aj,.int .i64 ak,.slice fP au.length eZ]] w fun e w'=>e=.returned (.bool r)∧Below w.heap.size w w':=by
 have HTC:=am hTC;clear hTC;have HTF:=am hTF;clear hTF;have HTP:=am hTP;clear hTP
 have WC:=Tryz.underlying29;have pV:=am kE;have qN:=am kD;clear kE kD;have HB:=am (Below.refl w.heap.size w);unfold ut.f at H;have kV:=am H;clear H
 go_in
 go_upto_region 1 with (first|((with_reducible refine aN (N:=1) rfl ?_);refine bz 1 (cs:=#[.string ag,.string aj,.int .i64 ak,.slice fP au.length eZ]) (t:=29) HB ?_;clear HB;intro uo hg w3 eT Uv hb HB;clear hb hg))
 (try simp only [Act.put,List.setIfInBounds_toArray,List.set_cons_zero,List.set_cons_succ])
 go_cut [11] (fun v11 wc=>∃ (kq:Nat) (DR:Bool),v11=.bool DR∧af (ut.j0 kq DR ag aj ak au=some r)∧af (kq≤k)∧af (wc.heap[uo]? = some (.cells #[.string ag,.string aj,.int .i64 ak,(.slice fP au.length eZ)] 29 (0,0)))∧af (Below w.heap.size w wc))
 case first =>
  have H:=kV.out;clear kV
  revert H;refine gz ?_ ?_
  ·intro c4 H;have dS:decide (50<(au.length:Int))=true:=decide_eq_true c4;have kW:decide (50<au.length)=true:=decide_eq_true (by omega);clear c4
   (first|rw [dS]|(simp only [fu,gy];rw [dS])|rw [kW]|skip)
   have H':=am H;clear H;have Bf:=eU eT
   go_wp2
   go_meet
   case rel=>exact ⟨_,(true),fg,H',⟨fl⟩,⟨ks eT⟩,⟨bs HB⟩⟩
  ·intro c4 H;have dS:decide (50<(au.length:Int))=false:=decide_eq_false c4;have kW:decide (50<au.length)=false:=decide_eq_false (by omega);clear c4
   (first|rw [dS]|(simp only [fu,gy];rw [dS])|rw [kW]|skip)
   replace H:=bo H;obtain ⟨t22,A6,H⟩:=H;have H':=am H;clear H;have Bg:=eU eT
   go_wp2_with (first|(go_at_call 21;(with_reducible refine (Mi.calls k _ _ au  t22 _ (Kd.bJ pV.out (bs HB)) qN.out (Ag HTC (bs HB)) (vN HTF (bs HB)) (oJ HTP (bs HB)) A6.out).mono ?_);rintro e w8 ⟨rfl,hb⟩;replace eT:=bb eT hb;replace HB:=bq HB hb;(try clear hb)))
   go_meet
   case rel=>exact ⟨_,(t22),fg,H',⟨fl⟩,⟨ks eT⟩,⟨bs HB⟩⟩
 case rest =>
  clear kV
  obtain ⟨kq,DR,rfl,HA,ib,eT,HB⟩:=hcut
  cases kq with
  | zero=>exact absurd HA.out (by simp [ut.j0])
  | succ lS =>
   have H:=HA.out;clear HA;simp only [ut.j0] at H
   obtain rfl|rfl:=bt DR
   ·replace H:=dE H;obtain rfl:=si H
    go_wp2
    go_ret
    exact ⟨ff,bs HB⟩
   ·replace H:=dD H;replace H:=bo H;obtain ⟨⟨t17,mf,nW,t20⟩,qb,H⟩:=H;(try dsimp only at H);replace H:=bo H;obtain ⟨t23,Gm,H⟩:=H;obtain rfl:=si H;have CP:=eU eT
    go_wp2_with (first|((go_at_call 25;(with_reducible refine (iW.calls lS ag aj ak _ _ au t17 mf nW t20 _ (Kd.bJ pV.out (bs HB)) qN.out (vN HTF (bs HB)) qb.out).mono ?_);rintro e vO ⟨v26,rfl,ho0,hb⟩);have Cm:=am (Kd.gU ho0 (bC (bs HB)));replace eT:=bb eT hb;replace HB:=bq HB hb;(try clear hb);(try clear ho0);obtain ⟨amo,ari,aa6⟩:=Kd.iy Cm.out;subst aa6)|((go_at_call 24;(with_reducible refine (IE.calls lS t17 mf nW _ _ t20 t23 _ ?aI ?aW Gm.out).mono ?_);(case aI=>exact sd (Kd.dU Cm.out).2.2);(case aW=>exact (Kd.dU Cm.out).2.1);rintro e DJ ⟨rfl,hb⟩);replace Cm:=am (Kd.dK (rs Cm) hb);replace eT:=bb eT hb;replace HB:=bq HB hb;(try clear hb)))
    go_ret
    exact ⟨ff,bs HB⟩
theorem uy.calls (k:Nat) (A0:Option Addr) (c0:Nat) (l0:List ByteArray) (A1:Option Addr) (c1:Nat) (l1:List ByteArray) (r:Bool) (w:World) (hr0:Kd.C Kd.string w A0 l0.length l0) (hc0:l0.length≤c0) (hr1:Kd.C Kd.string w A1 l1.length l1) (hc1:l1.length≤c1) (H:uy.f k l0 l1=some r) :
  Calls Tryz.prog 99 #[.slice A0 l0.length c0,.slice A1 l1.length c1] w fun e w'=>e=.returned (.bool r)∧aT w w':=by
 have fZ:=am hr0;have ku:=am hc0;clear hr0 hc0;have HR1:=am hr1;have xc:=am hc1;clear hr1 hc1;unfold uy.f at H
 revert H;refine Dk ?_ ?_
 ·intro c3 bN fo H
  have sS:(l0.length == l1.length)=true:=by first|simpa using c3|(simp at c3 ⊢;omega)
  clear c3;have H':=am H;clear H
  go_in
  go_wp2
  repeat (go_quiet (fail);try go_wp2)
  go_loopg [5] k (fun kq v5 w'=>∃ (bi:Int),v5=.int .i64 bi∧af (uy.l0 kq l0 l1 bi=some r)∧af (kq≤k)∧aT w w')
  case atStart=>exact ⟨(0),fg,H',⟨Nat.le_refl _⟩,by repeat (first|exact aT.refl _|apply aT.step)⟩
  case round =>
   clear H'
   try clear c1
   try clear c3
   try clear bN
   try clear fo
   try clear sS
   obtain ⟨bi,rfl,HA,aU,⟨m1,rfl⟩⟩:=hrel
   cases gk with
   | zero=>exact absurd HA.out (by simp [uy.l0])
   | succ k1 =>
    have H:=HA.out;clear HA;simp only [uy.l0] at H
    revert H;refine cB ?_ ?_
    ·intro dS H
     revert H;refine bu ?_
     intro kv H
     revert H;refine bu ?_
     intro gQ H
     revert H;refine bL ?_ ?_
     ·intro kJ yn H;have H':=am H;clear H;obtain ⟨p8,q8,ad8,e8,Iw⟩:=wi (Kd.iZ fZ.out bi)
      cases e8
      obtain ⟨p9,q9,yj,e9,nD⟩:=wi (Kd.iZ HR1.out bi)
      cases e9
      go_wp2
      repeat (go_quiet (fail);try go_wp2)
      go_roundg k1
      case measure=>have:=aU.out;omega
      case rel=>exact ⟨(wrap64 (bi+1)),fg,H',⟨by have:=aU.out;omega⟩,by repeat (first|exact aT.refl _|apply aT.step)⟩
     ·intro c7 kJ yn H;obtain rfl:=si H;obtain ⟨p8,q8,ad8,e8,Iw⟩:=wi (Kd.iZ fZ.out bi)
      cases e8
      obtain ⟨p9,q9,yj,e9,nD⟩:=wi (Kd.iZ HR1.out bi)
      cases e9
      go_wp2
      repeat (go_quiet (fail);try go_wp2)
      go_ret
      exact ⟨fg,dr⟩
    ·intro dS H;obtain rfl:=si H
     go_wp2
     repeat (go_quiet (fail);try go_wp2)
     go_ret
     exact ⟨fg,dr⟩
 ·intro c3 bN fo H
  have sS:(l0.length == l1.length)=false:=by first|simpa using c3|(simp at c3 ⊢;omega)
  obtain rfl:=si H
  go_in
  go_wp2
  repeat (go_quiet (fail);try go_wp2)
  go_ret
  exact ⟨fg,dr⟩
theorem IV.calls (ag:Int) (aj:ByteArray) (ak:Int) (aD:Int) (mK:ByteArray) (aM:Int) (dh:ByteArray) (dx:Int) (ek:Int) (oQ:ByteArray) (r:Bool) (w:World) (H:IV.f ag aj ak aD mK aM dh dx ek oQ=some r) :
  Calls Tryz.prog 127 #[.agg #[.int .i64 ag,.string aj,.int .i64 ak,.int .i64 aD,.string mK],.agg #[.int .i64 aM,.string dh,.int .i64 dx,.int .i64 ek,.string oQ]] w fun e w'=>e=.returned (.bool r)∧Below w.heap.size w w':=by
 have hu:=Tryz.underlying95;have HB:=am (Below.refl w.heap.size w);unfold IV.f at H
 go_in
 go_upto_region 1 with (first|((with_reducible refine aN (N:=2) rfl ?_);refine bx 2 (cs:=#[.int .i64 ag,.string aj,.int .i64 ak,.int .i64 aD,.string mK]) (t:=95) ?_;intro g0 hg wa hbox hb;have B0:=am hbox;replace HB:=bq HB hb;clear hb hbox hg)|((with_reducible refine aN (N:=3) rfl ?_);refine bx 3 (cs:=#[.int .i64 aM,.string dh,.int .i64 dx,.int .i64 ek,.string oQ]) (t:=95) ?_;intro g1 hg wb hbox hb;have B1:=am hbox;replace HB:=bq HB hb;replace B0:=am (aZ (ks B0) hb);clear hb hbox hg;have z0:=jY B0;have z1:=jY B1))
 revert H;refine Sl ?_
 intro VC VD H
 go_upto_region 3 with (fail)
 revert H;refine Sl ?_
 intro VJ VK H
 go_upto_region 5 with (fail)
 revert H;refine Sl ?_
 intro gJ ja H
 go_upto_region 7 with (fail)
 revert H;refine Sl ?_
 intro bN fo H
 go_upto_region 9 with (fail)
 revert H;refine Sl ?_
 intro dS kW H;obtain rfl:=si H
 go_wp2
 go_ret
 exact ⟨ff,bs HB⟩
def akx:Bool × List (List Nat × List Nat):=(true,[([],[]),([],[]),([0,1],[0,1]),([2],[2]),([],[]),([],[]),([4,5],[4,5]),([6],[6]),([3,7],[3,7]),([8],[8])])
def avm:List Nat:=[0,0,3,7,0,0,48,112,255,511]
theorem uw.calls (k:Nat) (A0:Option Addr) (c0:Nat) (l0:List (aY)) (A1:Option Addr) (c1:Nat) (l1:List (aY)) (r:Bool) (w:World) (hr0:Kd.C iR w A0 l0.length l0) (hc0:l0.length≤c0) (hr1:Kd.C iR w A1 l1.length l1) (hc1:l1.length≤c1) (H:uw.f k l0 l1=some r) :
  Calls Tryz.prog 100 #[.slice A0 l0.length c0,.slice A1 l1.length c1] w fun e w'=>e=.returned (.bool r)∧Below w.heap.size w w':=by
 have hu:=Tryz.underlying95;have fZ:=am hr0;have HR1:=am hr1;clear hr0 hc0 hr1 hc1;have HB:=am (Below.refl w.heap.size w);unfold uw.f at H
 go_in
 revert H;refine auK ?_
 intro c3 bN fo H
 have sS:(l0.length == l1.length)=true:=by first|simpa using c3|(simp at c3 ⊢;omega)
 clear c3;have H':=am H;clear H
 go_wp2
 go_loopg [5] k (fun kq v5 w'=>∃ (x5:Int),v5=.int .i64 x5∧af (uw.l0 kq l0 l1 x5=some r)∧af (kq≤k)∧af (Below w.heap.size w w'))
 case atStart=>exact ⟨0,fg,H',⟨Nat.le_refl _⟩,⟨bs HB⟩⟩
 case round =>
  clear H';(try clear bN);(try clear fo);(try clear sS);obtain ⟨x5,rfl,HA,aU,HB⟩:=hrel
  cases gk with
  | zero=>exact absurd HA.out (by simp [uw.l0])
  | succ k1 =>
   have H:=HA.out;clear HA;simp only [uw.l0] at H
   revert H;refine cB ?_ ?_
   ·intro dS H;revert H;refine bu ?_;intro kv H;revert H;refine bu ?_;intro gQ H;replace H:=bo H;obtain ⟨t,A7,H⟩:=H;have p1:0≤(x5:Int):=oa;have q1:x5<(l0.length:Int):=oa;have q2:x5<(l1.length:Int):=oa;obtain ⟨ad,ea,g0,g1,g2,g3,g4⟩:=rM fZ.out x5 p1 q1;obtain ⟨ae,ee,j0,j1,j2,j3,j4⟩:=rM HR1.out x5 p1 q2;cases ea;cases ee;replace p1:=eq_true p1;replace q1:=eq_true q1;replace q2:=eq_true q2;have G0:=am g0;have J0:=am j0;clear g0 j0;have G1:=am g1;have J1:=am j1;clear g1 j1;have G2:=am g2;have J2:=am j2;clear g2 j2;have G3:=am g3;have J3:=am j3;clear g3 j3;have G4:=am g4;have J4:=am j4;clear g4 j4
    try go_wp2
    replace HB:=am (cO HB.out);refine il 10 (aJ (cb HB G0.out) (aJ (cb HB G1.out) (aJ (cb HB G2.out) (aJ (cb HB G3.out) (aJ (cb HB G4.out) (aJ (cb HB J0.out) (aJ (cb HB J1.out) (aJ (cb HB J2.out) (aJ (cb HB J3.out) (hc (cb HB J4.out))))))))))) (fun hHeld=>?_);refine gq (show fJ .any (opsOf Tryz.f100 6)=akx from by kernel_rfl) (show iY akx.2 avm=true from by kernel_rfl) (fun HT_ HW_=>?_)
    generalize wr.drew=wa at HB hHeld ⊢
    refine kZ 0 ?_;refine kZ 4 ?_;refine ta 3 ?_;refine ta 7 ?_;refine oA 8 25 HT_ (fun K hK=>?_);refine gA Tryz.func127 #[.agg #[.int .i64 (ai l0 x5).f0,.string (ai l0 x5).f1,.int .i64 (ai l0 x5).f2,.int .i64 (ai l0 x5).f3,.string (ai l0 x5).f4],.agg #[.int .i64 (ai l1 x5).f0,.string (ai l1 x5).f1,.int .i64 (ai l1 x5).f2,.int .i64 (ai l1 x5).f3,.string (ai l1 x5).f4]] ?_;(with_reducible refine (IV.calls ((ai l0 x5).f0) ((ai l0 x5).f1) ((ai l0 x5).f2) ((ai l0 x5).f3) ((ai l0 x5).f4) ((ai l1 x5).f0) ((ai l1 x5).f1) ((ai l1 x5).f2) ((ai l1 x5).f3) ((ai l1 x5).f4) t _ A7.out).mono ?_);rintro e wb ⟨rfl,hb⟩;refine ⟨_,rfl,?_⟩;replace HB:=bq HB hb;clear hb;refine hK.out _ _ (aJ (cb HB G0.out) (aJ (cb HB G1.out) (aJ (cb HB G2.out) (aJ (cb HB G3.out) (aJ (cb HB G4.out) (aJ (cb HB J0.out) (aJ (cb HB J1.out) (aJ (cb HB J2.out) (aJ (cb HB J3.out) (hc (cb HB J4.out))))))))))).out (fun hHeld=>?_);clear hK K;refine nA 25 ?_;refine bV 9 ?_;refine fq (gp HT_.out (by kernel_rfl)) ?_;clear HT_ HW_ hHeld
    obtain rfl|rfl:=bt t;rotate_left
    ·replace H:=dD H;cases H
    replace H:=dE H;have H':=am H;clear H
    try go_wp2
    go_roundg k1
    case measure=>have:=aU.out;omega
    case rel=>exact ⟨wrap64 (x5+1),fg,H',⟨by have:=aU.out;omega⟩,⟨bs HB⟩⟩
   ·intro dS H;obtain rfl:=si H
    go_wp2
    go_ret
    exact ⟨ff,bs HB⟩
theorem FE.calls (k:Nat) (ag:Int) (aj:ByteArray) (ak:ByteArray) (aD:Int) (bY:Option Addr) (bW:Nat) (ay:List ByteArray) (df:Option Addr) (bR:Nat) (ah:List (aY)) (aM:Int) (dh:ByteArray) (dx:ByteArray) (ek:Int) (nL:Option Addr) (nQ:Nat) (iB:List ByteArray) (nM:Option Addr) (nR:Nat) (gD:List (aY)) (r:Bool) (w:World) (ko:Kd.C Kd.string w bY ay.length ay) (j6:ay.length≤bW) (kr:Kd.C iR w df ah.length ah) (kg:ah.length≤bR) (E9:Kd.C Kd.string w nL iB.length iB) (EM:iB.length≤nQ) (Fa:Kd.C iR w nM gD.length gD) (EN:gD.length≤nR) (H:FE.f k ag aj ak aD ay ah aM dh dx ek iB gD=some r) :
  Calls Tryz.prog 52 #[.agg #[.int .i64 ag,.string aj,.string ak,.int .i64 aD,.slice bY ay.length bW,.slice df ah.length bR],.agg #[.int .i64 aM,.string dh,.string dx,.int .i64 ek,.slice nL iB.length nQ,.slice nM gD.length nR]] w fun e w'=>e=.returned (.bool r)∧Below w.heap.size w w':=by
 have uX:=Tryz.underlying45;have ng:=am ko;have pR:=am j6;clear ko j6;have lW:=am kr;have oM:=am kg;clear kr kg;have Kv:=am E9;have Uw:=am EM;clear E9 EM;have Kw:=am Fa;have Ux:=am EN;clear Fa EN;have HB:=am (Below.refl w.heap.size w);unfold FE.f at H
 revert H;refine bL ?_ ?_
 ·intro bN fo H
  revert H;refine bL ?_ ?_
  ·intro dS kW H
   revert H;refine bL ?_ ?_
   ·intro kv wo H
    revert H;refine bL ?_ ?_
    ·intro gQ pW H;replace H:=bo H;obtain ⟨t40,A7,H⟩:=H
     go_in
     try go_wp2_with (first|((with_reducible refine aN (N:=2) rfl ?_);refine bz 2 (cs:=#[.int .i64 ag,.string aj,.string ak,.int .i64 aD,.slice bY ay.length bW,.slice df ah.length bR]) (t:=45) HB ?_;clear HB;intro wu hg w8 dz vS hb HB;clear hb hg)|((with_reducible refine aN (N:=3) rfl ?_);refine bz 3 (cs:=#[.int .i64 aM,.string dh,.string dx,.int .i64 ek,.slice nL iB.length nQ,.slice nM gD.length nR]) (t:=45) HB ?_;clear HB;intro CK hg w9 jU Od hb HB;have Ay:=na hg dz;have AB:=nc hg dz;replace dz:=bb dz hb;clear hb hg;have Wx:=Ay.out;have Wz:=AB.out;have Bd:=dC dz;have CP:=dC jU))
     go_at_call 99;(with_reducible refine (uy.calls k _ _ ay _ _ iB t40 _ (Kd.bJ ng.out (bs HB)) pR.out (Kd.bJ Kv.out (bs HB)) Uw.out A7.out).mono ?_);rintro e w' ⟨rfl,⟨nd,rfl⟩⟩
     obtain rfl|rfl:=bt t40
     ·replace H:=dE H;replace H:=bo H;obtain ⟨t41,zf,H⟩:=H;have ai9:=Ay.out;have ajl:=AB.out;have EO:=dC dz;have PW:=dC jU
      try go_wp2_with (fail)
      go_at_call 100;(with_reducible refine (uw.calls k _ _ ah _ _ gD t41 _ ?aI oM.out ?lh Ux.out zf.out).mono ?_);(case aI=>repeat (first|exact (Kd.bJ lW.out (bs HB))|(with_reducible refine Kd.pM ?_ _)|(with_reducible refine Kd.pQ ?_ _)|(with_reducible refine Kd.pO ?_)));(case lh=>repeat (first|exact (Kd.bJ Kw.out (bs HB))|(with_reducible refine Kd.pM ?_ _)|(with_reducible refine Kd.pQ ?_ _)|(with_reducible refine Kd.pO ?_)));rintro e xY ⟨rfl,hb⟩;replace dz:=bb dz hb;replace jU:=bb jU hb;replace HB:=bq HB hb;(try clear hb)
      obtain rfl|rfl:=bt t41
      ·replace H:=dE H;obtain rfl:=si H
       go_wp2
       go_ret
       exact ⟨ff,bs HB⟩
      ·replace H:=dD H;obtain rfl:=si H
       go_wp2
       go_ret
       exact ⟨ff,bs HB⟩
     ·replace H:=dD H;obtain rfl:=si H
      go_wp2
      go_ret
      exact ⟨ff,bs HB⟩
    ·intro c6 gQ pW H;obtain rfl:=si H
     go_in
     go_wp2_with (first|((with_reducible refine aN (N:=2) rfl ?_);refine bz 2 (cs:=#[.int .i64 ag,.string aj,.string ak,.int .i64 aD,.slice bY ay.length bW,.slice df ah.length bR]) (t:=45) HB ?_;clear HB;intro wu hg BM dz vS hb HB;clear hb hg)|((with_reducible refine aN (N:=3) rfl ?_);refine bz 3 (cs:=#[.int .i64 aM,.string dh,.string dx,.int .i64 ek,.slice nL iB.length nQ,.slice nM gD.length nR]) (t:=45) HB ?_;clear HB;intro CK hg Ah jU Od hb HB;have Ay:=na hg dz;have AB:=nc hg dz;replace dz:=bb dz hb;clear hb hg;have abE:=Ay.out;have abI:=AB.out;have Ig:=dC dz;have Li:=dC jU))
     go_ret
     exact ⟨ff,bs HB⟩
   ·intro c5 kv wo H;obtain rfl:=si H
    go_in
    go_wp2_with (first|((with_reducible refine aN (N:=2) rfl ?_);refine bz 2 (cs:=#[.int .i64 ag,.string aj,.string ak,.int .i64 aD,.slice bY ay.length bW,.slice df ah.length bR]) (t:=45) HB ?_;clear HB;intro wu hg Nb dz vS hb HB;clear hb hg)|((with_reducible refine aN (N:=3) rfl ?_);refine bz 3 (cs:=#[.int .i64 aM,.string dh,.string dx,.int .i64 ek,.slice nL iB.length nQ,.slice nM gD.length nR]) (t:=45) HB ?_;clear HB;intro CK hg Nc jU Od hb HB;have Ay:=na hg dz;have AB:=nc hg dz;replace dz:=bb dz hb;clear hb hg;have ajc:=Ay.out;have ajo:=AB.out;have ahS:=dC dz;have Ih:=dC jU))
    go_ret
    exact ⟨ff,bs HB⟩
  ·intro c4 dS kW H;obtain rfl:=si H
   go_in
   go_wp2_with (first|((with_reducible refine aN (N:=2) rfl ?_);refine bz 2 (cs:=#[.int .i64 ag,.string aj,.string ak,.int .i64 aD,.slice bY ay.length bW,.slice df ah.length bR]) (t:=45) HB ?_;clear HB;intro wu hg qJ dz vS hb HB;clear hb hg)|((with_reducible refine aN (N:=3) rfl ?_);refine bz 3 (cs:=#[.int .i64 aM,.string dh,.string dx,.int .i64 ek,.slice nL iB.length nQ,.slice nM gD.length nR]) (t:=45) HB ?_;clear HB;intro CK hg F7 jU Od hb HB;have Ay:=na hg dz;have AB:=nc hg dz;replace dz:=bb dz hb;clear hb hg;have abF:=Ay.out;have abJ:=AB.out;have Wp:=dC dz;have abh:=dC jU))
   go_ret
   exact ⟨ff,bs HB⟩
 ·intro c3 bN fo H;obtain rfl:=si H
  go_in
  go_wp2_with (first|((with_reducible refine aN (N:=2) rfl ?_);refine bz 2 (cs:=#[.int .i64 ag,.string aj,.string ak,.int .i64 aD,.slice bY ay.length bW,.slice df ah.length bR]) (t:=45) HB ?_;clear HB;intro wu hg X8 dz vS hb HB;clear hb hg)|((with_reducible refine aN (N:=3) rfl ?_);refine bz 3 (cs:=#[.int .i64 aM,.string dh,.string dx,.int .i64 ek,.slice nL iB.length nQ,.slice nM gD.length nR]) (t:=45) HB ?_;clear HB;intro CK hg w36 jU Od hb HB;have Ay:=na hg dz;have AB:=nc hg dz;replace dz:=bb dz hb;clear hb hg;have abH:=Ay.out;have abL:=AB.out;have Ii:=dC dz;have abk:=dC jU))
  go_ret
  exact ⟨ff,bs HB⟩
def mE.T6:Bool × List (List Nat × List Nat):=(true,[([],[]),([],[]),([0,1],[0,1]),([2],[2]),([],[]),([],[]),([4,5],[4,5]),([6],[6]),([3,7],[3,7]),([8],[8])])
def mE.B6:List Nat:=[0,0,3,7,0,0,48,112,255,511]
theorem mE.aln:fJ .any (opsOf Tryz.f26 6)=mE.T6:=by kernel_rfl
theorem mE.agw:iY mE.T6.2 mE.B6=true:=by kernel_rfl
theorem mE.calls (k:Nat) (A0:Option Addr) (c0:Nat) (l0:List (gN)) (A1:Option Addr) (c1:Nat) (l1:List (gN)) (r:Bool) (w:World) (hr0:Kd.C kK w A0 l0.length l0) (hc0:l0.length≤c0) (hr1:Kd.C kK w A1 l1.length l1) (hc1:l1.length≤c1) (H:mE.f k l0 l1=some r) :
  Calls Tryz.prog 26 #[.slice A0 l0.length c0,.slice A1 l1.length c1] w fun e w'=>e=.returned (.bool r)∧Below w.heap.size w w':=by
 have uX:=Tryz.underlying45;have fZ:=am hr0;have ku:=am hc0;clear hr0 hc0;have HR1:=am hr1;have xc:=am hc1;clear hr1 hc1;have HB:=am (Below.refl w.heap.size w);unfold mE.f at H
 revert H;refine Dk ?_ ?_
 ·intro c3 bN fo H
  have sS:(l0.length == l1.length)=true:=by first|simpa using c3|(simp at c3 ⊢;omega)
  clear c3;have H':=am H;clear H
  go_in
  go_wp2
  go_loopg [5] k (fun kq v5 w'=>∃ (bi:Int),v5=.int .i64 bi∧af (mE.l0 kq l0 l1 bi=some r)∧af (kq≤k)∧af (Below w.heap.size w w'))
  case atStart=>exact ⟨(0),fg,H',⟨Nat.le_refl _⟩,⟨bs HB⟩⟩
  case round =>
   clear H'
   try clear c1
   try clear c3
   try clear bN
   try clear fo
   try clear sS
   obtain ⟨bi,rfl,HA,aU,HB⟩:=hrel
   cases gk with
   | zero=>exact absurd HA.out (by simp [mE.l0])
   | succ k1 =>
    have H:=HA.out;clear HA;simp only [mE.l0] at H
    revert H;refine cB ?_ ?_
    ·intro dS H
     revert H;refine bu ?_
     intro kv H
     revert H;refine bu ?_
     intro gQ H;replace H:=bo H;obtain ⟨vH,A7,H⟩:=H
     obtain rfl|rfl:=bt vH
     ·replace H:=dE H;have H':=am H;clear H
      try go_wp2
      replace HB:=am (cO HB.out);obtain ⟨Xr,Xx,GZ,YF,aaD,YG,aaE,e13,qp,CV,CW,CX,CY,CZ,Qw,Qb,Qx,Qc⟩:=wi (Ct fZ.out bi);have Rc:=CZ;have Rb:=CY;have Ra:=CX;have Q9:=CW;have Q8:=CV;have Q7:=qp
      cases e13
      replace qp:=cb HB qp;replace CV:=cb HB CV;replace CW:=cb HB CW;replace CX:=cb HB CX;replace CY:=cb HB CY;replace CZ:=cb HB CZ;have Oj:=am Qb;have Y5:=am Qw;clear Qb Qw;have Ol:=am Qc;have Y6:=am Qx;clear Qc Qx;obtain ⟨z8,Aa,af8,Uf,VE,Ug,VF,e14,yx,yz,yA,yB,yC,yD,EY,ET,EZ,EU⟩:=wi (Ct HR1.out bi);have Rk:=yD;have Rj:=yC;have Ri:=yB;have Rh:=yA;have Rf:=yz;have Re:=yx
      cases e14
      replace yx:=cb HB yx;replace yz:=cb HB yz;replace yA:=cb HB yA;replace yB:=cb HB yB;replace yC:=cb HB yC;replace yD:=cb HB yD;have Gu:=am ET;have Og:=am EY;clear ET EY;have Gv:=am EU;have Oh:=am EZ;clear EU EZ;refine il 10 (aJ (cb HB Q7) (aJ (cb HB Q8) (aJ (cb HB Q9) (aJ (cb HB Ra) (aJ (cb HB Rb) (aJ (cb HB Rc) (aJ (cb HB Re) (aJ (cb HB Rf) (aJ (cb HB Rh) (aJ (cb HB Ri) (aJ (cb HB Rj) (hc (cb HB Rk))))))))))))) (fun hHeld=>?_);refine gq mE.aln mE.agw (fun HT_ HW_=>?_)
      generalize wr.drew=w9 at HB Oj Ol Gu Gv qp CV CW CX CY CZ yx yz yA yB yC yD hHeld ⊢
      refine kZ 0 ?_;refine kZ 4 ?_;refine ta 3 ?_;refine ta 7 ?_;refine oA 8 25 HT_ (fun K hK=>?_);refine gA Tryz.func52 #[.agg #[.int .i64 ((aG l0 bi).f0),.string ((aG l0 bi).f1),.string ((aG l0 bi).f2),.int .i64 ((aG l0 bi).f3),.slice YF ((aG l0 bi).f4).length aaD,.slice YG ((aG l0 bi).f5).length aaE],.agg #[.int .i64 ((aG l1 bi).f0),.string ((aG l1 bi).f1),.string ((aG l1 bi).f2),.int .i64 ((aG l1 bi).f3),.slice Uf ((aG l1 bi).f4).length VE,.slice Ug ((aG l1 bi).f5).length VF]] ?_;(with_reducible refine (FE.calls k1 ((aG l0 bi).f0) ((aG l0 bi).f1) ((aG l0 bi).f2) ((aG l0 bi).f3) _ _ ((aG l0 bi).f4) _ _ ((aG l0 bi).f5) ((aG l1 bi).f0) ((aG l1 bi).f1) ((aG l1 bi).f2) ((aG l1 bi).f3) _ _ ((aG l1 bi).f4) _ _ ((aG l1 bi).f5) true _ ?aI ?aW ?lh ?qZ ?Dy ?Jc ?Dz ?Jd A7.out).mono ?_)
      (case aI=>exact sd (Kd.bJ Oj.out HB.out))
      (case aW=>exact Y5.out)
      (case lh=>exact sd (Kd.bJ Ol.out HB.out))
      (case qZ=>exact Y6.out)
      (case Dy=>exact sd (Kd.bJ Gu.out HB.out))
      (case Jc=>exact Og.out)
      (case Dz=>exact sd (Kd.bJ Gv.out HB.out))
      (case Jd=>exact Oh.out)
      rintro e DI ⟨rfl,hb⟩;refine ⟨_,rfl,?_⟩;replace HB:=bq HB hb;(try clear hb);refine hK.out _ _ (aJ (cb HB Q7) (aJ (cb HB Q8) (aJ (cb HB Q9) (aJ (cb HB Ra) (aJ (cb HB Rb) (aJ (cb HB Rc) (aJ (cb HB Re) (aJ (cb HB Rf) (aJ (cb HB Rh) (aJ (cb HB Ri) (aJ (cb HB Rj) (hc (cb HB Rk))))))))))))).out (fun hHeld=>?_);clear hK K;refine nA 25 ?_;refine bV 9 ?_;refine fq (gp HT_.out (by kernel_rfl)) ?_
      try go_wp2
      go_roundg k1
      case measure=>have:=aU.out;omega
      case rel=>exact ⟨(wrap64 (bi+1)),fg,H',⟨by have:=aU.out;omega⟩,⟨bs HB⟩⟩
     ·replace H:=dD H;obtain rfl:=si H
      try go_wp2
      replace HB:=am (cO HB.out);obtain ⟨Xr,Xx,GZ,YF,aaD,YG,aaE,e13,qp,CV,CW,CX,CY,CZ,Qw,Qb,Qx,Qc⟩:=wi (Ct fZ.out bi);have Rc:=CZ;have Rb:=CY;have Ra:=CX;have Q9:=CW;have Q8:=CV;have Q7:=qp
      cases e13
      replace qp:=cb HB qp;replace CV:=cb HB CV;replace CW:=cb HB CW;replace CX:=cb HB CX;replace CY:=cb HB CY;replace CZ:=cb HB CZ;have Oj:=am Qb;have Y5:=am Qw;clear Qb Qw;have Ol:=am Qc;have Y6:=am Qx;clear Qc Qx;obtain ⟨z8,Aa,af8,Uf,VE,Ug,VF,e14,yx,yz,yA,yB,yC,yD,EY,ET,EZ,EU⟩:=wi (Ct HR1.out bi);have Rk:=yD;have Rj:=yC;have Ri:=yB;have Rh:=yA;have Rf:=yz;have Re:=yx
      cases e14
      replace yx:=cb HB yx;replace yz:=cb HB yz;replace yA:=cb HB yA;replace yB:=cb HB yB;replace yC:=cb HB yC;replace yD:=cb HB yD;have Gu:=am ET;have Og:=am EY;clear ET EY;have Gv:=am EU;have Oh:=am EZ;clear EU EZ;refine il 10 (aJ (cb HB Q7) (aJ (cb HB Q8) (aJ (cb HB Q9) (aJ (cb HB Ra) (aJ (cb HB Rb) (aJ (cb HB Rc) (aJ (cb HB Re) (aJ (cb HB Rf) (aJ (cb HB Rh) (aJ (cb HB Ri) (aJ (cb HB Rj) (hc (cb HB Rk))))))))))))) (fun hHeld=>?_);refine gq mE.aln mE.agw (fun HT_ HW_=>?_)
      generalize wr.drew=kU at HB Oj Ol Gu Gv qp CV CW CX CY CZ yx yz yA yB yC yD hHeld ⊢
      refine kZ 0 ?_;refine kZ 4 ?_;refine ta 3 ?_;refine ta 7 ?_;refine oA 8 25 HT_ (fun K hK=>?_);refine gA Tryz.func52 #[.agg #[.int .i64 ((aG l0 bi).f0),.string ((aG l0 bi).f1),.string ((aG l0 bi).f2),.int .i64 ((aG l0 bi).f3),.slice YF ((aG l0 bi).f4).length aaD,.slice YG ((aG l0 bi).f5).length aaE],.agg #[.int .i64 ((aG l1 bi).f0),.string ((aG l1 bi).f1),.string ((aG l1 bi).f2),.int .i64 ((aG l1 bi).f3),.slice Uf ((aG l1 bi).f4).length VE,.slice Ug ((aG l1 bi).f5).length VF]] ?_;(with_reducible refine (FE.calls k1 ((aG l0 bi).f0) ((aG l0 bi).f1) ((aG l0 bi).f2) ((aG l0 bi).f3) _ _ ((aG l0 bi).f4) _ _ ((aG l0 bi).f5) ((aG l1 bi).f0) ((aG l1 bi).f1) ((aG l1 bi).f2) ((aG l1 bi).f3) _ _ ((aG l1 bi).f4) _ _ ((aG l1 bi).f5) false _ ?aI ?aW ?lh ?qZ ?Dy ?Jc ?Dz ?Jd A7.out).mono ?_)
      (case aI=>exact sd (Kd.bJ Oj.out HB.out))
      (case aW=>exact Y5.out)
      (case lh=>exact sd (Kd.bJ Ol.out HB.out))
      (case qZ=>exact Y6.out)
      (case Dy=>exact sd (Kd.bJ Gu.out HB.out))
      (case Jc=>exact Og.out)
      (case Dz=>exact sd (Kd.bJ Gv.out HB.out))
      (case Jd=>exact Oh.out)
      rintro e wS ⟨rfl,hb⟩;refine ⟨_,rfl,?_⟩;replace HB:=bq HB hb;(try clear hb);refine hK.out _ _ (aJ (cb HB Q7) (aJ (cb HB Q8) (aJ (cb HB Q9) (aJ (cb HB Ra) (aJ (cb HB Rb) (aJ (cb HB Rc) (aJ (cb HB Re) (aJ (cb HB Rf) (aJ (cb HB Rh) (aJ (cb HB Ri) (aJ (cb HB Rj) (hc (cb HB Rk))))))))))))).out (fun hHeld=>?_);clear hK K;refine nA 25 ?_;refine bV 9 ?_;refine fq (gp HT_.out (by kernel_rfl)) ?_
      try go_wp2
      go_ret
      exact ⟨ff,bs HB⟩
    ·intro dS H;obtain rfl:=si H
     go_wp2
     go_ret
     exact ⟨ff,bs HB⟩
 ·intro c3 bN fo H
  have sS:(l0.length == l1.length)=false:=by first|simpa using c3|(simp at c3 ⊢;omega)
  obtain rfl:=si H
  go_in
  go_wp2
  go_ret
  exact ⟨ff,bs HB⟩
theorem FH.calls (k:Nat) (ag:ByteArray) (aj:ByteArray) (ak:Int) (fP:Option Addr) (eZ:Nat) (au:List (gN)) (aM:ByteArray) (dh:ByteArray) (dx:Int) (Ke:Option Addr) (K5:Nat) (yL:List (gN)) (r:Bool) (w:World) (kE:Kd.C kK w fP au.length au) (kD:au.length≤eZ) (ajz:Kd.C kK w Ke yL.length yL) (ahO:yL.length≤K5) (H:FH.f k ag aj ak au aM dh dx yL=some r) :
  Calls Tryz.prog 9 #[.agg #[.string ag,.string aj,.int .i64 ak,.slice fP au.length eZ],.agg #[.string aM,.string dh,.int .i64 dx,.slice Ke yL.length K5]] w fun e w'=>e=.returned (.bool r)∧Below w.heap.size w w':=by
 have WC:=Tryz.underlying29;have pV:=am kE;have qN:=am kD;clear kE kD;have anU:=am ajz;have amZ:=am ahO;clear ajz ahO;have HB:=am (Below.refl w.heap.size w);unfold FH.f at H
 revert H;refine bL ?_ ?_
 ·intro bN fo H
  revert H;refine bL ?_ ?_
  ·intro dS kW H
   revert H;refine bL ?_ ?_
   ·intro kv wo H;replace H:=bo H;obtain ⟨t31,A6,H⟩:=H
    go_in
    try go_wp2_with (first|((with_reducible refine aN (N:=2) rfl ?_);refine bz 2 (cs:=#[.string ag,.string aj,.int .i64 ak,.slice fP au.length eZ]) (t:=29) HB ?_;clear HB;intro wu hg w7 dz vS hb HB;clear hb hg)|((with_reducible refine aN (N:=3) rfl ?_);refine bz 3 (cs:=#[.string aM,.string dh,.int .i64 dx,.slice Ke yL.length K5]) (t:=29) HB ?_;clear HB;intro abb hg w8 Cc YV hb HB;have Gz:=na hg dz;have GD:=nc hg dz;replace dz:=bb dz hb;clear hb hg;have Wy:=Gz.out;have WA:=GD.out;have zK:=eU dz;have Bd:=eU Cc))
    go_at_call 26;(with_reducible refine (mE.calls k _ _ au _ _ yL t31 _ (Kd.bJ pV.out (bs HB)) qN.out (Kd.bJ anU.out (bs HB)) amZ.out A6.out).mono ?_);rintro e wS ⟨rfl,hb⟩;replace dz:=bb dz hb;replace Cc:=bb Cc hb;replace HB:=bq HB hb;(try clear hb)
    obtain rfl|rfl:=bt t31
    ·replace H:=dE H;obtain rfl:=si H
     go_wp2
     go_ret
     exact ⟨ff,bs HB⟩
    ·replace H:=dD H;obtain rfl:=si H
     go_wp2
     go_ret
     exact ⟨ff,bs HB⟩
   ·intro c5 kv wo H;obtain rfl:=si H
    go_in
    go_wp2_with (first|((with_reducible refine aN (N:=2) rfl ?_);refine bz 2 (cs:=#[.string ag,.string aj,.int .i64 ak,.slice fP au.length eZ]) (t:=29) HB ?_;clear HB;intro wu hg vP dz vS hb HB;clear hb hg)|((with_reducible refine aN (N:=3) rfl ?_);refine bz 3 (cs:=#[.string aM,.string dh,.int .i64 dx,.slice Ke yL.length K5]) (t:=29) HB ?_;clear HB;intro abb hg DJ Cc YV hb HB;have Gz:=na hg dz;have GD:=nc hg dz;replace dz:=bb dz hb;clear hb hg;have atx:=Gz.out;have atX:=GD.out;have PW:=eU dz;have Lh:=eU Cc))
    go_ret
    exact ⟨ff,bs HB⟩
  ·intro c4 dS kW H;obtain rfl:=si H
   go_in
   go_wp2_with (first|((with_reducible refine aN (N:=2) rfl ?_);refine bz 2 (cs:=#[.string ag,.string aj,.int .i64 ak,.slice fP au.length eZ]) (t:=29) HB ?_;clear HB;intro wu hg pG dz vS hb HB;clear hb hg)|((with_reducible refine aN (N:=3) rfl ?_);refine bz 3 (cs:=#[.string aM,.string dh,.int .i64 dx,.slice Ke yL.length K5]) (t:=29) HB ?_;clear HB;intro abb hg BM Cc YV hb HB;have Gz:=na hg dz;have GD:=nc hg dz;replace dz:=bb dz hb;clear hb hg;have aFz:=Gz.out;have aGk:=GD.out;have abf:=eU dz;have Ig:=eU Cc))
   go_ret
   exact ⟨ff,bs HB⟩
 ·intro c3 bN fo H;obtain rfl:=si H
  go_in
  go_wp2_with (first|((with_reducible refine aN (N:=2) rfl ?_);refine bz 2 (cs:=#[.string ag,.string aj,.int .i64 ak,.slice fP au.length eZ]) (t:=29) HB ?_;clear HB;intro wu hg JP dz vS hb HB;clear hb hg)|((with_reducible refine aN (N:=3) rfl ?_);refine bz 3 (cs:=#[.string aM,.string dh,.int .i64 dx,.slice Ke yL.length K5]) (t:=29) HB ?_;clear HB;intro abb hg Nb Cc YV hb HB;have Gz:=na hg dz;have GD:=nc hg dz;replace dz:=bb dz hb;clear hb hg;have atD:=Gz.out;have at7:=GD.out;have PX:=eU dz;have ahS:=eU Cc))
  go_ret
  exact ⟨ff,bs HB⟩
end Go.Proofs.YtapilmimgiaglaaGreatDoor.QA
