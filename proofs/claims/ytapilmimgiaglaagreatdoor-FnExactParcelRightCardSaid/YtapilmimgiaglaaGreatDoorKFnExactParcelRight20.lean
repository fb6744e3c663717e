-- Merged by a program of this session (wip/tool/pack.py) out of its own texts for this claim.
import Derived.Test.YtapilmimgiaglaaGreatDoorKFnExactParcelRight19
set_option maxHeartbeats 8000000
set_option maxRecDepth 100000
set_option linter.unusedSimpArgs false
set_option linter.unusedVariables false
namespace Go.Proofs.YtapilmimgiaglaaGreatDoor.QA
open Go.RowKit Go.Proofs.bB.fA Go.Proofs.bB.PrintLast Go.Proofs.bB.PrintMore
attribute [local go_sem] o6 pg o9 pE o8 pz o7 pq   -- for this text's walks alone
def jD.T4:Bool × List (List Nat × List Nat):=(true,[([],[]),([0],[0]),([],[]),([1,2],[1,2]),([3],[3]),([4],[4]),([5,3],[5]),([6],[6]),([7,6],[6,7]),([6],[6]),([8,9,6,6],[6,8,9]),([6],[6]),([10,11,10,6],[6,10,11]),([6,12],[6,12]),([13,12],[13]),([14],[14]),([15,14,14],[14,15]),([16,14],[14,16]),([14,17],[14,17]),([18,16,0,1,2,3,4,5,6,7,8,9,10,11,12,13,14,15,16,17,18],[18])])
def jD.B4:List Nat:=[0,1,0,7,15,31,63,127,255,127,1023,127,4095,8191,16383,32767,65535,131071,262143,524287]
theorem jD.yV:fJ .any (opsOf Tryz.f23 4)=jD.T4:=by kernel_rfl
theorem jD.ym:iY jD.T4.2 jD.B4=true:=by kernel_rfl
theorem jD.calls (k:Nat) (ag:Int) (aj:ByteArray) (ak:ByteArray) (aD:Int) (bY:Option Addr) (bW:Nat) (ay:List ByteArray) (df:Option Addr) (bR:Nat) (ah:List (aY)) (r:Bool) (w:World) (ko:Kd.C Kd.string w bY ay.length ay) (j6:ay.length≤bW) (kr:Kd.C iR w df ah.length ah) (kg:ah.length≤bR) (hTC:zu w) (hTF:sM w) (hTP:uR w) (H:jD.f k ag aj ak aD ay ah=some r) :
  Calls Tryz.prog 23 #[.agg #[.int .i64 ag,.string aj,.string ak,.int .i64 aD,.slice bY ay.length bW,.slice df ah.length bR]] w fun e w'=>e=.returned (.bool r)∧Below w.heap.size w w':=by
 have HTC:=am hTC;clear hTC;have HTF:=am hTF;clear hTF;have HTP:=am hTP;clear hTP
 have uX:=Tryz.underlying45
 have aC5:∀ (v0 v1 v2:Value) (W:World),(Instr.field 78 (.agg #[v0,v1,v2]) 2).run Tryz.prog W=.ok v2 W:=fun _ _ _ _=>by kernel_rfl
 have ng:=am ko;have pR:=am j6;clear ko j6;have lW:=am kr;have oM:=am kg;clear kr kg;have HB:=am (Below.refl w.heap.size w);unfold jD.f at H;have kV:=am H;clear H
 go_in
 go_upto_region 1 with (first|((with_reducible refine aN (N:=1) rfl ?_);(try (refine iM (by rfl) ?_;dsimp only));refine bz 1 (cs:=#[.int .i64 ag,.string aj,.string ak,.int .i64 aD,.slice bY ay.length bW,.slice df ah.length bR]) (t:=45) HB ?_;clear HB;intro abd hg w3 iP aAe hb HB;clear hb hg))
 (try simp only [Act.put,List.setIfInBounds_toArray,List.set_cons_zero,List.set_cons_succ])
 go_cut [19] (fun v19 wc=>∃ (kq:Nat) (Yg:Bool),v19=.bool Yg∧af (jD.j0 kq Yg ag aj ak aD ay ah=some r)∧af (kq≤k)∧af (wc.heap[abd]? = some (.cells #[.int .i64 ag,.string aj,.string ak,.int .i64 aD,(.slice bY ay.length bW),(.slice df ah.length bR)] 45 (0,0)))∧af (Below w.heap.size w wc))
 case first =>
  have H:=kV.out;clear kV;replace H:=bo H;obtain ⟨t61,A4,H⟩:=H;have Bf:=dC iP
  try go_wp2_with (fail)
  go_at_call 41;(with_reducible refine (kY.calls ag 1 7 t61 _ A4.out).mono ?_);rintro e w' ⟨rfl,⟨nd,rfl⟩⟩
  obtain rfl|rfl:=bt t61
  ·replace H:=dE H
   revert H;refine gz ?_ ?_
   ·intro c7 H;have kJ:decide (2<(ay.length:Int))=true:=decide_eq_true c7;have yn:decide (2<ay.length)=true:=decide_eq_true (by omega);clear c7
    (first|rw [kJ]|(simp only [fu,gy];rw [kJ])|rw [yn]|skip)
    have H':=am H;clear H;have CR:=dC iP
    go_wp2
    go_meet
    case rel=>exact ⟨_,(true),fg,H',⟨fl⟩,⟨ks iP⟩,⟨bs HB⟩⟩
   ·intro c7 H;have kJ:decide (2<(ay.length:Int))=false:=decide_eq_false c7;have yn:decide (2<ay.length)=false:=decide_eq_false (by omega);clear c7
    (first|rw [kJ]|(simp only [fu,gy];rw [kJ])|rw [yn]|skip)
    have H':=am H;clear H;have CS:=dC iP
    go_wp2
    go_meet
    case rel=>exact ⟨_,(decide ((ah.length:Int)>20)),fg,H',⟨fl⟩,⟨ks iP⟩,⟨bs HB⟩⟩
  ·replace H:=dD H;have H':=am H;clear H
   go_wp2
   go_meet
   case rel=>exact ⟨_,(true),fg,H',⟨fl⟩,⟨ks iP⟩,⟨bs HB⟩⟩
 case rest =>
  clear kV
  obtain ⟨kq,Yg,rfl,HA,ib,iP,HB⟩:=hcut
  cases kq with
  | zero=>exact absurd HA.out (by simp [jD.j0])
  | succ lS =>
   have H:=HA.out;clear HA;simp only [jD.j0] at H
   obtain rfl|rfl:=bt Yg
   ·replace H:=dE H;obtain rfl:=si H
    go_wp2
    go_ret
    exact ⟨ff,bs HB⟩
   ·replace H:=dD H;replace H:=bo H;obtain ⟨t51,Gm,H⟩:=H;have CP:=dC iP
    try go_wp2_with (fail)
    go_at_call 42;(with_reducible refine (gH.calls lS ag aj ak aD _ _ ay _ _ ah t51 _ (Kd.bJ ng.out (bs HB)) pR.out (Kd.bJ lW.out (bs HB)) oM.out (vN HTF (bs HB)) Gm.out).mono ?_);rintro e vO ⟨v67,rfl,ho0,hb⟩;have jJ:=am (Kd.afu (Kd.Cn (ok':=fun k_=>k_≠abd) ho0 (fun k_ hk_=>(Kd.sU (g:=abd) (o:=.cells #[.int .i64 ag,.string aj,.string ak,.int .i64 aD,.slice bY ay.length bW,.slice df ah.length bR] 45 (0,0)) (ks iP) k_ hk_))) (bC (bs HB)));replace iP:=bb iP hb;replace HB:=bq HB hb;(try clear hb);(try clear ho0);replace H:=bo H;obtain ⟨⟨t58,t59,t60⟩,zf,H⟩:=H;(try dsimp only at H)
    revert H;refine bL ?_ ?_
    ·intro uh Hl H;replace H:=bo H;obtain ⟨⟨t52,t53,t54,t55,t56,t57⟩,Eb,H⟩:=H;(try dsimp only at H);replace H:=bo H;obtain ⟨t62,Gn,H⟩:=H
     obtain rfl|rfl:=bt t62
     ·replace H:=dE H;replace H:=bo H;obtain ⟨t63,YH,H⟩:=H;obtain rfl:=si H
      try go_wp2
      replace jJ:=am (Kd.rG jJ.out);replace iP:=am (bg iP.out);replace HB:=am (cO HB.out);obtain ⟨Ul,VS,V4⟩:=Kd.GV jJ.out
      (first|subst V4|(injection V4 with dZ iJ d9;have iK:=dZ.symm;have iL:=d9.symm;clear dZ iJ d9;subst iK;subst iL))
      refine il 20 (hb6 iP) (fun hHeld=>?_);refine gq jD.yV jD.ym (fun HT_ HW_=>?_)
      generalize vO.drew=BM at jJ iP HB hHeld ⊢
      refine bV 0 ?_;refine bV 2 ?_;refine ta 1 ?_;refine oA 3 25 HT_ (fun K hK=>?_);refine gA Tryz.func43 #[.int .i64 ag,.slice Ul t51.length VS] ?_;(with_reducible refine (eY.calls lS ag _ _ t51 t58 t59 t60 _ ?aI ?aW (Ag HTC (bs HB)) (oJ HTP (bs HB)) zf.out).mono ?_)
      (case aI=>exact sd (Kd.vX jJ.out).2.2)
      (case aW=>exact (Kd.vX jJ.out).2.1)
      rintro e JO ⟨rfl,hb⟩;refine ⟨_,rfl,?_⟩;replace jJ:=am (Kd.vW (by (with_reducible repeat (first|apply Kd.uL|apply Kd.uM|apply Kd.rG));exact jJ.out) hb);replace iP:=am (aZ (ks iP) hb);replace HB:=am (fF (bs HB) hb);(try clear hb);refine hK.out _ _ (hb6 iP).out (fun hHeld=>?_);clear hK K;refine nA 25 ?_;refine jF 4 ?_;refine bV 9 ?_;refine ta 8 ?_;refine ta 11 ?_;refine oA 10 32 HT_ (fun K hK=>?_);refine gA Tryz.func45 #[.int .i64 ag,.slice Ul t51.length VS] ?_;(with_reducible refine (gK.calls lS ag _ _ t51 t52 t53 t54 t55 t56 t57 _ ?aI ?aW (oJ HTP (bs HB)) Eb.out).mono ?_)
      (case aI=>exact sd (Kd.vX jJ.out).2.2)
      (case aW=>exact (Kd.vX jJ.out).2.1)
      rintro e tH ⟨v65,v66,rfl,ho0,ho1,hb⟩;refine ⟨_,rfl,?_⟩;replace jJ:=am (Kd.Cn (Kd.KH (Kd.KH (Kd.aai (by (with_reducible repeat (first|apply Kd.uL|apply Kd.uM|apply Kd.rG));exact jJ.out) hb) (Kd.oO ho0)) (Kd.oO ho1)) (fun _ h_=>h_.1));have rF:=am (Kd.gU ho0 (bC (bs HB)));have xn:=am (Kd.gU ho1 (bC (bs HB)));replace iP:=am (aZ (ks iP) hb);replace HB:=am (fF (bs HB) hb);(try clear hb);(try clear ho0);(try clear ho1);obtain ⟨amq,arj,ahj⟩:=Kd.iy rF.out
      (first|subst ahj|(injection ahj with dZ iJ d9;have iK:=dZ.symm;have iL:=d9.symm;clear dZ iJ d9;subst iK;subst iL))
      obtain ⟨amr,ark,ahk⟩:=Kd.iy xn.out
      (first|subst ahk|(injection ahk with dZ iJ d9;have iK:=dZ.symm;have iL:=d9.symm;clear dZ iJ d9;subst iK;subst iL))
      refine hK.out _ _ (hb6 iP).out (fun hHeld=>?_);clear hK K;refine nA 32 ?_;refine oA 12 34 HT_ (fun K hK=>?_);refine gA Tryz.func44 #[.agg #[.int .i64 t52,.string t53,.string t54,.int .i64 t55,.slice amq t56.length arj,.slice amr t57.length ark],.agg #[.int .i64 ag,.string aj,.string ak,.int .i64 aD,.slice bY ay.length bW,.slice df ah.length bR]] ?_;(with_reducible refine (Fx.calls lS t52 t53 t54 t55 _ _ t56 _ _ t57 ag aj ak aD _ _ ay _ _ ah true _ ?aI ?aW ?lh ?qZ ?Dy ?Jc ?Dz ?Jd Gn.out).mono ?_)
      (case aI=>exact sd (Kd.dU rF.out).2.2)
      (case aW=>exact (Kd.dU rF.out).2.1)
      (case lh=>exact sd (Kd.dU xn.out).2.2)
      (case qZ=>exact (Kd.dU xn.out).2.1)
      (case Dy=>exact sd (Kd.bJ ng.out HB.out))
      (case Jc=>exact pR.out)
      (case Dz=>exact sd (Kd.bJ lW.out HB.out))
      (case Jd=>exact oM.out)
      rintro e Nc ⟨rfl,hb⟩;refine ⟨_,rfl,?_⟩;replace jJ:=am (Kd.vW (by (with_reducible repeat (first|apply Kd.uL|apply Kd.uM|apply Kd.rG));exact jJ.out) hb);replace rF:=am (Kd.dK (rs rF) hb);replace xn:=am (Kd.dK (rs xn) hb);replace iP:=am (aZ (ks iP) hb);replace HB:=am (fF (bs HB) hb);(try clear hb);refine hK.out _ _ (hb6 iP).out (fun hHeld=>?_);clear hK K;refine nA 34 ?_;refine jm 13 ?_;refine ta 15 ?_;refine oA 16 38 HT_ (fun K hK=>?_);refine gA Tryz.func46 #[.agg #[.int .i64 ag,.string aj,.string ak,.int .i64 aD,.slice bY ay.length bW,.slice df ah.length bR]] ?_;(with_reducible refine (iN.calls lS ag aj ak aD _ _ ay _ _ ah t63 _ ?aI ?aW ?lh ?qZ YH.out).mono ?_)
      (case aI=>exact sd (Kd.bJ ng.out HB.out))
      (case aW=>exact pR.out)
      (case lh=>exact sd (Kd.bJ lW.out HB.out))
      (case qZ=>exact oM.out)
      rintro e BN ⟨rfl,hb⟩;refine ⟨_,rfl,?_⟩;replace jJ:=am (Kd.vW (by (with_reducible repeat (first|apply Kd.uL|apply Kd.uM|apply Kd.rG));exact jJ.out) hb);replace rF:=am (Kd.dK (rs rF) hb);replace xn:=am (Kd.dK (rs xn) hb);replace iP:=am (aZ (ks iP) hb);replace HB:=am (fF (bs HB) hb);(try clear hb);refine hK.out _ _ (hb6 iP).out (fun hHeld=>?_);clear hK K;refine nA 38 ?_;refine kZ 17 ?_;refine fq (gp HT_.out (by kernel_rfl)) ?_
      try go_wp2
      go_ret
      exact ⟨ff,bs HB⟩
     ·replace H:=dD H;obtain rfl:=si H
      try go_wp2
      replace jJ:=am (Kd.rG jJ.out);replace iP:=am (bg iP.out);replace HB:=am (cO HB.out);obtain ⟨aeD,ag6,ahm⟩:=Kd.GV jJ.out
      (first|subst ahm|(injection ahm with dZ iJ d9;have iK:=dZ.symm;have iL:=d9.symm;clear dZ iJ d9;subst iK;subst iL))
      refine il 20 (hb6 iP) (fun hHeld=>?_);refine gq jD.yV jD.ym (fun HT_ HW_=>?_)
      generalize vO.drew=JQ at jJ iP HB hHeld ⊢
      refine bV 0 ?_;refine bV 2 ?_;refine ta 1 ?_;refine oA 3 25 HT_ (fun K hK=>?_);refine gA Tryz.func43 #[.int .i64 ag,.slice aeD t51.length ag6] ?_;(with_reducible refine (eY.calls lS ag _ _ t51 t58 t59 t60 _ ?aI ?aW (Ag HTC (bs HB)) (oJ HTP (bs HB)) zf.out).mono ?_)
      (case aI=>exact sd (Kd.vX jJ.out).2.2)
      (case aW=>exact (Kd.vX jJ.out).2.1)
      rintro e qJ ⟨rfl,hb⟩;refine ⟨_,rfl,?_⟩;replace jJ:=am (Kd.vW (by (with_reducible repeat (first|apply Kd.uL|apply Kd.uM|apply Kd.rG));exact jJ.out) hb);replace iP:=am (aZ (ks iP) hb);replace HB:=am (fF (bs HB) hb);(try clear hb);refine hK.out _ _ (hb6 iP).out (fun hHeld=>?_);clear hK K;refine nA 25 ?_;refine jF 4 ?_;refine bV 9 ?_;refine ta 8 ?_;refine ta 11 ?_;refine oA 10 32 HT_ (fun K hK=>?_);refine gA Tryz.func45 #[.int .i64 ag,.slice aeD t51.length ag6] ?_;(with_reducible refine (gK.calls lS ag _ _ t51 t52 t53 t54 t55 t56 t57 _ ?aI ?aW (oJ HTP (bs HB)) Eb.out).mono ?_)
      (case aI=>exact sd (Kd.vX jJ.out).2.2)
      (case aW=>exact (Kd.vX jJ.out).2.1)
      rintro e F7 ⟨v65,v66,rfl,ho0,ho1,hb⟩;refine ⟨_,rfl,?_⟩;replace jJ:=am (Kd.Cn (Kd.KH (Kd.KH (Kd.aai (by (with_reducible repeat (first|apply Kd.uL|apply Kd.uM|apply Kd.rG));exact jJ.out) hb) (Kd.oO ho0)) (Kd.oO ho1)) (fun _ h_=>h_.1));have rF:=am (Kd.gU ho0 (bC (bs HB)));have xn:=am (Kd.gU ho1 (bC (bs HB)));replace iP:=am (aZ (ks iP) hb);replace HB:=am (fF (bs HB) hb);(try clear hb);(try clear ho0);(try clear ho1);obtain ⟨Ee,EI,H6⟩:=Kd.iy rF.out
      (first|subst H6|(injection H6 with dZ iJ d9;have iK:=dZ.symm;have iL:=d9.symm;clear dZ iJ d9;subst iK;subst iL))
      obtain ⟨Un,VU,Lb⟩:=Kd.iy xn.out
      (first|subst Lb|(injection Lb with dZ iJ d9;have iK:=dZ.symm;have iL:=d9.symm;clear dZ iJ d9;subst iK;subst iL))
      refine hK.out _ _ (hb6 iP).out (fun hHeld=>?_);clear hK K;refine nA 32 ?_;refine oA 12 34 HT_ (fun K hK=>?_);refine gA Tryz.func44 #[.agg #[.int .i64 t52,.string t53,.string t54,.int .i64 t55,.slice Ee t56.length EI,.slice Un t57.length VU],.agg #[.int .i64 ag,.string aj,.string ak,.int .i64 aD,.slice bY ay.length bW,.slice df ah.length bR]] ?_;(with_reducible refine (Fx.calls lS t52 t53 t54 t55 _ _ t56 _ _ t57 ag aj ak aD _ _ ay _ _ ah false _ ?aI ?aW ?lh ?qZ ?Dy ?Jc ?Dz ?Jd Gn.out).mono ?_)
      (case aI=>exact sd (Kd.dU rF.out).2.2)
      (case aW=>exact (Kd.dU rF.out).2.1)
      (case lh=>exact sd (Kd.dU xn.out).2.2)
      (case qZ=>exact (Kd.dU xn.out).2.1)
      (case Dy=>exact sd (Kd.bJ ng.out HB.out))
      (case Jc=>exact pR.out)
      (case Dz=>exact sd (Kd.bJ lW.out HB.out))
      (case Jd=>exact oM.out)
      rintro e Ai ⟨rfl,hb⟩;refine ⟨_,rfl,?_⟩;replace jJ:=am (Kd.vW (by (with_reducible repeat (first|apply Kd.uL|apply Kd.uM|apply Kd.rG));exact jJ.out) hb);replace rF:=am (Kd.dK (rs rF) hb);replace xn:=am (Kd.dK (rs xn) hb);replace iP:=am (aZ (ks iP) hb);replace HB:=am (fF (bs HB) hb);(try clear hb);refine hK.out _ _ (hb6 iP).out (fun hHeld=>?_);clear hK K;refine nA 34 ?_;refine jF 13 ?_;refine kZ 17 ?_;refine fq (gp HT_.out (by kernel_rfl)) ?_
      try go_wp2
      go_ret
      exact ⟨ff,bs HB⟩
    ·intro c15 uh Hl H;obtain rfl:=si H
     try go_wp2
     replace jJ:=am (Kd.rG jJ.out);replace iP:=am (bg iP.out);replace HB:=am (cO HB.out);obtain ⟨aeE,ag7,V5⟩:=Kd.GV jJ.out
     (first|subst V5|(injection V5 with dZ iJ d9;have iK:=dZ.symm;have iL:=d9.symm;clear dZ iJ d9;subst iK;subst iL))
     refine il 20 (hb6 iP) (fun hHeld=>?_);refine gq jD.yV jD.ym (fun HT_ HW_=>?_)
     generalize vO.drew=X8 at jJ iP HB hHeld ⊢
     refine bV 0 ?_;refine bV 2 ?_;refine ta 1 ?_;refine oA 3 25 HT_ (fun K hK=>?_);refine gA Tryz.func43 #[.int .i64 ag,.slice aeE t51.length ag7] ?_;(with_reducible refine (eY.calls lS ag _ _ t51 t58 t59 t60 _ ?aI ?aW (Ag HTC (bs HB)) (oJ HTP (bs HB)) zf.out).mono ?_)
     (case aI=>exact sd (Kd.vX jJ.out).2.2)
     (case aW=>exact (Kd.vX jJ.out).2.1)
     rintro e Nf ⟨rfl,hb⟩;refine ⟨_,rfl,?_⟩;replace jJ:=am (Kd.vW (by (with_reducible repeat (first|apply Kd.uL|apply Kd.uM|apply Kd.rG));exact jJ.out) hb);replace iP:=am (aZ (ks iP) hb);replace HB:=am (fF (bs HB) hb);(try clear hb);refine hK.out _ _ (hb6 iP).out (fun hHeld=>?_);clear hK K;refine nA 25 ?_;refine lH 4 ?_;refine lH 12 ?_;refine fq (gp HT_.out (by kernel_rfl)) ?_
     try go_wp2
     go_ret
     exact ⟨ff,bs HB⟩
theorem Mj.calls (k:Nat) (ag:Int) (aj:ByteArray) (ak:ByteArray) (aD:Int) (bY:Option Addr) (bW:Nat) (ay:List ByteArray) (df:Option Addr) (bR:Nat) (ah:List (aY)) (r:Bool) (w:World) (ko:Kd.C Kd.string w bY ay.length ay) (j6:ay.length≤bW) (kr:Kd.C iR w df ah.length ah) (kg:ah.length≤bR) (hTC:zu w) (hTF:sM w) (hTP:uR w) (H:Mj.f k ag aj ak aD ay ah=some r) :
  Calls Tryz.prog 22 #[.agg #[.int .i64 ag,.string aj,.string ak,.int .i64 aD,.slice bY ay.length bW,.slice df ah.length bR]] w fun e w'=>e=.returned (.bool r)∧Below w.heap.size w w':=by
 have HTC:=am hTC;clear hTC;have HTF:=am hTF;clear hTF;have HTP:=am hTP;clear hTP
 have uX:=Tryz.underlying45;have ng:=am ko;have pR:=am j6;clear ko j6;have lW:=am kr;have oM:=am kg;clear kr kg;have HB:=am (Below.refl w.heap.size w);unfold Mj.f at H;replace H:=bo H;obtain ⟨t7,A2,H⟩:=H;obtain rfl:=si H
 go_in
 go_wp2_with (first|((with_reducible refine aN (N:=1) rfl ?_);refine bz 1 (cs:=#[.int .i64 ag,.string aj,.string ak,.int .i64 aD,.slice bY ay.length bW,.slice df ah.length bR]) (t:=45) HB ?_;clear HB;intro ul hg w3 jQ YY hb HB;clear hb hg;have P6:w3.cell? ⟨ul,0,none⟩=some (.int .i64 ag):=(az jQ.out 0).trans rfl;have P7:w3.cell? ⟨ul,1,none⟩=some (.string aj):=(az jQ.out 1).trans rfl;have abm:w3.cell? ⟨ul,2,none⟩=some (.string ak):=(az jQ.out 2).trans rfl;have ahX:w3.cell? ⟨ul,3,none⟩=some (.int .i64 aD):=(az jQ.out 3).trans rfl;have asW:w3.cell? ⟨ul,4,none⟩=some (.slice bY ay.length bW):=(az jQ.out 4).trans rfl;have asX:w3.cell? ⟨ul,5,none⟩=some (.slice df ah.length bR):=(az jQ.out 5).trans rfl;have P9:=aV jQ.out 0;have Qa:=aV jQ.out 1;have abo:=aV jQ.out 2;have ah0:=aV jQ.out 3;have atj:=aV jQ.out 4;have atl:=aV jQ.out 5)|((go_at_call 23;(with_reducible refine (jD.calls k ag aj ak aD _ _ ay _ _ ah t7 _ (Kd.bJ ng.out (bs HB)) pR.out (Kd.bJ lW.out (bs HB)) oM.out (Ag HTC (bs HB)) (vN HTF (bs HB)) (oJ HTP (bs HB)) A2.out).mono ?_);rintro e w5 ⟨rfl,hb⟩);replace jQ:=bb jQ hb;replace HB:=bq HB hb;(try clear hb)))
 go_ret
 exact ⟨ff,bs HB⟩
theorem vk.calls (k:Nat) (A0:Option Addr) (c0:Nat) (l0:List (gN))  (r:Int) (w:World) (hr0:Kd.C kK w A0 l0.length l0) (hc0:l0.length≤c0) (hTC:zu w) (hTF:sM w) (hTP:uR w) (H:vk.f k l0=some r) :
  Calls Tryz.prog 40 #[.slice A0 l0.length c0,.func (.func 22) #[] #[]] w fun e w'=>e=.returned (.int .i64 r)∧Below w.heap.size w w':=by
 have HTC:=am hTC;clear hTC;have HTF:=am hTF;clear hTF;have HTP:=am hTP;clear hTP
 have uX:=Tryz.underlying45;have fZ:=am hr0;have ku:=am hc0;clear hr0 hc0;have HB:=am (Below.refl w.heap.size w);unfold vk.f at H;have H':=am H;clear H
 go_in
 go_wp2
 go_loopg [8] k (fun kq v8 w'=>∃ (aA:Int),v8=.int .i64 aA∧af (vk.l0 kq l0 (l0.length:Int) aA=some r)∧af (kq≤k)∧af (Below w.heap.size w w'))
 case atStart=>exact ⟨(0),fg,H',⟨Nat.le_refl _⟩,⟨bs HB⟩⟩
 case round =>
  clear H'
  obtain ⟨aA,rfl,HA,aU,HB⟩:=hrel
  cases gk with
  | zero=>exact absurd HA.out (by simp [vk.l0])
  | succ k1 =>
   have H:=HA.out;clear HA;simp only [vk.l0] at H
   revert H;refine cB ?_ ?_
   ·intro bN H
    revert H;refine bu ?_
    intro dS H
    revert H;refine bu ?_
    intro kv H;replace H:=bo H;obtain ⟨pF,A6,H⟩:=H;obtain ⟨p9,q9,yj,amh,aq4,ami,aq5,e9,nD,qw,wG,zU,zV,Sk,QM,Qq,QN,Qr⟩:=wi (Ct fZ.out aA)
    cases e9
    replace nD:=cb HB nD;replace qw:=cb HB qw;replace wG:=cb HB wG;replace zU:=cb HB zU;replace zV:=cb HB zV;replace Sk:=cb HB Sk;have ZQ:=am Qq;have Zt:=am QM;clear Qq QM;have ZR:=am Qr;have Zu:=am QN;clear Qr QN
    try go_wp2_with (fail)
    go_at_call 22;(with_reducible refine (Mj.calls k1 ((aG l0 aA).f0) ((aG l0 aA).f1) ((aG l0 aA).f2) ((aG l0 aA).f3) _ _ ((aG l0 aA).f4) _ _ ((aG l0 aA).f5) pF _ (Kd.bJ ZQ.out (bs HB)) Zt.out (Kd.bJ ZR.out (bs HB)) Zu.out (Ag HTC (bs HB)) (vN HTF (bs HB)) (oJ HTP (bs HB)) A6.out).mono ?_);rintro e w7 ⟨rfl,hb⟩;replace HB:=bq HB hb;(try clear hb)
    obtain rfl|rfl:=bt pF
    ·replace H:=dE H;obtain rfl:=si H
     go_wp2
     go_ret
     exact ⟨ff,bs HB⟩
    ·replace H:=dD H;have H':=am H;clear H
     go_wp2
     go_roundg k1
     case measure=>have:=aU.out;omega
     case rel=>exact ⟨(wrap64 (aA+1)),fg,H',⟨by have:=aU.out;omega⟩,⟨bs HB⟩⟩
   ·intro bN H;obtain rfl:=si H
    go_wp2
    go_ret
    exact ⟨ff,bs HB⟩
theorem Mi.calls (k:Nat) (A0:Option Addr) (c0:Nat) (l0:List (gN))  (r:Bool) (w:World) (hr0:Kd.C kK w A0 l0.length l0) (hc0:l0.length≤c0) (hTC:zu w) (hTF:sM w) (hTP:uR w) (H:Mi.f k l0=some r) :
  Calls Tryz.prog 21 #[.slice A0 l0.length c0,.func (.func 22) #[] #[]] w fun e w'=>e=.returned (.bool r)∧Below w.heap.size w w':=by
 have HTC:=am hTC;clear hTC;have HTF:=am hTF;clear hTF;have HTP:=am hTP;clear hTP
 have fZ:=am hr0;have ku:=am hc0;clear hr0 hc0;have HB:=am (Below.refl w.heap.size w);unfold Mi.f at H;replace H:=bo H;obtain ⟨t5,A3,H⟩:=H;obtain rfl:=si H
 go_in
 go_wp2_with (first|((go_at_call 40;(with_reducible refine (vk.calls k _ _ l0  t5 _ ?aI ku.out (Ag HTC (bs HB)) (vN HTF (bs HB)) (oJ HTP (bs HB)) A3.out).mono ?_);(case aI=>exact sd fZ.out);rintro e w4 ⟨rfl,hb⟩);replace HB:=bq HB hb;(try clear hb)))
 go_ret
 exact ⟨ff,bs HB⟩
def IJ.T:Bool × List (List Nat × List Nat):=(true,[([],[]),([0],[0]),([1],[1]),([2],[2]),([3,2],[2,3]),([2],[2]),([5,2],[2,5]),([2],[2]),([7,2],[2,7]),([6,8,2],[2,6,8]),([9,2],[2,9]),([10,2],[2,10]),([4,11,2],[2,4,11]),([2,12],[2,12])])
def IJ.B:List Nat:=[0,1,3,7,15,7,39,7,135,487,999,2023,4095,8191]
def Xe.T:Bool × List (List Nat × List Nat):=(true,[([],[]),([],[]),([1],[1]),([2],[2]),([3],[3]),([],[]),([5],[5]),([],[]),([7],[7]),([6,8],[6,8]),([9],[9]),([4,10,8],[4,10]),([0,0,1,2,3,4,5,6,7,8,9,10,11],[0]),([12,0,1,2,3,4,5,6,7,8,9,10,11],[12]),([13,11,11,0,1,2,3,4,5,6,7,8,9,10,11],[11,13])])
def Xe.B:List Nat:=[0,0,2,6,14,0,32,0,128,480,992,2046,1,4097,16383]
theorem iW.CF (k:Nat) (ag:ByteArray) (aj:ByteArray) (ak:Int) (fP:Option Addr) (eZ:Nat) (au:List (gN)) (r1:ByteArray) (r2:ByteArray) (r3:Int) (r4:List (gP)) (w:World) (kE:Kd.C kK w fP au.length au) (kD:au.length≤eZ) (hTF:sM w) (H:iW.f k ag aj ak au=some (r1,r2,r3,r4)) :
  Calls Tryz.prog 25 #[.agg #[.string ag,.string aj,.int .i64 ak,.slice fP au.length eZ]] w fun e w'=>∃ wR:Value,e=.returned (.agg #[.string r1,.string r2,.int .i64 r3,wR])∧Kd.S tq 71 w' w.heap.size (fun k_=>(w.heap.size≤k_)) wR r4∧Below w.heap.size w w':=by
 have hu0:=Tryz.underlying29;have hu1:=Tryz.underlying35;have hu2:=Tryz.underlying45;have hu3:=Tryz.underlying71;have hu4:=Tryz.underlying73;have hu5:=Tryz.underlying33;have hu6:=Tryz.underlying69;have hu7:=Tryz.underlying27;have hbo:=@gH.calls;clear hbo;have HTF:=af.mk hTF;have HR:=af.mk kE;have HC:=af.mk kD;clear hTF kE kD;have HB:=af.mk (Below.refl w.heap.size w);unfold iW.f at H;replace H:=bo H;obtain ⟨rl,A1,H⟩:=H;obtain ⟨rfl,rfl,rfl,rfl⟩:=SX H;clear H
 go_enter Tryz.func25,Tryz.ntmps25
 go_wp2_with (first|((with_reducible refine aN (N:=1) rfl ?_);refine bx 1 (cs:=#[.string ag,.string aj,.int .i64 ak,.slice fP au.length eZ]) (t:=29) ?_;intro g1 hg wa hbox hb;have B1:=af.mk hbox;replace HB:=af.mk (fF (bs HB) hb);clear hb hbox hg)|((with_reducible refine aN (N:=2) rfl ?_);refine bx 2 (cs:=#[.string (⟨#[]⟩:ByteArray),.string (⟨#[]⟩:ByteArray),.int .i64 0,.slice none 0 0]) (t:=35) ?_;intro g2 hg wb hbox hb;have B2:=af.mk hbox;have E2:=af.mk (gs hg (bs HB));replace HB:=af.mk (fF (bs HB) hb);replace B1:=af.mk (aZ (ks B1) hb);clear hb hbox hg;have z1:=eU B1)|((with_reducible refine aN (N:=3) rfl ?_);refine bx 3 (cs:=#[.string (⟨#[]⟩:ByteArray),.string (⟨#[]⟩:ByteArray),.int .i64 0,.slice none 0 0]) (t:=35) ?_;intro g3 hg wc hbox hb;have B3:=af.mk hbox;have E3:=af.mk (gs hg (bs HB));have Ox:=af.mk (gn hg (ks B1));have Gy:=af.mk (gn hg (ks B2));replace HB:=af.mk (fF (bs HB) hb);replace B1:=af.mk (aZ (ks B1) hb);replace B2:=af.mk (aZ (ks B2) hb);clear hb hbox hg z1;have z1:=eU B1;have z3:=eU B3)|((with_reducible refine H8 (t:=35) (p:=3) rfl ?_);refine Jk (t:=35) (p:=3) (v:=?vo3) (w1:=((((wc.setCell ⟨g3,0,none⟩ (.string ag)).setCell ⟨g3,1,none⟩ (.string aj)).setCell ⟨g3,2,none⟩ (.int .i64 ak)).setCell ⟨g3,3,none⟩ (.slice none 0 0))) ?hg ?ho ?hn ?hr ?_;(case ho=>rfl);(case hg=>rfl);(case hn=>rfl);(case hr=>first|(go_simp;done)|(go_simp;rfl));intro wd hw;clear z1 z3;obtain ⟨hx,hk,hB⟩:=agB B3.out hw;clear hw;replace HB:=af.mk (hB _ HB.out E3.out);replace B1:=af.mk (xB B1.out hk (fun e_=>Ox.out e_));replace B2:=af.mk (xB B2.out hk (fun e_=>Gy.out e_));replace B3:=af.mk hx;clear hx hk hB;have z1:=eU B1;have z3:=eU B3))
 obtain ⟨s0,es⟩:∃ s,s=wd.heap.size:=⟨_,rfl⟩;have D1:=af.mk (show g1<s0 from by rw [es];exact rO B1.out);have D2:=af.mk (show g2<s0 from by rw [es];exact rO B2.out);have D3:=af.mk (show g3<s0 from by rw [es];exact rO B3.out);have S0:=af.mk (show w.heap.size≤s0 from by rw [es];exact HB.out.size);have T0:=af.mk (show s0≤wd.heap.size from by rw [es];exact Nat.le_refl _);clear es
 go_loopg [17] k (fun kq v17 w'=>∃ (i:Int) (l:List gP) (Al:Option Addr) (cl:Nat),v17=.int .i64 i∧af (iW.l0 kq au i l=some rl)∧af (kq≤k)∧af (Kd.S tq 71 w' w.heap.size (fun k_=>s0≤k_) (.slice Al l.length cl) l)∧af (w'.heap[g1]? = some (.cells #[.string ag,.string aj,.int .i64 ak,.slice fP au.length eZ] 29 (0,0)))∧af (w'.heap[g2]? = some (.cells #[.string (⟨#[]⟩:ByteArray),.string (⟨#[]⟩:ByteArray),.int .i64 0,.slice none 0 0] 35 (0,0)))∧af (w'.heap[g3]? = some (.cells #[.string ag,.string aj,.int .i64 ak,.slice Al l.length cl] 35 (0,0)))∧af (s0≤w'.heap.size)∧af (Below w.heap.size w w'))
 case atStart=>exact ⟨0,[],none,0,rfl,A1,⟨Nat.le_refl _⟩,⟨Kd.qO _ _ _ _ _⟩,B1,B2,B3,T0,HB⟩
 case round =>
  clear A1 B1 B2 B3 T0 HB;(try clear z1);(try clear z3);obtain ⟨i,l,Al,cl,rfl,HA,aU,Y,B1,B2,B3,T0,HB⟩:=hrel
  cases gk with
  | zero=>exact absurd HA.out (by simp [iW.l0])
  | succ k1 =>
   have H:=HA.out;clear HA;simp only [iW.l0] at H
   revert H;refine cB ?_ ?_
   ·intro c9 H;revert H;refine bu ?_;intro c10 H;revert H;refine jE ?_;intro c11 H;have LX:=af.mk c11;clear c11;replace H:=bo H;obtain ⟨lc,A7,H⟩:=H;have H':=af.mk H;clear H;have pi:=af.mk (show 0≤(i:Int) from oa);have qi:=af.mk (show i<(au.length:Int) from oa);obtain ⟨p1,q1,ad,NZ,Pg,N7,Pi,ea,j0,j1,j2,j3,j4,j5,hl4,hi4,hl5,hi5⟩:=wi (Ct HR.out i);cases ea;have Zv:=af.mk hi4;have Zx:=af.mk hl4;have Zw:=af.mk hi5;have Zy:=af.mk hl5;clear hi4 hl4 hi5 hl5;replace j0:=cb HB j0;replace j1:=cb HB j1;replace j2:=cb HB j2;replace j3:=cb HB j3;replace j4:=cb HB j4;replace j5:=cb HB j5
    go_upto_region 5 with (first|((with_reducible refine aN (N:=5) rfl ?_);refine bx 5 (cs:=#[.int .i64 0,.string (⟨#[]⟩:ByteArray),.string (⟨#[]⟩:ByteArray),.int .i64 0,.slice none 0 0,.slice none 0 0]) (t:=45) ?_;intro g5 hg we hbox hb;have F5:=af.mk (show s0≤g5 from by rw [hg];exact T0.out);replace Y:=af.mk (Kd.rJ (Kd.fU (ok':=fun k_=>s0≤k_∧k_≠g5) (Kd.uf Y.out) (fun k_ q=>⟨q.1,by have:=q.2.2.1;omega⟩)) hb);have B5:=af.mk hbox;have E5:=af.mk (gs hg (bs HB));replace B1:=af.mk (aZ (ks B1) hb);replace B2:=af.mk (aZ (ks B2) hb);replace B3:=af.mk (aZ (ks B3) hb);replace T0:=af.mk (Nat.le_trans T0.out hb.size);replace HB:=af.mk (fF (bs HB) hb);clear hb hbox hg j0 j1 j2 j3 j4 j5;have z5:=dC B5)|((with_reducible refine H8 (t:=45) (p:=5) rfl ?_);refine Jk (t:=45) (p:=5) (v:=?vo5) (w1:=((((((we.setCell ⟨g5,0,none⟩ (.int .i64 (aG au i).f0)).setCell ⟨g5,1,none⟩ (.string (aG au i).f1)).setCell ⟨g5,2,none⟩ (.string (aG au i).f2)).setCell ⟨g5,3,none⟩ (.int .i64 (aG au i).f3)).setCell ⟨g5,4,none⟩ (.slice NZ (aG au i).f4.length Pg)).setCell ⟨g5,5,none⟩ (.slice N7 (aG au i).f5.length Pi))) ?hg ?ho ?hn ?hr ?_;(case ho=>rfl);(case hg=>rfl);(case hn=>rfl);(case hr=>first|(go_simp;done)|(go_simp;rfl));intro wf hw;clear z5;obtain ⟨hx,hk,hB⟩:=aqi B5.out hw;clear hw;replace HB:=af.mk (hB _ HB.out E5.out);replace Y:=af.mk (Kd.aan Y.out hk (fun k_ q e_=>q.2 e_));replace B1:=af.mk (xB B1.out hk (fun e_=>by have:=D1.out;have:=F5.out;omega));replace B2:=af.mk (xB B2.out hk (fun e_=>by have:=D2.out;have:=F5.out;omega));replace B3:=af.mk (xB B3.out hk (fun e_=>by have:=D3.out;have:=F5.out;omega));replace B5:=af.mk hx;replace T0:=af.mk (Nat.le_trans T0.out hk.1);clear hx hk hB))
    have BZ:=A7.out;clear A7;revert BZ;refine bL (fun VC VD A7=>?_) (fun c0 VC VD A7=>?_)
    focus
     have A8:=af.mk (show (if true=true then iW.l2 k1 (aG au i) i l else iW.l1 k1 (aG au i) i l)=some lc from A7);clear A7;replace B1:=af.mk (bg B1.out);replace B2:=af.mk (bg B2.out);replace B3:=af.mk (bg B3.out);replace B5:=af.mk (bg B5.out);replace Y:=af.mk (Kd.dV Y.out);replace T0:=af.mk (show s0≤wf.drew.heap.size from T0.out);replace HB:=af.mk (cO HB.out);refine Af 14 [] (oF B5 (hb4 B1)) (fun hHeld=>?_);refine gq (show fJ .any (opsOf Tryz.f25 5)=IJ.T from by kernel_rfl) (show iY IJ.T.2 IJ.B=true from by kernel_rfl) (fun HT_ HW_=>?_)
     generalize wf.drew=wg at B1 B2 B3 B5 Y T0 HB hHeld ⊢
     refine kZ 0 ?_;refine lH 3 ?_;refine kZ 11 ?_;refine fq (gp HT_.out (by kernel_rfl)) ?_;clear HT_ HW_ hHeld
    rotate_left
    focus
     clear c0;revert A7;refine bu ?_;intro cj A7;revert A7;refine bu ?_;intro ck A7;obtain ⟨p2,q2,ad2,A4f,c4f,A5f,c5f,eb,y0,_,_,_,_,_,_,_,_,_⟩:=wi (Ct HR.out (wrap64 (i - 1)));cases eb;have Y0:=af.mk y0;clear y0;replace B1:=af.mk (bg B1.out);replace B2:=af.mk (bg B2.out);replace B3:=af.mk (bg B3.out);replace B5:=af.mk (bg B5.out);replace Y:=af.mk (Kd.dV Y.out);replace T0:=af.mk (show s0≤wf.drew.heap.size from T0.out);replace HB:=af.mk (cO HB.out);refine Af 14 [] (oF B5 (ny B1 (hc (cb HB Y0.out)))) (fun hHeld=>?_);refine gq (show fJ .any (opsOf Tryz.f25 5)=IJ.T from by kernel_rfl) (show iY IJ.T.2 IJ.B=true from by kernel_rfl) (fun HT_ HW_=>?_)
     generalize wf.drew=wg at B1 B2 B3 B5 Y T0 HB hHeld ⊢
     revert A7;refine bL (fun VJ VK A7=>?_) (fun c1 VJ VK A7=>?_)
     have A8:=af.mk (show (if false=true then iW.l2 k1 (aG au i) i l else iW.l1 k1 (aG au i) i l)=some lc from A7);clear A7;rotate_left;have A8:=af.mk (show (if true=true then iW.l2 k1 (aG au i) i l else iW.l1 k1 (aG au i) i l)=some lc from A7);clear A7 c1
     all_goals
      refine jF 0 ?_;refine ta 4 ?_;refine bV 5 ?_;refine ta 6 ?_;refine jF 7 ?_;refine ta 11 ?_;refine jm 12 ?_;refine fq (gp HT_.out (by kernel_rfl)) ?_;clear HT_ HW_ hHeld
    all_goals
     go_upto_if 35 with (fail)
     go_cut [] (fun wx=>∃ (l2:List gP) (A2:Option Addr) (c2:Nat),af (iW.l1 k1 (aG au i) i l2=some lc)∧af (l2.length≤3518437208883)∧af (Kd.S tq 71 wx w.heap.size (fun k_=>s0≤k_∧k_≠g5) (.slice A2 l2.length c2) l2)∧af (wx.heap[g1]? = some (.cells #[.string ag,.string aj,.int .i64 ak,.slice (some ad) au.length eZ] 29 (0,0)))∧af (wx.heap[g2]? = some (.cells #[.string (⟨#[]⟩:ByteArray),.string (⟨#[]⟩:ByteArray),.int .i64 0,.slice none 0 0] 35 (0,0)))∧af (wx.heap[g3]? = some (.cells #[.string ag,.string aj,.int .i64 ak,.slice A2 l2.length c2] 35 (0,0)))∧af (wx.heap[g5]? = some (.cells #[.int .i64 (aG au i).f0,.string (aG au i).f1,.string (aG au i).f2,.int .i64 (aG au i).f3,.slice NZ (aG au i).f4.length Pg,.slice N7 (aG au i).f5.length Pi] 45 (0,0)))∧af (s0≤wx.heap.size)∧af (Below w.heap.size w wx))
     case first =>
      first
      | (have A7:af (iW.l1 k1 (aG au i) i l=some lc):=af.mk (dD A8.out);clear A8;go_wp2;go_meet;case rel=>exact ⟨l,Al,cl,A7,⟨by have:=LX.out;omega⟩,Y,B1,B2,B3,B5,T0,HB⟩)
      | (have A7:=af.mk (dE A8.out);clear A8;obtain ⟨xx,hxx⟩:∃ y,y=l++[(⟨(aG au i).f0,wrap64 ((l.length:Int)+1),[]⟩:gP)]:=⟨_,rfl⟩;have A8:=af.mk (show iW.l1 k1 (aG au i) i xx=some lc from by rw [hxx];exact A7.out);have NX:=af.mk hxx;clear hxx A7;have z3:=eU B3;have z5:=dC B5;go_wp2_with (first|((with_reducible refine pX (b:=.append) (xs:=#[.tmp 37,.tmp 45]) rfl ?_);at_builtin;refine Kd.U6 tq (w0:=w) w.heap.size rfl (.tmp 37) (.tmp 45) 33 71 ((.agg #[(.int .i64 0),(.int .i64 0),(.slice none 0 0)])) 40 rfl Tryz.underlying33 akd rfl (by decide) (by omega) (.slice Al l.length cl) l (⟨(aG au i).f0,wrap64 ((l.length:Int)+1),[]⟩:gP) [.int .i64 ((aG au i).f0),.int .i64 (wrap64 ((l.length:Int)+1)),.slice none 0 0] (fun k_=>s0≤k_∧k_≠g5) (fun _=>False) rfl rfl ⟨_,rfl,Kd.qO _ _ _ _ _⟩ (fun _ h=>h.elim) (fun k_ q_=>⟨Nat.le_trans T0.out q_,fun e_=>by have:=rO B5.out;omega⟩) (Kd.fU Y.out (fun _ q_=>⟨q_,id⟩)) (bs HB) (bC (bs HB)) (by have:=LX.out;omega) ?_;intro vx wh ho hb hg hat;rw [← NX.out] at ho;obtain ⟨Ec,EE,e_⟩:=Kd.kI ho;subst e_;clear z3 z5;have hn:∀ q,q<s0→some q≠(Value.slice Al l.length cl).ownBlock:=fun q hq e_=>(by obtain ⟨_,h1,_⟩:=Y.out;have:=(h1 _ e_.symm).1;omega);replace B1:=af.mk (fG (ks B1) hg (hn _ D1.out));replace B2:=af.mk (fG (ks B2) hg (hn _ D2.out));replace B3:=af.mk (fG (ks B3) hg (hn _ D3.out));replace B5:=af.mk (fG (ks B5) hg (fun e_=>by obtain ⟨_,h1,_⟩:=Y.out;exact (h1 _ e_.symm).2 rfl));replace T0:=af.mk (Nat.le_trans T0.out hg.size);replace HB:=af.mk hb;replace Y:=af.mk ho;clear hn ho hb hg hat;have z3:=eU B3));obtain ⟨wl,hw⟩:∃ W,W=wh.setCell ⟨g3,3,none⟩ (.slice Ec xx.length EE):=⟨_,rfl⟩;rw [← hw];have hk:Kept wh wl (fun k_=>k_=g3):=(by rw [hw];exact Kept.setCell (p:=⟨g3,3,none⟩) (S:=fun k_=>k_=g3) (Kept.refl _ _) (Or.inl rfl) _);replace HB:=af.mk (show Below w.heap.size w wl from by rw [hw];exact eD HB.out E3.out);replace B1:=af.mk (xB B1.out hk (fun e_=>Ox.out e_));replace B2:=af.mk (xB B2.out hk (fun e_=>Gy.out e_));replace B5:=af.mk (xB B5.out hk (fun e_=>by have:=D3.out;have:=F5.out;omega));have B3':af (wl.heap[g3]? = some (.cells #[.string ag,.string aj,.int .i64 ak,.slice Ec xx.length EE] 35 (0,0))):=⟨by rw [hw];exact kp B3⟩;replace T0:=af.mk (Nat.le_trans T0.out hk.1);replace Y:=af.mk (Kd.aan Y.out hk (fun k_ q_ e_=>by have:=D3.out;have:=q_.1;omega));clear hk hw;go_meet;case rel=>exact ⟨xx,Ec,EE,A8,⟨by have:=LX.out;have e:=congrArg List.length NX.out;simp only [List.length_append,List.length_cons,List.length_nil] at e;omega⟩,Y,B1,B2,B3',B5,T0,HB⟩)
     case rest =>
      clear A8 Y B1 B2 B3 B5 T0 HB;obtain ⟨l2,A2,c2,A7,L2,Y,B1,B2,B3,B5,T0,HB⟩:=hcut;have BZ:=A7.out;clear A7;unfold iW.l1 at BZ;revert BZ;refine jE ?_;rintro ⟨cp,cq⟩ A7;replace A7:=bo A7;obtain ⟨b,Ab,A7⟩:=A7;replace A7:=si A7
      have hw1:wrap64 ((l2.length:Int) - 1)=(l2.length:Int) - 1:=(by have:=L2.out;unfold wrap64;omega);have n0:0≤wrap64 ((l2.length:Int) - 1):=(by rw [hw1];omega);have n1:wrap64 ((l2.length:Int) - 1)<(l2.length:Int):=(by rw [hw1];omega);have eJ:=af.mk (show (wrap64 ((l2.length:Int) - 1)).toNat=l2.length - 1 from by rw [hw1];omega);rw [← hw1] at cq A7;clear hw1
      obtain ⟨gB,cap,eo,hbB,hlB,_,_⟩:=Kd.OJ Y.out cp;injection eo with ea_ en_ ec_;subst ea_;subst ec_;clear en_;have EB:=af.mk hbB;have OKB:=af.mk ((Kd.ql Y.out).1 gB rfl)
      obtain ⟨oki,c,_,hM,hcc,_,hoki,hH⟩:=Kd.KP Y.out z71 (wrap64 ((l2.length:Int) - 1)) n0 n1;replace hM:=(show Kd.M tq _ _ oki (cu l2 (wrap64 ((l2.length:Int) - 1))) c from hM);obtain ⟨x1,hx1⟩:∃ x,x=cu l2 (wrap64 ((l2.length:Int) - 1)):=⟨_,rfl⟩;rw [← hx1] at hM cq A7;clear hx1;have LC:=af.mk A7;have CQ:=af.mk cq;have HOK:=af.mk hoki;clear A7 cq cp hoki
      obtain ⟨vM,ec,hR⟩:=id hM;subst ec;obtain ⟨AM,cM,eM⟩:=Kd.kI hR;subst eM;have HX:=af.mk (show wc.cell? ⟨gB,(wrap64 ((l2.length:Int) - 1)).toNat * 3+2,none⟩=some (.slice AM x1.f2.length cM) from hcc 2 _ rfl);have HH:=af.mk hH;have HRM:=af.mk hR;clear hM hcc hH hR Y;have p3:=eq_true n0;have q3:=eq_true n1;have N0:=af.mk n0;have N1:=af.mk n1;clear n0 n1;have z3:=eU B3
      go_wp2
      clear z3 p3 q3;replace B1:=af.mk (bg B1.out);replace B2:=af.mk (bg B2.out);replace B3:=af.mk (bg B3.out);replace B5:=af.mk (bg B5.out);replace HX:=af.mk (show wc.drew.cell? ⟨gB,(wrap64 ((l2.length:Int) - 1)).toNat * 3+2,none⟩=_ from HX.out);replace HH:=af.mk (Kd.afm HH.out);replace HRM:=af.mk (Kd.dV HRM.out);replace T0:=af.mk (show s0≤wc.drew.heap.size from T0.out);have GBA:=af.mk (show gB<wc.drew.heap.size from hlB);replace HB:=af.mk (cO HB.out);clear hlB hbB;refine Af 15 [14] (oF B5 (hc HX.out)) (fun hHeld=>?_);refine gq (show fJ .any (opsOf Tryz.f25 8)=Xe.T from by kernel_rfl) (show iY Xe.T.2 Xe.B=true from by kernel_rfl) (fun HT_ HW_=>?_)
      generalize wc.drew=wA at B1 B2 B3 B5 HX HH HRM T0 GBA HB hHeld ⊢
      have TA:=af.mk T0.out;have G5A:=af.mk (rO B5.out);refine bV 0 ?_;refine kZ 1 ?_;refine ta 4 ?_;refine jm 5 ?_;refine ta 7 ?_;refine oA 8 63 HT_ (fun K hK=>?_);refine gA Tryz.func42 #[.agg #[.int .i64 (aG au i).f0,.string (aG au i).f1,.string (aG au i).f2,.int .i64 (aG au i).f3,.slice NZ (aG au i).f4.length Pg,.slice N7 (aG au i).f5.length Pi]] ?_;(with_reducible refine (gH.CF k1 ((aG au i).f0) ((aG au i).f1) ((aG au i).f2) ((aG au i).f3) _ _ ((aG au i).f4) _ _ ((aG au i).f5) b _ ?aI Zx.out ?lh Zy.out (vN HTF (bs HB)) Ab.out).mono ?_);(case aI=>exact Kd.bJ Zv.out HB.out);(case lh=>exact Kd.bJ Zw.out HB.out);rintro e wB ⟨v9,rfl,xK,hb⟩;refine ⟨_,rfl,?_⟩;obtain ⟨A9,c9,e_⟩:=Kd.kI xK;subst e_;have Z9:=af.mk (Kd.mJ xK HB.out.size);clear xK;have WAB:=af.mk hb.size;replace HH:=af.mk (Kd.UQ (Kd.ZX HH.out) hb);replace HRM:=af.mk (Kd.rJ (Kd.fU (ok':=fun k_=>oki k_∧k_<wA.heap.size) (Kd.uf HRM.out) (fun _ q=>⟨q.1,q.2.2.1⟩)) hb);replace HX:=af.mk (show wB.cell? ⟨gB,(wrap64 ((l2.length:Int) - 1)).toNat * 3+2,none⟩=some (.slice AM x1.f2.length cM) from (Kd.Ei HH.out N0.out N1.out).1 2 _ rfl);replace B1:=af.mk (aZ (ks B1) hb);replace B2:=af.mk (aZ (ks B2) hb);replace B3:=af.mk (aZ (ks B3) hb);replace B5:=af.mk (aZ (ks B5) hb);replace T0:=af.mk (Nat.le_trans T0.out hb.size);replace HB:=af.mk (fF (bs HB) hb);clear hb;refine hK.out _ _ (oF B5 (hc HX.out)).out (fun hHeld=>?_);clear hK K;refine nA 63 ?_;refine bV 9 ?_;refine oA 10 65 HT_ (fun K hK=>?_);refine DF (w1:=?_) (v:=?_) (by rfl) rfl ?_ ?_
      rotate_left 2
      ·go_simp
       constructor
       ·rfl
       ·rfl
      refine hK.out _ _ ⟨(az (eu B5.out _) 0).trans rfl,(az (eu B5.out _) 1).trans rfl,(az (eu B5.out _) 2).trans rfl,(az (eu B5.out _) 3).trans rfl,(az (eu B5.out _) 4).trans rfl,(az (eu B5.out _) 5).trans rfl,(World.cell?_alloc_lt _ _ _ (World.block_lt_of_cell? _ _ HX.out)).trans HX.out⟩ (fun hHeld=>?_);clear hK K;refine nA 65 ?_;obtain ⟨mm,hmm⟩:∃ y,y=x1.f2++[(⟨wrap64 (i+1),b⟩:kN)]:=⟨_,rfl⟩;have NM:=af.mk hmm;clear hmm
      refine oA 11 66 HT_ (fun K hK=>?_);refine Kd.KM MF (w0:=w) w.heap.size (by rfl) (.tmp 59) (.tmp 65) 69 73 ((.agg #[(.int .i64 0),(.slice none 0 0)])) 32 rfl Tryz.underlying69 ake rfl (by decide) (by omega) (.slice AM x1.f2.length cM) x1.f2 (⟨wrap64 (i+1),b⟩:kN) [.int .i64 (wrap64 (i+1)),.slice A9 b.length c9] (fun k_=>oki k_∨wA.heap.size≤k_) (fun k_=>wA.heap.size≤k_) rfl rfl ⟨_,rfl,Z9.out⟩ (fun k_ q_=>⟨.inr q_,fun e_=>by obtain ⟨_,h1,_⟩:=HRM.out;have:=(h1 k_ e_.symm).2;omega⟩) (fun k_ q_=>.inr (Nat.le_trans WAB.out q_)) (Kd.fU HRM.out (fun _ q_=>⟨.inl q_.1,Nat.not_le_of_lt q_.2⟩)) HB.out HB.out.size (by have:=CQ.out;omega) ?_;intro vx wC ho hb hg hat;rw [← NM.out] at ho;obtain ⟨BU,Cw,e_⟩:=Kd.kI ho;subst e_
      have hr:∀ k,(Value.slice AM x1.f2.length cM).ownBlock=some k→oki k:=fun k e=>(by obtain ⟨_,h1,_⟩:=HRM.out;exact (h1 k e).1);have hn:∀ q,(∀ k,oki k→k≠q)→some q≠(Value.slice AM x1.f2.length cM).ownBlock:=fun q hq e=>hq q (hr q e.symm) rfl;replace HH:=af.mk (Kd.afn HH.out hg (fun k e=>.inl (hr k e)));replace B1:=af.mk (fG (ks B1) hg (hn _ (fun k h e=>by have h1:=(HOK.out k h).1.1;have h2:=D1.out;omega)));replace B2:=af.mk (fG (ks B2) hg (hn _ (fun k h e=>by have h1:=(HOK.out k h).1.1;have h2:=D2.out;omega)));replace B3:=af.mk (fG (ks B3) hg (hn _ (fun k h e=>by have h1:=(HOK.out k h).1.1;have h2:=D3.out;omega)));replace B5:=af.mk (fG (ks B5) hg (hn _ (fun k h e=>(HOK.out k h).1.2 e)));replace T0:=af.mk (Nat.le_trans T0.out hg.size);replace HB:=af.mk hb;replace HX:=af.mk (show wC.cell? ⟨gB,(wrap64 ((l2.length:Int) - 1)).toNat * 3+2,none⟩=some (.slice AM x1.f2.length cM) from (Kd.Ei HH.out N0.out N1.out).1 2 _ rfl);have HO:=af.mk ho;clear hr hn ho hb hg hat HRM Z9
      refine hK.out _ _ (oF B5 (hc HX.out)).out (fun hHeld=>?_);clear hK K;refine nA 66 ?_;refine jm 12 ?_;refine FC (i:=14) (N:=none) #[true,true,true,true,true,true,true,true,true,true,true,true,true,true,true] rfl rfl (vB HT_.out (by kernel_rfl)) (by decide) (fun K hK=>?_);have hs:=HX.out;have hf:wC.frozen? ⟨gB,(wrap64 ((l2.length:Int) - 1)).toNat * 3+2,none⟩=false:=(Kd.Ei HH.out N0.out N1.out).2 2;refine vD (w1:=wC.setCell ⟨gB,(wrap64 ((l2.length:Int) - 1)).toNat * 3+2,none⟩ (.slice BU mm.length Cw)) (by rfl) rfl (by first|(go_simp;done)|(go_simp;rfl)) ?_;refine hK.out _ _ ?_;clear hK K hs hf hHeld;refine fq (gp HT_.out (by kernel_rfl)) ?_;clear HT_ HW_;obtain ⟨wl,hw⟩:∃ W,W=wC.setCell ⟨gB,(wrap64 ((l2.length:Int) - 1)).toNat * 3+2,none⟩ (.slice BU mm.length Cw):=⟨_,rfl⟩;rw [← hw];obtain ⟨hq,hg2⟩:=Kd.UR HH.out N0.out N1.out (seg:=[.slice BU mm.length Cw]) (j:=2) (show 2+1≤3 from by decide) (fun q hq=>by rw [List.mem_singleton.1 hq];rfl);replace hq:Kd.H tq 71 wl w.heap.size (fun k_=>s0≤k_∧k_≠g5) (.slice (some ⟨gB,0,none⟩) l2.length c2) l2 (wrap64 ((l2.length:Int) - 1)) (fun k=>oki k∨(s0≤k∧k≠g5)∧wA.heap.size≤k) [.int .i64 x1.f0,.int .i64 x1.f1,.slice BU mm.length Cw]:=(by rw [hw];exact hq);replace hg2:wC.grownBy wl (some gB):=(by rw [hw];exact hg2);have ho:=Kd.af4 HO.out hg2 (fun k_ q_ e_=>by injection e_ with e_;rcases q_ with q_|q_;exact (HOK.out k_ q_).2 e_;(have:=GBA.out;omega));have Y:=Kd.UO hq (x':=(⟨x1.f0,x1.f1,mm⟩:gP)) (show Kd.M tq wl w.heap.size (fun k_=>oki k_∨wA.heap.size≤k_) _ _ from ⟨_,rfl,ho⟩) (fun k_ q_=>q_.elim .inl (fun h=>.inr ⟨⟨Nat.le_trans TA.out h,by have:=G5A.out;omega⟩,h⟩))
      have nB:∀ q,q<s0→some q≠some gB:=fun q h e_=>(by injection e_ with e_;have:=OKB.out.1;omega);replace B1:=af.mk (fG (ks B1) hg2 (nB _ D1.out));replace B2:=af.mk (fG (ks B2) hg2 (nB _ D2.out));replace B3:=af.mk (fG (ks B3) hg2 (nB _ D3.out));replace T0:=af.mk (Nat.le_trans T0.out hg2.size);replace HB:=af.mk (show Below w.heap.size w wl from by rw [hw];exact eD HB.out EB.out);rw [eJ.out,NM.out,LC.out] at Y;have el:l2.length=lc.length:=(by rw [← LC.out,List.length_set]);rw [el] at Y B3;replace Y:=af.mk (Kd.fU (ok':=fun k_=>s0≤k_) Y (fun _ q=>q.1));clear hw hq hg2 ho nB el
      try go_wp2
      go_roundg k1
      case measure=>have:=aU.out;omega
      case rel=>exact ⟨_,lc,some ⟨gB,0,none⟩,c2,rfl,H',⟨by have:=aU.out;omega⟩,Y,B1,B2,B3,T0,HB⟩
   ·intro c9 H;obtain rfl:=si H;have z2:=eU B2;have z3:=eU B3;have n23:=Gy.out
    go_wp2
    refine bodyPost_ret (results_cell_row rfl _ _ g2 35 #[.string ag,.string aj,.int .i64 ak,.slice Al l.length cl] (0,0) _ rfl (kp B2) Tryz.underlying35 rfl (by kernel_rfl)) rfl ?_
    exact ⟨_,ff,Kd.fU (Kd.iT (p:=⟨g2,3,none⟩) (Kd.iT (p:=⟨g2,2,none⟩) (Kd.iT (p:=⟨g2,1,none⟩) (Kd.iT (p:=⟨g2,0,none⟩) Y.out (fun k_ q_ e_=>by have:=D2.out;have e2:k_=g2:=e_;omega) _) (fun k_ q_ e_=>by have:=D2.out;have e2:k_=g2:=e_;omega) _) (fun k_ q_ e_=>by have:=D2.out;have e2:k_=g2:=e_;omega) _) (fun k_ q_ e_=>by have:=D2.out;have e2:k_=g2:=e_;omega) _) (fun _ q=>Nat.le_trans S0.out q),eD (eD (eD (eD HB.out E2.out) E2.out) E2.out) E2.out⟩
theorem iW.calls (k:Nat) (ag:ByteArray) (aj:ByteArray) (ak:Int) (fP:Option Addr) (eZ:Nat) (au:List (gN)) (r1:ByteArray) (r2:ByteArray) (r3:Int) (r4:List (gP)) (w:World) (kE:Kd.C kK w fP au.length au) (kD:au.length≤eZ) (hTF:sM w) (H:iW.f k ag aj ak au=some (r1,r2,r3,r4)) :
  Calls Tryz.prog 25 #[.agg #[.string ag,.string aj,.int .i64 ak,.slice fP au.length eZ]] w fun e w'=>∃ wR:Value,e=.returned (.agg #[.string r1,.string r2,.int .i64 r3,wR])∧Kd.R sZ 71 w' w.heap.size (fun _=>True) wR r4∧Below w.heap.size w w':=by
 refine (iW.CF k ag aj ak fP eZ au r1 r2 r3 r4 w kE kD hTF H).mono ?_;rintro e w' ⟨v,he,hS,hb⟩
 exact ⟨v,he,Kd.dI (ako hS) (fun _ _=>trivial),hb⟩
theorem zX.calls (a0:Int) (r:Bool) (w:World) (H:zX.f a0=some r) :
  Calls Tryz.prog 48 #[.int .i64 a0] w fun e w'=>e=.returned (.bool r)∧aT w w':=by
 unfold zX.f at H;replace H:=bo H;obtain ⟨t3,A2,H⟩:=H;obtain rfl:=si H
 go_in
 go_wp2_with (first|((go_at_call 41;(with_reducible refine (kY.calls a0 1 999999 t3 _ A2.out).mono ?_);rintro e w' ⟨rfl,⟨nd,rfl⟩⟩)))
 go_ret
 exact ⟨fg,dr⟩
theorem Ml.calls (k:Nat) (a0:ByteArray) (r:Bool) (w:World) (H:Ml.f k a0=some r) :
  Calls Tryz.prog 161 #[.string a0] w fun e w'=>e=.returned (.bool r)∧aT w w':=by
 unfold Ml.f at H;replace H:=bo H;obtain ⟨t3,A2,H⟩:=H;obtain rfl:=si H
 go_in
 go_wp2_with (first|((go_at_call 137;(with_reducible refine (Dm.calls k a0 t3 _ A2.out).mono ?_);rintro e w' ⟨rfl,⟨nd,rfl⟩⟩)))
 go_ret
 exact ⟨fg,dr⟩
theorem wN.calls (k:Nat) (A0:Option Addr) (c0:Nat) (l0:List ByteArray)  (r:Int) (w:World) (hr0:Kd.C Kd.string w A0 l0.length l0) (hc0:l0.length≤c0) (H:wN.f k l0=some r) :
  Calls Tryz.prog 154 #[.slice A0 l0.length c0,.func (.func 161) #[] #[]] w fun e w'=>e=.returned (.int .i64 r)∧aT w w':=by
 have fZ:=am hr0;have ku:=am hc0;clear hr0 hc0;unfold wN.f at H;have H':=am H;clear H
 go_in
 go_wp2
 go_loopg [8] k (fun kq v8 w'=>∃ (aA:Int),v8=.int .i64 aA∧af (wN.l0 kq l0 (l0.length:Int) aA=some r)∧af (kq≤k)∧aT w w')
 case atStart=>exact ⟨(0),fg,H',⟨Nat.le_refl _⟩,by repeat (first|exact aT.refl _|apply aT.step)⟩
 case round =>
  clear H'
  obtain ⟨aA,rfl,HA,aU,⟨m1,rfl⟩⟩:=hrel
  cases gk with
  | zero=>exact absurd HA.out (by simp [wN.l0])
  | succ k1 =>
   have H:=HA.out;clear HA;simp only [wN.l0] at H
   revert H;refine cB ?_ ?_
   ·intro bN H
    revert H;refine bu ?_
    intro dS H
    revert H;refine bu ?_
    intro kv H;replace H:=bo H;obtain ⟨t9,A6,H⟩:=H;obtain ⟨p7,q7,OV,e7,Sg⟩:=wi (Kd.iZ fZ.out aA)
    cases e7
    try go_wp2_with (fail)
    go_at_call 161;(with_reducible refine (Ml.calls k1 (aX ByteArray.empty l0 aA) t9 _ A6.out).mono ?_);rintro e w' ⟨rfl,⟨nd,rfl⟩⟩
    obtain rfl|rfl:=bt t9
    ·replace H:=dE H;obtain rfl:=si H
     go_wp2
     go_ret
     exact ⟨fg,dr⟩
    ·replace H:=dD H;have H':=am H;clear H
     go_wp2
     go_roundg k1
     case measure=>have:=aU.out;omega
     case rel=>exact ⟨(wrap64 (aA+1)),fg,H',⟨by have:=aU.out;omega⟩,by repeat (first|exact aT.refl _|apply aT.step)⟩
   ·intro bN H;obtain rfl:=si H
    go_wp2
    go_ret
    exact ⟨fg,dr⟩
theorem Je.calls (k:Nat) (A0:Option Addr) (c0:Nat) (l0:List ByteArray)  (r:Bool) (w:World) (hr0:Kd.C Kd.string w A0 l0.length l0) (hc0:l0.length≤c0) (H:Je.f k l0=some r) :
  Calls Tryz.prog 135 #[.slice A0 l0.length c0,.func (.func 161) #[] #[]] w fun e w'=>e=.returned (.bool r)∧aT w w':=by
 have fZ:=am hr0;have ku:=am hc0;clear hr0 hc0;unfold Je.f at H;replace H:=bo H;obtain ⟨t4,A3,H⟩:=H;obtain rfl:=si H
 go_in
 go_wp2_with (first|((go_at_call 154;(with_reducible refine (wN.calls k _ _ l0  t4 _ ?aI ku.out A3.out).mono ?_);(case aI=>exact sd fZ.out);rintro e w' ⟨rfl,⟨nd,rfl⟩⟩)))
 go_ret
 exact ⟨fg,dr⟩
theorem II.calls (a0:ByteArray) (r:Bool) (w:World) (H:II.f a0=some r) :
  Calls Tryz.prog 162 #[.string a0] w fun e w'=>e=.returned (.bool r)∧aT w w':=by
 unfold II.f at H
 revert H;refine bL ?_ ?_
 ·intro gJ ja H
  revert H;refine qx ?_
  intro c3 bN H;have fo:decide (0<a0.size)=true:=decide_eq_true (by omega);clear c3;replace H:=bo H;obtain ⟨t6,A5,H⟩:=H;have p4:0≤(0:Int):=(by omega);have q4:0<a0.size:=(by have:(0:Int)<(a0.size:Int):=oa;omega);have hx4:∀ h:0<a0.size,((a0[0]'h).toNat:Int)=bt a0 0:=gF a0 0;clear p4;have qi4:(0<(a0.size:Int))=True:=eq_true (oa);replace q4:=eq_true q4
  go_in
  try go_wp2_with (fail)
  go_at_call 93;(with_reducible refine (xO.calls (bt a0 0) t6 _ A5.out).mono ?_);rintro e w' ⟨rfl,⟨nd,rfl⟩⟩
  obtain rfl|rfl:=bt t6
  ·replace H:=dE H
   revert H;refine qx ?_
   intro c7 kJ H;have yn:decide (1<a0.size)=true:=decide_eq_true (by omega);clear c7;replace H:=bo H;obtain ⟨pF,A9,H⟩:=H;have p8:0≤(1:Int):=(by omega);have q8:1<a0.size:=(by have:(1:Int)<(a0.size:Int):=oa;omega);have hx8:∀ h:1<a0.size,((a0[1]'h).toNat:Int)=bt a0 1:=gF a0 1;clear p8;have qi8:(1<(a0.size:Int))=True:=eq_true (oa);replace q8:=eq_true q8
   try go_wp2_with (fail)
   go_at_call 93;(with_reducible refine (xO.calls (bt a0 1) pF _ A9.out).mono ?_);rintro e w' ⟨rfl,⟨nd,rfl⟩⟩
   obtain rfl|rfl:=bt pF
   ·replace H:=dE H
    revert H;refine qx ?_
    intro c11 xE H;have Cv:decide (2<a0.size)=true:=decide_eq_true (by omega);clear c11;replace H:=bo H;obtain ⟨FW,ry,H⟩:=H;obtain rfl:=si H;have iq:0≤(2:Int):=(by omega);have ik:2<a0.size:=(by have:(2:Int)<(a0.size:Int):=oa;omega);have wz:∀ h:2<a0.size,((a0[2]'h).toNat:Int)=bt a0 2:=gF a0 2;clear iq;have awe:(2<(a0.size:Int))=True:=eq_true (oa);replace ik:=eq_true ik
    go_wp2_with (first|(go_at_call 93;(with_reducible refine (xO.calls (bt a0 2) FW _ ry.out).mono ?_);rintro e w' ⟨rfl,⟨nd,rfl⟩⟩))
    go_ret
    exact ⟨fg,dr⟩
   ·replace H:=dD H;obtain rfl:=si H
    go_wp2
    go_ret
    exact ⟨fg,dr⟩
  ·replace H:=dD H;obtain rfl:=si H
   go_wp2
   go_ret
   exact ⟨fg,dr⟩
 ·intro c2 gJ ja H;obtain rfl:=si H
  go_in
  go_wp2
  go_ret
  exact ⟨fg,dr⟩
theorem mD.calls (k:Nat) (ag:ByteArray) (iw:Option Addr) (gV:Nat) (aK:List (dw)) (r:Bool) (w:World) (mR:Kd.C lG w iw aK.length aK) (mQ:aK.length≤gV) (H:mD.f k ag aK=some r) :
  Calls Tryz.prog 141 #[.agg #[.string ag,.slice iw aK.length gV]] w fun e w'=>e=.returned (.bool r)∧Below w.heap.size w w':=by
 have qR:=Tryz.underlying62;have Fb:=Tryz.underlying97;have mq:=am mR;have vT:=am mQ;clear mR mQ;have HB:=am (Below.refl w.heap.size w);unfold mD.f at H;have H':=am H;clear H
 go_in
 go_wp2_with (first|((with_reducible refine aN (N:=1) rfl ?_);(try (refine iM (by rfl) ?_;dsimp only));refine bz 1 (cs:=#[.string ag,.slice iw aK.length gV]) (t:=62) HB ?_;clear HB;intro pY hg w2 eH aeL hb HB;clear hb hg;have PY:=gG eH))
 go_loopg [9] k (fun kq v9 w'=>∃ (nK:Int),v9=.int .i64 nK∧af (mD.l0 kq aK (aK.length:Int) nK ag aK=some r)∧af (kq≤k)∧af (w'.heap[pY]? = some (.cells #[.string ag,(.slice iw aK.length gV)] 62 (0,0)))∧af (Below w.heap.size w w'))
 case atStart=>exact ⟨(0),fg,H',⟨Nat.le_refl _⟩,⟨ks eH⟩,⟨bs HB⟩⟩
 case round =>
  clear H'
  try clear PY
  try clear eH
  obtain ⟨nK,rfl,HA,aU,eH,HB⟩:=hrel
  cases gk with
  | zero=>exact absurd HA.out (by simp [mD.l0])
  | succ k1 =>
   have H:=HA.out;clear HA;simp only [mD.l0] at H
   revert H;refine cB ?_ ?_
   ·intro dS H
    revert H;refine bu ?_
    intro kv H
    revert H;refine bu ?_
    intro gQ H;have Gs:=am H;clear H;obtain ⟨p35,q35,agc,al8,aqJ,e35,L8,aiz,ah7⟩:=wi (lZ mq.out nK)
    cases e35
    replace L8:=cb HB L8;have Oo:=am ah7;have am2:=am aiz;clear ah7 aiz
    go_upto_region 5 with (first|((with_reducible refine aN (N:=4) rfl ?_);(try (refine iM (by rfl) ?_;dsimp only));refine bz 4 (cs:=#[.slice none 0 0]) (t:=97) HB ?_;clear HB;intro asH hg w8 Cf aAb hb HB;have Kz:=na hg eH;have KA:=nc hg eH;replace eH:=bb eH hb;clear hb hg;have Wy:=KA.out;have WA:=Kz.out;have zK:=uV Cf))
    (try simp only [Act.put,List.setIfInBounds_toArray,List.set_cons_zero,List.set_cons_succ])
    go_cut [24] (fun v24 wc=>∃ (kq:Nat) (Yj:Bool),v24=.bool Yj∧af (mD.j1 kq nK (((aH aK nK).f0).length:Int) aK (aK.length:Int) nK Yj ag aK ((aH aK nK).f0)=some r)∧af (kq≤k1)∧af (wc.heap[pY]? = some (.cells #[.string ag,(.slice (some agc) aK.length gV)] 62 (0,0)))∧af (wc.heap[asH]? = some (.cells #[(.slice al8 ((aH aK nK).f0).length aqJ)] 97 (0,0)))∧af (Below w.heap.size w wc))
    case first =>
     have H:=Gs.out;clear Gs;replace H:=bo H;obtain ⟨t38,Gm,H⟩:=H
     try go_wp2_with (fail)
     go_at_call 41;(with_reducible refine (kY.calls (((aH aK nK).f0).length:Int) 1 4 t38 _ Gm.out).mono ?_);rintro e w' ⟨rfl,⟨nd,rfl⟩⟩
     obtain rfl|rfl:=bt t38
     ·replace H:=dE H;replace H:=bo H;obtain ⟨t39,ry,H⟩:=H;have H':=am H;clear H;have atw:=KA.out;have atW:=Kz.out;have PV:=uV Cf
      go_wp2_with (first|(go_at_call 135;(with_reducible refine (Je.calls k1 _ _ ((aH aK nK).f0)  t39 _ ?aI am2.out ry.out).mono ?_);(case aI=>exact Kd.bJ Oo.out (bs HB));rintro e w' ⟨rfl,⟨nd,rfl⟩⟩))
      go_meet
      case rel=>exact ⟨_,(t39),fg,H',⟨by have:=aU.out;first|omega|exact Nat.le_refl _⟩,⟨ks eH⟩,⟨kp Cf⟩,⟨bs HB⟩⟩
     ·replace H:=dD H;have H':=am H;clear H
      go_wp2
      go_meet
      case rel=>exact ⟨_,(true),fg,H',⟨by have:=aU.out;first|omega|exact Nat.le_refl _⟩,⟨ks eH⟩,⟨kp Cf⟩,⟨bs HB⟩⟩
    case rest =>
     clear Gs
     try clear dS
     try clear kv
     try clear gQ
     try clear zK
     try clear PY
     try clear L8
     try clear p35
     try clear q35
     obtain ⟨kq,Yj,rfl,HA,Ck,eH,Cf,HB⟩:=hcut
     cases kq with
     | zero=>exact absurd HA.out (by simp [mD.j1])
     | succ Bu =>
      have H:=HA.out;clear HA;simp only [mD.j1] at H
      obtain rfl|rfl:=bt Yj
      ·replace H:=dE H;obtain rfl:=si H
       go_wp2
       go_ret
       exact ⟨ff,bs HB⟩
      ·replace H:=dD H;obtain ⟨Fy,Qs⟩:∃ j_:Int,(wrap64 ((((aH aK nK).f0).length:Int) - 1))=j_:=⟨_,rfl⟩
       replace H:(if 0≤(Fy) then (if (Fy)<(((aH aK nK).f0).length:Int) then (if (aX ByteArray.empty ((aH aK nK).f0) (Fy)).toList=([]:List UInt8) then (if (((aH aK nK).f0).length:Int)>1 then (some false) else (if nK=(wrap64 ((aK.length:Int) - 1)) then (some false) else (mD.l0 Bu aK (aK.length:Int) (wrap64 (nK+1)) ag aK))) else (mD.l0 Bu aK (aK.length:Int) (wrap64 (nK+1)) ag aK)) else (none)) else (none))=some r:=by first|(rw [Qs] at H;exact H)|(simp only [Qs] at H ⊢;exact H)
       have aEu:(IntKind.i64.wrap ((((aH aK nK).f0).length:Int) - 1))=Fy:=(fu _).trans Qs
       revert H;refine bu ?_
       intro uT H
       revert H;refine bu ?_
       intro sP H
       revert H;refine Mx ?_ ?_
       ·intro ui O8 aqy H
        revert H;refine gz ?_ ?_
        ·intro c21 H;have xH:decide (1<(((aH aK nK).f0).length:Int))=true:=decide_eq_true c21;have Cx:decide (1<((aH aK nK).f0).length)=true:=decide_eq_true (by omega);clear c21;obtain rfl:=si H;have abE:=KA.out;have abI:=Kz.out;have Ig:=uV Cf;obtain ⟨iq,ik,KR,e12,nS⟩:=wi (Kd.iZ Oo.out (Fy))
         cases e12
         replace nS:=cb HB nS
         go_wp2
         go_ret
         exact ⟨by first|rfl|(simp [ou,oz] <;> rfl)|(simp only [← Qs];first|rfl|(simp [ou,oz] <;> rfl))|(simp [*,ou,oz] <;> rfl),bs HB⟩
        ·intro c21 H;have xH:decide (1<(((aH aK nK).f0).length:Int))=false:=decide_eq_false c21;have Cx:decide (1<((aH aK nK).f0).length)=false:=decide_eq_false (by omega);clear c21
         revert H;refine bL ?_ ?_
         ·intro uj Ho H;obtain rfl:=si H;have ajb:=KA.out;have ajn:=Kz.out;have ahR:=uV Cf;obtain ⟨iq,ik,KR,e12,nS⟩:=wi (Kd.iZ Oo.out (Fy))
          cases e12
          replace nS:=cb HB nS;have PX:=gG eH
          go_wp2
          go_ret
          exact ⟨by first|rfl|(simp [ou,oz] <;> rfl)|(simp only [← Qs];first|rfl|(simp [ou,oz] <;> rfl))|(simp [*,ou,oz] <;> rfl),bs HB⟩
         ·intro c24 uj Ho H;have H':=am H;clear H;have QO:=KA.out;have QQ:=Kz.out;have Ih:=uV Cf;obtain ⟨iq,ik,KR,e12,nS⟩:=wi (Kd.iZ Oo.out (Fy))
          cases e12
          replace nS:=cb HB nS;have ahT:=gG eH
          go_wp2
          go_roundg Bu
          case measure=>have:=aU.out;have:=Ck.out;omega
          case rel=>exact ⟨(wrap64 (nK+1)),fg,H',⟨by have:=aU.out;have:=Ck.out;omega⟩,⟨ks eH⟩,⟨bs HB⟩⟩
       ·intro c20 ui O8 aqy H;have H':=am H;clear H;have QP:=KA.out;have QR:=Kz.out;have PZ:=uV Cf;obtain ⟨iq,ik,KR,e12,nS⟩:=wi (Kd.iZ Oo.out (Fy))
        cases e12
        replace nS:=cb HB nS
        go_wp2
        go_roundg Bu
        case measure=>have:=aU.out;have:=Ck.out;omega
        case rel=>exact ⟨(wrap64 (nK+1)),fg,H',⟨by have:=aU.out;have:=Ck.out;omega⟩,⟨ks eH⟩,⟨bs HB⟩⟩
   ·intro dS H;replace H:=bo H;obtain ⟨t40,NV,H⟩:=H;have abh:=gG eH
    try go_wp2_with (fail)
    go_at_call 162;(with_reducible refine (II.calls ag t40 _ NV.out).mono ?_);rintro e w' ⟨rfl,⟨nd,rfl⟩⟩
    obtain rfl|rfl:=bt t40
    ·replace H:=dE H;obtain rfl:=si H;have Lj:=gG eH
     go_wp2
     go_ret
     exact ⟨ff,bs HB⟩
    ·replace H:=dD H;obtain rfl:=si H
     go_wp2
     go_ret
     exact ⟨ff,bs HB⟩
end Go.Proofs.YtapilmimgiaglaaGreatDoor.QA
