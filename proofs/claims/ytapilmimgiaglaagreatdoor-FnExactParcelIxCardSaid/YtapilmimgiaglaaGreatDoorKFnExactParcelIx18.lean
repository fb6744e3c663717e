import Derived.Test.YtapilmimgiaglaaGreatDoorKFnExactParcelIx17
set_option maxHeartbeats 8000000
set_option maxRecDepth 100000
set_option linter.unusedSimpArgs false
set_option linter.unusedVariables false
namespace Go.Proofs.YtapilmimgiaglaaGreatDoor.QX
open Go.RowKit Go.Proofs.bB.eH Go.Proofs.bB.PrintLast Go.Proofs.bB.PrintMore
attribute [local go_sem] oU o5 oZ o8 oW o7 oV o6
def fH.GU:Bool × List (List Nat × List Nat):=(true,[([],[]),([],[]),([1],[1]),([0,2],[0,2]),([3],[3]),([4],[4]),([4],[4]),([6,4],[4,6]),([5,7,4],[4,5,7]),([4,8],[4,8]),([9,4],[9]),([10],[10]),([10],[10]),([11,12,10],[10,11,12]),([13,10],[10,13]),([14,10],[10,14]),([10],[10]),([16,10],[10,16]),([15,17,10],[10,15,17]),([10,18],[10,18])])
def fH.B10:List Nat:=[0,0,2,7,15,31,31,95,255,511,1023,2047,2047,8191,16383,32767,2047,67583,262143,524287]
theorem fH.MJ:fD .any (opsOf Tryz.f43 10)=fH.GU:=by kernel_rfl
theorem fH.Ke:jg fH.GU.2 fH.B10=true:=by kernel_rfl
def fH.u7:Bool × List (List Nat × List Nat):=(true,[([],[]),([0],[0]),([],[]),([],[]),([2,3],[2,3]),([4],[4]),([1,5],[1,5]),([6,6,0,1,2,3,4,5,6],[6])])
def fH.Bf:List Nat:=[0,1,0,0,12,28,63,127]
theorem fH.yI:fD .any (opsOf Tryz.f43 12)=fH.u7:=by kernel_rfl
theorem fH.yf:jg fH.u7.2 fH.Bf=true:=by kernel_rfl
theorem fH.calls (k:Nat)(a0:Int)(A1:Option Addr)(c1:Nat)(l1:List bn)(r1 r2 r3:Int)(w:World)(hr1:Kd.C kP w A1 l1.length l1)(hc1:l1.length≤c1)(hTC:zS w)(hTP:vW w)(H:fH.f k a0 l1=some (r1,r2,r3)) :
  Calls Tryz.prog 43 #[.int .i64 a0,.slice A1 l1.length c1] w fun e w'=>e=.returned (.agg #[.int .i64 r1,.int .i64 r2,.int .i64 r3])∧Below w.heap.size w w':=by
 have HTC:=am hTC;clear hTC;have HTP:=am hTP;clear hTP
 have amt:=Tryz.underlying78;have ZZ:=Tryz.underlying111;have r9:=Tryz.underlying62;have HR1:=am hr1;have uY:=am hc1;clear hr1 hc1;have HB:=am (Below.refl w.heap.size w);unfold fH.f at H;replace H:=bo H;obtain ⟨t68,A3,H⟩:=H
 go_in
 try go_wp2_with (first|((with_reducible refine aJ (N:=4) rfl ?_);(try (refine jc (by rfl) ?_;dsimp only));refine bz 4 (cs:=#[.int .i64 0,.int .i64 0,.int .i64 0]) (t:=78) HB ?_;clear HB;intro Dv hg w4 iW aDK hb HB;clear hb hg))
 go_at_call 82;refine (Pg.calls _ _ l1 t68 _ (Kd.bi HR1.o (bs HB)) uY.o A3.o).mono ?_;rintro e w' ⟨rfl,⟨nd,rfl⟩⟩
 obtain rfl|rfl:=bt t68
 ·replace H:=dm H;replace H:=yF H;obtain ⟨rfl,rfl,rfl⟩:=H;have Dw:=lH iW
  go_wp2
  refine bodyPost_ret (results_cell_row rfl _ _ Dv 78 #[.int .i64 0,.int .i64 0,.int .i64 2] (0,0) _ rfl (kp iW) Tryz.underlying78 rfl (by kernel_rfl)) rfl ?_
  exact ⟨ff,bs HB⟩
 ·replace H:=di H;replace H:=bo H;obtain ⟨t69,A7,H⟩:=H
  try go_wp2_with (fail)
  go_at_call 41;refine (l9.calls a0 1 7 t69 _ A7.o).mono ?_;rintro e w' ⟨rfl,⟨nd,rfl⟩⟩
  obtain rfl|rfl:=bt t69
  ·replace H:=dm H;replace H:=bo H;obtain ⟨t59,A9,H⟩:=H;have H':=am H;clear H
   go_wp2_with (first|((go_at_call 83;refine (tX.calls k a0 t59 _ A9.o).mono ?_;rintro e qo ⟨v71,rfl,ho0,hb⟩);have Yc:=am (Kd.ic ho0 (bJ (bs HB)));replace iW:=bb iW hb;replace HB:=bq HB hb;(try clear hb);(try clear ho0);obtain ⟨ahn,Zl,adP⟩:=Kd.gW Yc.o;subst adP))
   go_loopg [5,6,23] k (fun kq v5 v6 v23 w'=>∃ (ax:Int) (dP:ByteArray) (kJ:Int) (agW:Int) (agX:Int) (agY:Int),v5=.int .i64 ax∧v6=.string dP∧v23=.int .i64 kJ∧af (fH.l0 kq l1 ax dP t59 (t59.length:Int) kJ=some (r1,r2,r3))∧af (kq≤k)∧af (Kd.R iR 111 w' w.heap.size (fun _=>True) (.slice ahn t59.length Zl) t59)∧af (w'.heap[Dv]? = some (.cells #[.int .i64 agW,.int .i64 agX,.int .i64 agY] 78 (0,0)))∧af (Below w.heap.size w w'))
   case atStart=>exact ⟨(0),((⟨#[]⟩:ByteArray)),(0),(0),(0),(0),fg,fg,fg,H',⟨Nat.le_refl _⟩,⟨rz Yc.o⟩,⟨ks iW⟩,⟨bs HB⟩⟩
   case round =>
    clear H'
    try clear c1
    try clear iW
    obtain ⟨ax,dP,kJ,agW,agX,agY,rfl,rfl,rfl,HA,aQ,mf,iW,HB⟩:=hrel
    cases gk with
    | zero=>exact absurd HA.o (by simp [fH.l0])
    | succ k1 =>
     have H:=HA.o;clear HA;simp only [fH.l0] at H
     revert H;refine bK ?_ ?_
     ·intro zk H
      revert H;refine bv ?_
      intro mq H
      revert H;refine bv ?_
      intro ry H;have H':=am H;clear H;obtain ⟨p61,q61,ajb,e61,amN,amO,amP,amQ⟩:=wi (zT (Kd.dH mf.o).2.2 kJ)
      cases e61
      go_wp2_with (first|((with_reducible refine aJ (N:=8) rfl ?_);(try (refine jc (by rfl) ?_;dsimp only));refine bx 8 (cs:=#[.string (⟨#[]⟩:ByteArray),.int .i64 0,.int .i64 0,.string (⟨#[]⟩:ByteArray)]) (t:=111) ?_;intro Oj hg CG hbox hb;replace mf:=am (Kd.cu (Kd.aiW (rs mf) Oj (Nat.le_of_eq hg.symm)) hb);have kK:=am (hbox);have aDM:=gw hg HB;replace HB:=bq HB hb;have Yj:=na hg iW;have Yk:=nc hg iW;replace iW:=bb iW hb;clear hb hbox hg;have al2:=Yk.o;have amd:=Yj.o;have KP:=aX kK))
      go_loopg [5,9] k1 (fun kq v5 v9 w'=>∃ (fw:Int) (XD:Int) (Xo:Int) (Xt:Int) (Xu:Int),v5=.int .i64 fw∧v9=.int .i64 XD∧af (fH.l1 kq l1 fw XD t59 (t59.length:Int) kJ ((dK t59 kJ).f0) ((dK t59 kJ).f1) ((dK t59 kJ).f2) ((dK t59 kJ).f3)=some (r1,r2,r3))∧af (kq≤k1)∧af (Kd.R iR 111 w' w.heap.size (fun k_=>k_≠Oj) (.slice (some ajb) t59.length Zl) t59)∧af (w'.heap[Dv]? = some (.cells #[.int .i64 Xo,.int .i64 Xt,.int .i64 Xu] 78 (0,0)))∧af (w'.heap[Oj]? = some (.cells #[.string ((dK t59 kJ).f0),.int .i64 ((dK t59 kJ).f1),.int .i64 ((dK t59 kJ).f2),.string ((dK t59 kJ).f3)] 111 (0,0)))∧af (Below w.heap.size w w'))
      case atStart=>exact ⟨(ax),(0),(agW),(agX),(agY),fg,fg,H',⟨Nat.le_refl _⟩,⟨Kd.dE (rf (Kd.dE mf.o (fun k_ hk=>(⟨hk,hk.2⟩:_∧k_≠Oj)))) (fun _ hk=>hk.1.2)⟩,⟨ks iW⟩,⟨kp kK⟩,⟨bs HB⟩⟩
      case round =>
       clear H'
       try clear c1
       try clear zk
       try clear mq
       try clear ry
       try clear KP
       try clear amN
       try clear amO
       try clear amP
       try clear amQ
       try clear p61
       try clear q61
       try clear iW
       try clear kK
       obtain ⟨fw,XD,Xo,Xt,Xu,rfl,rfl,HA,dD,mf,iW,kK,HB⟩:=hrel
       cases gk with
       | zero=>exact absurd HA.o (by simp [fH.l1])
       | succ k2 =>
        have H:=HA.o;clear HA;simp only [fH.l1] at H;have abW:=am H;clear H
        go_upto_region 10 with (fail)
        go_cut [46] (fun v46 wc=>∃ (kq:Nat) (abn:Bool),v46=.bool abn∧af (fH.j2 kq l1 fw XD t59 (t59.length:Int) kJ abn ((dK t59 kJ).f0) ((dK t59 kJ).f1) ((dK t59 kJ).f2) ((dK t59 kJ).f3)=some (r1,r2,r3))∧af (kq≤k2)∧af (Kd.R iR 111 wc w.heap.size (fun k_=>k_≠Oj) (.slice (some ajb) t59.length Zl) t59)∧af (wc.heap[Dv]? = some (.cells #[.int .i64 Xo,.int .i64 Xt,.int .i64 Xu] 78 (0,0)))∧af (wc.heap[Oj]? = some (.cells #[.string ((dK t59 kJ).f0),.int .i64 ((dK t59 kJ).f1),.int .i64 ((dK t59 kJ).f2),.string ((dK t59 kJ).f3)] 111 (0,0)))∧af (Below w.heap.size w wc))
        case first =>
         have H:=abW.o;clear abW
         revert H;refine bK ?_ ?_
         ·intro vw H
          (first|rw [vw]|(simp only [fC,gK];rw [vw])|skip)
          revert H;refine bK ?_ ?_
          ·intro vY H
           revert H;refine bv ?_
           intro zm H;have H':=am H;clear H
           try go_wp2
           replace mf:=am (Kd.eO mf.o);replace iW:=am (bD iW.o);replace kK:=am (bD kK.o);replace HB:=am (cZ HB.o);obtain ⟨p60,q60,aEh,aDd,aEH,e60,aam,aan,alB,ak3⟩:=wi (kN HR1.o fw);have axA:=aan;have axz:=aam
           cases e60
           replace aam:=cb HB aam;replace aan:=cb HB aan;have aq4:=am ak3;have aDS:=am alB;clear ak3 alB;refine gD 20 (rC kK (aC (cb HB axz) (hc (cb HB axA)))) (fun hHeld=>?_);refine fu fH.MJ fH.Ke (fun HT_ HW_=>?_)
           generalize wr.drew=CK at mf iW kK HB aq4 aam aan hHeld ⊢
           refine jU 0 ?_;refine ta 2 ?_;refine mF 3 ?_;refine jV 11 ?_;refine bQ 16 ?_;refine ta 15 ?_;refine ta 17 ?_;refine jU 18 ?_;refine ek (fo HT_.o (by kernel_rfl)) ?_
           try go_wp2
           go_meet
           case rel=>exact ⟨_,((((av l1 fw).f0).toList == ((dK t59 kJ).f0).toList)),fg,H',⟨by have:=aQ.o;have:=dD.o;first|omega|exact Nat.le_refl _⟩,⟨rz mf.o⟩,⟨ks iW⟩,⟨ks kK⟩,⟨bs HB⟩⟩
          ·intro vY H;have H':=am H;clear H
           try go_wp2
           replace mf:=am (Kd.eO mf.o);replace iW:=am (bD iW.o);replace kK:=am (bD kK.o);replace HB:=am (cZ HB.o);refine gD 20 (hb4 kK) (fun hHeld=>?_);refine fu fH.MJ fH.Ke (fun HT_ HW_=>?_)
           generalize wr.drew=tH at mf iW kK HB hHeld ⊢
           refine jU 0 ?_;refine ta 2 ?_;refine mF 3 ?_;refine mF 11 ?_;refine bQ 19 ?_;refine ek (fo HT_.o (by kernel_rfl)) ?_
           try go_wp2
           go_meet
           case rel=>exact ⟨_,(false),fg,H',⟨by have:=aQ.o;have:=dD.o;first|omega|exact Nat.le_refl _⟩,⟨rz mf.o⟩,⟨ks iW⟩,⟨ks kK⟩,⟨bs HB⟩⟩
         ·intro vw H
          (first|rw [vw]|(simp only [fC,gK];rw [vw])|skip)
          have H':=am H;clear H
          try go_wp2
          replace mf:=am (Kd.eO mf.o);replace iW:=am (bD iW.o);replace kK:=am (bD kK.o);replace HB:=am (cZ HB.o);refine gD 20 (hb4 kK) (fun hHeld=>?_);refine fu fH.MJ fH.Ke (fun HT_ HW_=>?_)
          generalize wr.drew=CL at mf iW kK HB hHeld ⊢
          refine jU 0 ?_;refine ta 2 ?_;refine mF 3 ?_;refine mF 11 ?_;refine bQ 19 ?_;refine ek (fo HT_.o (by kernel_rfl)) ?_
          try go_wp2
          go_meet
          case rel=>exact ⟨_,(false),fg,H',⟨by have:=aQ.o;have:=dD.o;first|omega|exact Nat.le_refl _⟩,⟨rz mf.o⟩,⟨ks iW⟩,⟨ks kK⟩,⟨bs HB⟩⟩
        case rest =>
         clear abW
         try clear c1
         try clear zk
         try clear mq
         try clear ry
         try clear KP
         try clear amN
         try clear amO
         try clear amP
         try clear amQ
         try clear p61
         try clear q61
         obtain ⟨kq,abn,rfl,HA,XX,mf,iW,kK,HB⟩:=hcut
         cases kq with
         | zero=>exact absurd HA.o (by simp [fH.j2])
         | succ aaw =>
          have H:=HA.o;clear HA;simp only [fH.j2] at H
          obtain rfl|rfl:=bt abn
          ·replace H:=dm H
           revert H;refine bv ?_
           intro Sk H
           revert H;refine bv ?_
           intro Kt H;replace H:=bo H;obtain ⟨t67,CW,H⟩:=H
           revert H;refine gT ?_ ?_
           ·intro vz H;have Ku:decide (0≤t67)=true:=decide_eq_true vz;clear vz;replace H:=yF H;obtain ⟨rfl,rfl,rfl⟩:=H
            try go_wp2
            replace mf:=am (Kd.eO mf.o);replace iW:=am (bD iW.o);replace kK:=am (bD kK.o);replace HB:=am (cZ HB.o);obtain ⟨p25,q25,asM,abF,adq,e25,Fu,Fv,Ur,TQ⟩:=wi (kN HR1.o fw);have Vh:=Fv;have Vg:=Fu
            cases e25
            replace Fu:=cb HB Fu;replace Fv:=cb HB Fv;have Rk:=am TQ;have abZ:=am Ur;clear TQ Ur;refine gD 8 (rC kK (aC (cb HB Vg) (hc (cb HB Vh)))) (fun hHeld=>?_);refine fu fH.yI fH.yf (fun HT_ HW_=>?_)
            generalize wc.drew=uk at mf iW kK HB Rk Fu Fv hHeld ⊢
            refine bQ 0 ?_;refine jo 2 ?_;refine ta 1 ?_;refine ta 5 ?_;refine oA 6 55 HT_ (fun K hK=>?_);refine gA Tryz.func84 #[.string ((dK t59 kJ).f3),.agg #[.string ((av l1 fw).f0),.slice abF ((av l1 fw).f1).length adq]] ?_;(with_reducible refine (fG.calls aaw ((dK t59 kJ).f3) ((av l1 fw).f0) _ _ ((av l1 fw).f1) t67 _ ?aR ?bg (zM HTC (bs HB)) (pq HTP (bs HB)) CW.o).mono ?_)
            (case aR=>exact sd (Kd.bi Rk.o HB.o))
            (case bg=>exact abZ.o)
            rintro e MP ⟨rfl,hb⟩;refine ⟨_,rfl,?_⟩;replace mf:=am (Kd.cu (rs mf) hb);replace iW:=bb iW hb;replace kK:=bb kK hb;replace HB:=bq HB hb;(try clear hb);refine hK.out _ _ (rC kK (aC (cb HB Vg) (hc (cb HB Vh)))).o (fun hHeld=>?_);clear hK K;refine nA 55 ?_;refine bQ 7 ?_;refine ek (fo HT_.o (by kernel_rfl)) ?_;have aey:=Yj.o;have aeE:=Yk.o;have ZM:=lH iW
            try go_wp2
            refine bodyPost_ret (results_cell_row rfl _ _ Dv 78 #[.int .i64 fw,.int .i64 t67,.int .i64 3] (0,0) _ rfl (kp iW) Tryz.underlying78 rfl (by kernel_rfl)) rfl ?_
            exact ⟨ff,bs HB⟩
           ·intro vz H;have Ku:decide (0≤t67)=false:=decide_eq_false vz;clear vz;have H':=am H;clear H
            try go_wp2
            replace mf:=am (Kd.eO mf.o);replace iW:=am (bD iW.o);replace kK:=am (bD kK.o);replace HB:=am (cZ HB.o);obtain ⟨p25,q25,asM,abF,adq,e25,Fu,Fv,Ur,TQ⟩:=wi (kN HR1.o fw);have Vh:=Fv;have Vg:=Fu
            cases e25
            replace Fu:=cb HB Fu;replace Fv:=cb HB Fv;have Rk:=am TQ;have abZ:=am Ur;clear TQ Ur;refine gD 8 (rC kK (aC (cb HB Vg) (hc (cb HB Vh)))) (fun hHeld=>?_);refine fu fH.yI fH.yf (fun HT_ HW_=>?_)
            generalize wc.drew=CO at mf iW kK HB Rk Fu Fv hHeld ⊢
            refine bQ 0 ?_;refine jo 2 ?_;refine ta 1 ?_;refine ta 5 ?_;refine oA 6 55 HT_ (fun K hK=>?_);refine gA Tryz.func84 #[.string ((dK t59 kJ).f3),.agg #[.string ((av l1 fw).f0),.slice abF ((av l1 fw).f1).length adq]] ?_;(with_reducible refine (fG.calls aaw ((dK t59 kJ).f3) ((av l1 fw).f0) _ _ ((av l1 fw).f1) t67 _ ?aR ?bg (zM HTC (bs HB)) (pq HTP (bs HB)) CW.o).mono ?_)
            (case aR=>exact sd (Kd.bi Rk.o HB.o))
            (case bg=>exact abZ.o)
            rintro e w35 ⟨rfl,hb⟩;refine ⟨_,rfl,?_⟩;replace mf:=am (Kd.cu (rs mf) hb);replace iW:=bb iW hb;replace kK:=bb kK hb;replace HB:=bq HB hb;(try clear hb);refine hK.out _ _ (rC kK (aC (cb HB Vg) (hc (cb HB Vh)))).o (fun hHeld=>?_);clear hK K;refine nA 55 ?_;refine bQ 7 ?_;refine ek (fo HT_.o (by kernel_rfl)) ?_
            try go_wp2
            go_roundg aaw
            case measure=>have:=aQ.o;have:=dD.o;have:=XX.o;omega
            case rel=>exact ⟨(wrap64 (fw+1)),(wrap64 (XD+1)),(Xo),(Xt),(Xu),fg,fg,H',⟨by have:=aQ.o;have:=dD.o;have:=XX.o;omega⟩,⟨rz mf.o⟩,⟨ks iW⟩,⟨ks kK⟩,⟨bs HB⟩⟩
          ·replace H:=di H
           revert H;refine bK ?_ ?_
           ·intro wm H;replace H:=yF H;obtain ⟨rfl,rfl,rfl⟩:=H;have aeA:=Yk.o;have aeG:=Yj.o;have KS:=aX kK;have aed:=lH iW
            go_wp2
            refine bodyPost_ret (results_cell_row rfl _ _ Dv 78 #[.int .i64 fw,.int .i64 0,.int .i64 4] (0,0) _ rfl (kp iW) Tryz.underlying78 rfl (by kernel_rfl)) rfl ?_
            exact ⟨ff,bs HB⟩
           ·intro wm H;have H':=am H;clear H;have awR:=Yk.o;have axd:=Yj.o;have akC:=aX kK
            go_wp2
            go_roundg aaw
            case measure=>have:=aQ.o;have:=dD.o;have:=XX.o;omega
            case rel=>exact ⟨(fw),(((dK t59 kJ).f0)),(wrap64 (kJ+1)),(Xo),(Xt),(Xu),fg,fg,fg,H',⟨by have:=aQ.o;have:=dD.o;have:=XX.o;omega⟩,⟨by (with_reducible repeat (first|apply Kd.kM|apply Kd.jK|apply Kd.eO));exact Kd.dE mf.o (fun _ hk=>trivial)⟩,⟨ks iW⟩,⟨bs HB⟩⟩
     ·intro zk H
      revert H;refine bH ?_ ?_
      ·intro Ob atT H;replace H:=yF H;obtain ⟨rfl,rfl,rfl⟩:=H;have av0:=lH iW
       go_wp2
       refine bodyPost_ret (results_cell_row rfl _ _ Dv 78 #[.int .i64 0,.int .i64 0,.int .i64 0] (0,0) _ rfl (kp iW) Tryz.underlying78 rfl (by kernel_rfl)) rfl ?_
       exact ⟨ff,bs HB⟩
      ·intro Oa Ob atT H
       revert H;refine bv ?_
       intro adu H
       revert H;refine bv ?_
       intro adv H
       revert H;refine bH ?_ ?_
       ·intro Oc Sq H;replace H:=yF H;obtain ⟨rfl,rfl,rfl⟩:=H;obtain ⟨p58,q58,ac7,ao8,aub,e58,Cq,VN,Uz,TZ⟩:=wi (kN HR1.o ax)
        cases e58
        replace Cq:=cb HB Cq;replace VN:=cb HB VN;have aq3:=am TZ;have aqa:=am Uz;clear TZ Uz;have av1:=lH iW
        go_wp2
        refine bodyPost_ret (results_cell_row rfl _ _ Dv 78 #[.int .i64 ax,.int .i64 0,.int .i64 7] (0,0) _ rfl (kp iW) Tryz.underlying78 rfl (by kernel_rfl)) rfl ?_
        exact ⟨ff,bs HB⟩
       ·intro c46 Oc Sq H;replace H:=yF H;obtain ⟨rfl,rfl,rfl⟩:=H;obtain ⟨p58,q58,ac7,ao8,aub,e58,Cq,VN,Uz,TZ⟩:=wi (kN HR1.o ax)
        cases e58
        replace Cq:=cb HB Cq;replace VN:=cb HB VN;have aq3:=am TZ;have aqa:=am Uz;clear TZ Uz;have Ov:=lH iW
        go_wp2
        refine bodyPost_ret (results_cell_row rfl _ _ Dv 78 #[.int .i64 ax,.int .i64 0,.int .i64 3] (0,0) _ rfl (kp iW) Tryz.underlying78 rfl (by kernel_rfl)) rfl ?_
        exact ⟨ff,bs HB⟩
  ·replace H:=di H;replace H:=yF H;obtain ⟨rfl,rfl,rfl⟩:=H;have akE:=lH iW
   go_wp2
   refine bodyPost_ret (results_cell_row rfl _ _ Dv 78 #[.int .i64 0,.int .i64 0,.int .i64 1] (0,0) _ rfl (kp iW) Tryz.underlying78 rfl (by kernel_rfl)) rfl ?_
   exact ⟨ff,bs HB⟩
theorem tV.calls (k:Nat)(a0:Int)(a1:ByteArray)(A1:Option Addr)(c1:Nat)(l1:List bN)(r1:Int)(r2:ByteArray)(r3 r4:Int)(r5:ByteArray)(w:World)(hr1:Kd.C jO w A1 l1.length l1)(hc1:l1.length≤c1)(hTP:vW w)(h:tV.f k a0 a1 l1=some (r1,r2,r3,r4,r5)) :
  Calls Tryz.prog 88 #[.int .i64 a0,.agg #[.string a1,.slice A1 l1.length c1]] w fun e w'=>e=.returned (.agg #[.int .i64 r1,.string r2,.int .i64 r3,.int .i64 r4,.string r5])∧Below w.heap.size w w':=by
 have HTP:=am hTP;clear hTP;have hu:=Tryz.underlying95;have hu9:=Tryz.underlying9;have husg:=Tryz.underlying62;have huel:=Tryz.underlying97;have HB:=am (Below.refl w.heap.size w);have HR1:=am hr1;have uY:=am hc1;clear hr1 hc1;obtain ⟨s,D1,H⟩:=Option.bind_eq_some_iff.mp (show (sO.f k a0).bind (fun s=>tV.l0 k l1 s.data.toList 0 0 (⟨#[]⟩:ByteArray) 0 0 (⟨#[]⟩:ByteArray))=some (r1,r2,r3,r4,r5) from h);clear h;replace D1:=am D1;replace H:=am H
 go_in
 go_wp2_with (first|((with_reducible refine aJ (N:=3) rfl ?_);refine bx 3 (cs:=#[.string a1,.slice A1 l1.length c1]) (t:=62) ?_;intro gb hg w3 hbox hb;have BK:=am (hbox);have GE:=am ((gs hg (bs HB)));replace HB:=bq HB hb;clear hb hbox hg)|((with_reducible refine aJ (N:=4) rfl ?_);refine bx 4 (cs:=#[.int .i64 0,.string (⟨#[]⟩:ByteArray),.int .i64 0,.int .i64 0,.string (⟨#[]⟩:ByteArray)]) (t:=95) ?_;intro gr hg w4 hbox hb;have BR:=am (hbox);have GR:=am ((gs hg (bs HB)));replace HB:=bq HB hb;have N1:=am ((gn hg (ks BK)));have N1':=am ((gm hg (ks BK)));replace BK:=am (aU (ks BK) hb);clear hb hbox hg)|((with_reducible refine aJ (N:=5) rfl ?_);refine bx 5 (cs:=#[.int .i64 0,.string (⟨#[]⟩:ByteArray),.int .i64 0,.int .i64 0,.string (⟨#[]⟩:ByteArray)]) (t:=95) ?_;intro gl hg w5 hbox hb;have BL:=am (hbox);have GL:=am ((gs hg (bs HB)));replace HB:=bq HB hb;have N2:=am ((gn hg (ks BK)));have N2':=am ((gm hg (ks BK)));have N3:=am ((gn hg (ks BR)));have N3':=am ((gm hg (ks BR)));replace BK:=am (aU (ks BK) hb);replace BR:=am (aU (ks BR) hb);clear hb hbox hg;have hcz:=kW BL)|(go_at_call 110;refine (sO.calls k a0 s _ D1.o).mono ?_;rintro e w' ⟨rfl,⟨nd,rfl⟩⟩))
 clear hcz;generalize hW:((((w5.setCell ⟨gl,0,none⟩ (.int .i64 0)).setCell ⟨gl,1,none⟩ (.string (⟨#[]⟩:ByteArray))).setCell ⟨gl,2,none⟩ (.int .i64 0)).setCell ⟨gl,3,none⟩ (.int .i64 0)).setCell ⟨gl,4,none⟩ (.string (⟨#[]⟩:ByteArray))=W0
 have hsz:W0.heap.size=w5.heap.size:=by rw [← hW];simp
 replace HB:=am (show Below w.heap.size w W0 by rw [← hW];exact bs HB);replace BL:=am (show W0.heap[gl]? = some (.cells #[.int .i64 0,.string (⟨#[]⟩:ByteArray),.int .i64 0,.int .i64 0,.string (⟨#[]⟩:ByteArray)] 95 (0,0)) by rw [← hW];exact kp BL);replace BR:=am (show W0.heap[gr]? = some (.cells #[.int .i64 0,.string (⟨#[]⟩:ByteArray),.int .i64 0,.int .i64 0,.string (⟨#[]⟩:ByteArray)] 95 (0,0)) by rw [← hW];exact ks BR);replace BK:=am (show W0.heap[gb]? = some (.cells #[.string a1,.slice A1 l1.length c1] 62 (0,0)) by rw [← hW];exact ks BK);clear hW
 have hit:((W0.drewN nd).iter s 0).heap[w5.heap.size]? = some (.stringIter s 0):=by rw [← hsz];exact World.iter_heap (W0.drewN nd) s 0
 have hge:w.heap.size≤w5.heap.size:=by rw [← hsz];exact HB.o.size
 replace BL:=am (show ((W0.drewN nd).iter s 0).heap[gl]? = _ from eY (mo BL.o _) _);replace BR:=am (show ((W0.drewN nd).iter s 0).heap[gr]? = _ from eY (mo BR.o _) _);replace BK:=am (show ((W0.drewN nd).iter s 0).heap[gb]? = _ from eY (mo BK.o _) _);replace HB:=am (show Below w.heap.size w ((W0.drewN nd).iter s 0) from by show Below w.heap.size w ((W0.drewN nd).alloc (.stringIter s 0));exact bs HB)
 generalize (W0.drewN nd).iter s 0=W at hit BL BR BK HB ⊢
 generalize w5.heap.size=kb at hit hge ⊢
 clear hsz
 go_loopg [] s.size (fun gk wx=>∃ (p:Nat) (f0:Int) (f1:ByteArray) (f2 f3:Int) (f4:ByteArray),af (tV.l0 k l1 (s.data.toList.drop p) p f0 f1 f2 f3 f4=some (r1,r2,r3,r4,r5))∧af (s.size≤p+gk)∧af (wx.heap[kb]? = some (.stringIter s p))∧af (wx.heap[gb]? = some (.cells #[.string a1,.slice A1 l1.length c1] 62 (0,0)))∧af (wx.heap[gr]? = some (.cells #[.int .i64 0,.string (⟨#[]⟩:ByteArray),.int .i64 0,.int .i64 0,.string (⟨#[]⟩:ByteArray)] 95 (0,0)))∧af (wx.heap[gl]? = some (.cells #[.int .i64 f0,.string f1,.int .i64 f2,.int .i64 f3,.string f4] 95 (0,0)))∧af (Below w.heap.size w wx))
 case atStart=>exact ⟨0,_,_,_,_,_,H,⟨by omega⟩,⟨hit⟩,BK,BR,BL,HB⟩
 case round =>
  clear H BL BR BK HB hit;obtain ⟨p,f0,f1,f2,f3,f4,H,HG,hit,BK,BR,BL,HB⟩:=hrel
  cases hd:s.data.toList.drop p with
  | nil =>
   have hp:¬ p<s.size:=by have:=congrArg List.length hd;rw [List.length_drop,List.length_nil,show s.data.toList.length=s.size from rfl] at this;omega
   replace H:=H.o;rw [hd] at H;replace H:=IY H;obtain ⟨rfl,rfl,rfl,rfl,rfl⟩:=H
   have hnx:∀ ty,(Instr.next (.pointer (some ⟨kb,0,none⟩)) true ty).run Tryz.prog wr=_:=fun ty=>Lib.run_next_end_at wr kb s p ty hit.o hp
   have hcl:=kW BL;have hcr:=kW BR;have hne:=N3.o;have hne':=N3'.o
   go_wp2
   refine bodyPost_ret (results_cell_row rfl _ _ gr 95 #[.int .i64 f0,.string f1,.int .i64 f2,.int .i64 f3,.string f4] (0,0) _ rfl (kp BR) Tryz.underlying95 rfl (by kernel_rfl)) rfl ?_
   exact ⟨ff,bs HB⟩
  | cons c cs =>
   obtain ⟨hp,hc,hdr⟩:=amY hd;replace H:=H.o;rw [hd] at H;clear hd
   unfold tV.l0 at H
   have HU:∀ z:Nat,c.toNat=z→z<128→∀ ty,(Instr.next (.pointer (some ⟨kb,0,none⟩)) true ty).run Tryz.prog wr=.ok (.tuple #[.bool true,.int .i64 p,.int .i32 z]) (wr.iterAt kb s (p+1)):=by
    intro z hz hlt ty;have e:=decode_ascii s p hp (by rw [hc];omega)
    rw [hc,hz] at e
    have:=Lib.run_next_any_at (P:=Tryz.prog) wr kb s p ty hit.o hp
    rw [e] at this
    exact this
   have hit2:=Lib.iterAt_heap wr kb s p (p+1) hit.o;have fB:=am (show (wr.iterAt kb s (p+1)).heap[gb]? = _ from (Lib.iterAt_other wr kb gb s (p+1) (Lh hit.o BK.o)).trans BK.o);have nK:=am (show (wr.iterAt kb s (p+1)).heap[gl]? = _ from (Lib.iterAt_other wr kb gl s (p+1) (Lh hit.o BL.o)).trans BL.o);have pM:=am (show (wr.iterAt kb s (p+1)).heap[gr]? = _ from (Lib.iterAt_other wr kb gr s (p+1) (Lh hit.o BR.o)).trans BR.o);have KN:=am (Lh hit.o BL.o).symm;replace HB:=am (Lib.below_iterAt HB.o (k:=kb) hge s (p+1));clear hit BK BL BR hc
   generalize wr.iterAt kb s (p+1)=W1 at HU hit2 fB nK pM HB
   replace hit2:=am hit2;replace hdr:=am hdr;obtain ⟨g1,rfl⟩:∃ g1,gk=g1+1:=⟨gk - 1,by have:=HG.o;omega⟩
   revert H;refine ku ?_
   intro hlt H;have aLt:l1.length≤9223372036854775807:=HR1.o.2.1
   revert H;refine gT ?_ ?_
   ·intro c1 H;replace H:=IY H;obtain ⟨rfl,rfl,rfl,rfl,rfl⟩:=H;have b1:((p:Int) == (l1.length:Int))=true:=beq_iff_eq.mpr (by omega);have hnx:=HU _ rfl hlt;have hcl:=kW nK;have hcr:=kW pM;have hcb:=fM fB;have hne:=N3.o;have hne':=N3'.o;clear HU
    go_wp2
    refine bodyPost_ret (results_cell_row rfl _ _ gr 95 #[.int .i64 f0,.string f1,.int .i64 f2,.int .i64 f3,.string f4] (0,0) _ rfl (kp pM) Tryz.underlying95 rfl (by kernel_rfl)) rfl ?_
    exact ⟨ff,bs HB⟩
   ·intro c1 H;have b1:((p:Int) == (l1.length:Int))=false:=beq_eq_false_iff_ne.mpr (by omega)
    revert H;refine ku ?_
    intro hpl H
    revert H;refine ku ?_
    intro hpp H;obtain ⟨ad,Ae,ce,e1,hx,hl,hi⟩:=lN HR1.o (p:Int) (by omega) hpl
    cases e1
    obtain ⟨ad2,e2,hy⟩:=Kd.jw hi 0 (by omega) hpp
    cases e2
    replace hx:=cb HB hx;replace hy:=cb HB hy
    (try simp only [Int.toNat_zero,Nat.zero_mul,Addr.add_zero'] at hy)
    (try simp only [Int.toNat_natCast] at hx)
    have p1:(0≤(p:Int))=True:=eq_true (by omega);have p2:((p:Int)<(l1.length:Int))=True:=eq_true hpl;have p3:((0:Int)<(((aK l1 p).f0).length:Int))=True:=eq_true hpp;have p4:(0<((aK l1 p).f0).length)=True:=eq_true (by omega);clear hl hi;have hcb:=fM fB;have hcl:=kW nK
    revert H;refine gT ?_ ?_
    ·intro Ky H;have hnx:=HU 77 (by rw [Ky];rfl) (by omega);clear HU;replace H:=bo H;obtain ⟨⟨v1,v2⟩,A2,H⟩:=H
     dsimp only at H
     have H':=am H;clear H Ky
     go_wp2_with (first|(go_at_call 111;refine (zB.calls _ false _ rfl).mono ?_;rintro e w' ⟨rfl,⟨iN,rfl⟩⟩;replace hit2:=am (show (W1.drewN iN).heap[kb]? = _ from hit2.o);replace fB:=am (mo fB.o iN);replace pM:=am (mo pM.o iN);replace nK:=am (mo nK.o iN);replace HB:=am (jH HB.o iN))|(go_at_call 87;refine (oz.calls k (bA ByteArray.empty ((aK l1 p).f0) 0) (-1000000) 1000000000 v1 v2 _ (pq HTP HB.o) A2.o).mono ?_;rintro e w8 ⟨rfl,hb⟩;replace hit2:=am (Pk hit2.o hb);replace fB:=bb fB hb;replace pM:=am (aU (ks pM) hb);replace nK:=am (aU (ks nK) hb);replace HB:=am (gP HB.o hb);clear hb;have hcl:=kW nK)|(go_at_call 113;refine (Pm gl _ _).mono ?_;rintro e w' ⟨rfl,rfl⟩))
     go_roundg g1
     case measure=>omega
     case rel=>exact ⟨p+1,f0,f1,f2,v1,f4,by rw [hdr.o];exact H',⟨by have:=HG.o;omega⟩,⟨(Below.heap_setCell _ _ _ _ KN.o).trans hit2.o⟩,⟨ks fB⟩,⟨ks pM⟩,⟨kp nK⟩,⟨bs HB⟩⟩
    ·intro Ky H
     revert H;refine gT ?_ ?_
     ·intro Kz H;have hnx:=HU 84 (by rw [Kz];rfl) (by omega);clear HU;have H':=am H;clear H Ky Kz
      go_wp2_with (first|(go_at_call 111;refine (zB.calls _ true _ rfl).mono ?_;rintro e w' ⟨rfl,⟨iN,rfl⟩⟩;replace hit2:=am (show (W1.drewN iN).heap[kb]? = _ from hit2.o);replace fB:=am (mo fB.o iN);replace pM:=am (mo pM.o iN);replace nK:=am (mo nK.o iN);replace HB:=am (jH HB.o iN))|(go_at_call 112;refine (aas gl _ _).mono ?_;rintro e w' ⟨rfl,rfl⟩))
      go_roundg g1
      case measure=>omega
      case rel=>exact ⟨p+1,f0,f1,f2,f3,(bA ByteArray.empty ((aK l1 p).f0) 0),by rw [hdr.o];exact H',⟨by have:=HG.o;omega⟩,⟨(Below.heap_setCell _ _ _ _ KN.o).trans hit2.o⟩,⟨ks fB⟩,⟨ks pM⟩,⟨kp nK⟩,⟨bs HB⟩⟩
     ·intro Kz H
      revert H;refine gT ?_ ?_
      ·intro Sy H;have hnx:=HU 73 (by rw [Sy];rfl) (by omega);clear HU;have H':=am H;clear H Ky Kz Sy
       go_wp2_with (first|(go_at_call 111;refine (zB.calls _ true _ rfl).mono ?_;rintro e w' ⟨rfl,⟨iN,rfl⟩⟩;replace hit2:=am (show (W1.drewN iN).heap[kb]? = _ from hit2.o);replace fB:=am (mo fB.o iN);replace pM:=am (mo pM.o iN);replace nK:=am (mo nK.o iN);replace HB:=am (jH HB.o iN))|(go_at_call 112;refine (aas gl _ _).mono ?_;rintro e w' ⟨rfl,rfl⟩))
       go_roundg g1
       case measure=>omega
       case rel=>exact ⟨p+1,f0,(bA ByteArray.empty ((aK l1 p).f0) 0),f2,f3,f4,by rw [hdr.o];exact H',⟨by have:=HG.o;omega⟩,⟨(Below.heap_setCell _ _ _ _ KN.o).trans hit2.o⟩,⟨ks fB⟩,⟨ks pM⟩,⟨kp nK⟩,⟨bs HB⟩⟩
      ·intro Sy H
       revert H;refine gT ?_ ?_
       ·intro Zg H;have hnx:=HU 78 (by rw [Zg];rfl) (by omega);clear HU;replace H:=bo H;obtain ⟨⟨v1,v2⟩,A2,H⟩:=H
        dsimp only at H
        have H':=am H;clear H Ky Kz Sy Zg
        go_wp2_with (first|(go_at_call 111;refine (zB.calls _ false _ rfl).mono ?_;rintro e w' ⟨rfl,⟨iN,rfl⟩⟩;replace hit2:=am (show (W1.drewN iN).heap[kb]? = _ from hit2.o);replace fB:=am (mo fB.o iN);replace pM:=am (mo pM.o iN);replace nK:=am (mo nK.o iN);replace HB:=am (jH HB.o iN))|(go_at_call 87;refine (oz.calls k (bA ByteArray.empty ((aK l1 p).f0) 0) (-1000000) 1000000000 v1 v2 _ (pq HTP HB.o) A2.o).mono ?_;rintro e w8 ⟨rfl,hb⟩;replace hit2:=am (Pk hit2.o hb);replace fB:=bb fB hb;replace pM:=am (aU (ks pM) hb);replace nK:=am (aU (ks nK) hb);replace HB:=am (gP HB.o hb);clear hb;have hcl:=kW nK)|(go_at_call 113;refine (Pm gl _ _).mono ?_;rintro e w' ⟨rfl,rfl⟩))
        go_roundg g1
        case measure=>omega
        case rel=>exact ⟨p+1,v1,f1,f2,f3,f4,by rw [hdr.o];exact H',⟨by have:=HG.o;omega⟩,⟨(Below.heap_setCell _ _ _ _ KN.o).trans hit2.o⟩,⟨ks fB⟩,⟨ks pM⟩,⟨kp nK⟩,⟨bs HB⟩⟩
       ·intro Zg H
        revert H;refine gT ?_ ?_
        ·intro c81 H;have hnx:=HU 81 (by rw [c81];rfl) (by omega);clear HU;replace H:=bo H;obtain ⟨⟨v1,v2⟩,A2,H⟩:=H
         dsimp only at H
         have H':=am H;clear H Ky Kz Sy Zg c81
         go_wp2_with (first|(go_at_call 111;refine (zB.calls _ false _ rfl).mono ?_;rintro e w' ⟨rfl,⟨iN,rfl⟩⟩;replace hit2:=am (show (W1.drewN iN).heap[kb]? = _ from hit2.o);replace fB:=am (mo fB.o iN);replace pM:=am (mo pM.o iN);replace nK:=am (mo nK.o iN);replace HB:=am (jH HB.o iN))|(go_at_call 87;refine (oz.calls k (bA ByteArray.empty ((aK l1 p).f0) 0) (-1000000) 1000000000 v1 v2 _ (pq HTP HB.o) A2.o).mono ?_;rintro e w8 ⟨rfl,hb⟩;replace hit2:=am (Pk hit2.o hb);replace fB:=bb fB hb;replace pM:=am (aU (ks pM) hb);replace nK:=am (aU (ks nK) hb);replace HB:=am (gP HB.o hb);clear hb;have hcl:=kW nK)|(go_at_call 113;refine (Pm gl _ _).mono ?_;rintro e w' ⟨rfl,rfl⟩))
         go_roundg g1
         case measure=>omega
         case rel=>exact ⟨p+1,f0,f1,v1,f3,f4,by rw [hdr.o];exact H',⟨by have:=HG.o;omega⟩,⟨(Below.heap_setCell _ _ _ _ KN.o).trans hit2.o⟩,⟨ks fB⟩,⟨ks pM⟩,⟨kp nK⟩,⟨bs HB⟩⟩
        ·intro c81 H
         cases H
end Go.Proofs.YtapilmimgiaglaaGreatDoor.QX
