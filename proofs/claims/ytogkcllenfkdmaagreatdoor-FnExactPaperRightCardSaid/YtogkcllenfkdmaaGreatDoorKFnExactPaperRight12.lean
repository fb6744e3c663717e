-- Merged by a program of this session (wip/tool/pack.py) out of its own texts for this claim.
import Derived.Test.YtogkcllenfkdmaaGreatDoorKFnExactPaperRight0
import Derived.Test.YtogkcllenfkdmaaGreatDoorKFnExactPaperRight1
import Derived.Test.YtogkcllenfkdmaaGreatDoorKFnExactPaperRight2
import Derived.Test.YtogkcllenfkdmaaGreatDoorKFnExactPaperRight3
import Derived.Test.YtogkcllenfkdmaaGreatDoorKFnExactPaperRight4
import Derived.Test.YtogkcllenfkdmaaGreatDoorKFnExactPaperRight7
import Derived.Test.YtogkcllenfkdmaaGreatDoorKFnExactPaperRight11
namespace Go.Proofs.YtogkcllenfkdmaaGreatDoor.QR
open Go.RowKit Go.Proofs.YtogkcllenfkdmaaGreatDoorW.PrintWords Go.Proofs.YtogkcllenfkdmaaGreatDoorW.PrintLast Go.Proofs.YtogkcllenfkdmaaGreatDoorW.PrintMore
attribute [local go_sem] max2_int min2_int max_two min_two max_three min_three max_four min_four   -- for this text's walks alone
set_option linter.unusedVariables false
set_option linter.unusedSimpArgs false
theorem eqA71 (d:Nat) (w:World) (x0 y0:Int) (x1 y1:ByteArray) (x2 y2:Int) (x3 y3:Int) (x4 y4:ByteArray) :
  (Op.equalIn (d+2) 71 (.agg #[.int .i64 x0,.string x1,.int .i64 x2,.int .i64 x3,.string x4]) (.agg #[.int .i64 y0,.string y1,.int .i64 y2,.int .i64 y3,.string y4])).run Tryz.prog w=.ok (x0 == y0 && (x1.toList == y1.toList && (x2 == y2 && (x3 == y3 && (x4.toList == y4.toList))))) w:=by
 refine eqA_of Tryz.underlying71 (by kernel_rfl) ?_;refine eqf_cons (by rfl) (by go_simp;rfl) (by go_simp;rfl) (by go_simp) ?_;refine eqf_cons (by rfl) (by go_simp;rfl) (by go_simp;rfl) (by go_simp) ?_;refine eqf_cons (by rfl) (by go_simp;rfl) (by go_simp;rfl) (by go_simp) ?_;refine eqf_cons (by rfl) (by go_simp;rfl) (by go_simp;rfl) (by go_simp) ?_
 exact eqf_last (by rfl) (by go_simp;rfl) (by go_simp;rfl) (by go_simp)
end Go.Proofs.YtogkcllenfkdmaaGreatDoor.QR
namespace Go.Proofs.YtogkcllenfkdmaaGreatDoor.QR
open Go.RowKit Go.Proofs.YtogkcllenfkdmaaGreatDoorW.PrintWords Go.Proofs.YtogkcllenfkdmaaGreatDoorW.PrintLast Go.Proofs.YtogkcllenfkdmaaGreatDoorW.PrintMore
attribute [local go_sem] max2_int min2_int max_two min_two max_three min_three max_four min_four   -- for this text's walks alone
set_option linter.unusedVariables false
set_option linter.unusedSimpArgs false
attribute [local go_sem high] eqA71
set_option maxHeartbeats 8000000 in
set_option maxRecDepth 100000 in
theorem spec_PaperSame.calls (k:Nat) (a0_0:Int) (a0_1:ByteArray) (a0_2:ByteArray) (a0_3:Int) (A0_4:Option Addr) (c0_4:Nat) (l0_4:List ByteArray) (A0_5:Option Addr) (c0_5:Nat) (l0_5:List (S71)) (a1_0:Int) (a1_1:ByteArray) (a1_2:ByteArray) (a1_3:Int) (A1_4:Option Addr) (c1_4:Nat) (l1_4:List ByteArray) (A1_5:Option Addr) (c1_5:Nat) (l1_5:List (S71)) (r:Bool) (w:World) (hr0_4:Kd.C Kd.string w A0_4 l0_4.length l0_4) (hc0_4:l0_4.length≤c0_4) (hr0_5:Kd.C k71 w A0_5 l0_5.length l0_5) (hc0_5:l0_5.length≤c0_5) (hr1_4:Kd.C Kd.string w A1_4 l1_4.length l1_4) (hc1_4:l1_4.length≤c1_4) (hr1_5:Kd.C k71 w A1_5 l1_5.length l1_5) (hc1_5:l1_5.length≤c1_5) (H:spec_PaperSame.f k a0_0 a0_1 a0_2 a0_3 l0_4 l0_5 a1_0 a1_1 a1_2 a1_3 l1_4 l1_5=some r) :
  Calls Tryz.prog 30 #[.agg #[.int .i64 a0_0,.string a0_1,.string a0_2,.int .i64 a0_3,.slice A0_4 l0_4.length c0_4,.slice A0_5 l0_5.length c0_5],.agg #[.int .i64 a1_0,.string a1_1,.string a1_2,.int .i64 a1_3,.slice A1_4 l1_4.length c1_4,.slice A1_5 l1_5.length c1_5]] w fun e w'=>e=.returned (.bool r)∧Below w.heap.size w w':=by
 have hu30:=Tryz.underlying30;have hu71:=Tryz.underlying71;have HR0_4:=am hr0_4;have HC0_4:=am hc0_4;clear hr0_4 hc0_4;have HR0_5:=am hr0_5;have HC0_5:=am hc0_5;clear hr0_5 hc0_5;have HR1_4:=am hr1_4;have HC1_4:=am hc1_4;clear hr1_4 hc1_4;have HR1_5:=am hr1_5;have HC1_5:=am hc1_5;clear hr1_5 hc1_5;have HB:=am (Below.refl w.heap.size w);unfold spec_PaperSame.f at H;have HC3:=am H;clear H
 go_in
 go_upto_region 1 with (first|((with_reducible refine gate_dst (N:=2) rfl ?_);(try (refine gate_guard (by rfl) ?_;dsimp only));refine bx 2 (cs:=#[.int .i64 a0_0,.string a0_1,.string a0_2,.int .i64 a0_3,.slice A0_4 l0_4.length c0_4,.slice A0_5 l0_5.length c0_5]) (t:=30) ?_;intro gb410 hg w4 hbox hb;have BK410:=am (hbox);have GW410:=am ((gs hg (bs HB)));have GE410:=am ((gs hg (bs HB)));replace HB:=am (below_step (bs HB) hb);clear hb hbox hg)|((with_reducible refine gate_dst (N:=3) rfl ?_);(try (refine gate_guard (by rfl) ?_;dsimp only));refine bx 3 (cs:=#[.int .i64 a1_0,.string a1_1,.string a1_2,.int .i64 a1_3,.slice A1_4 l1_4.length c1_4,.slice A1_5 l1_5.length c1_5]) (t:=30) ?_;intro gb411 hg w5 hbox hb;have BK411:=am (hbox);have GW411:=am ((gs hg (bs HB)));have GE411:=am ((gs hg (bs HB)));replace HB:=am (below_step (bs HB) hb);have NB410_411:=am ((gn hg (ks BK410)));have NB411_410:=am ((gm hg (ks BK410)));replace BK410:=am (blk_below (ks BK410) hb);clear hb hbox hg))
 repeat (go_quiet (first|((with_reducible refine gate_dst (N:=2) rfl ?_);(try (refine gate_guard (by rfl) ?_;dsimp only));refine bx 2 (cs:=#[.int .i64 a0_0,.string a0_1,.string a0_2,.int .i64 a0_3,.slice A0_4 l0_4.length c0_4,.slice A0_5 l0_5.length c0_5]) (t:=30) ?_;intro gb410 hg w4 hbox hb;have BK410:=am (hbox);have GW410:=am ((gs hg (bs HB)));have GE410:=am ((gs hg (bs HB)));replace HB:=am (below_step (bs HB) hb);clear hb hbox hg)|((with_reducible refine gate_dst (N:=3) rfl ?_);(try (refine gate_guard (by rfl) ?_;dsimp only));refine bx 3 (cs:=#[.int .i64 a1_0,.string a1_1,.string a1_2,.int .i64 a1_3,.slice A1_4 l1_4.length c1_4,.slice A1_5 l1_5.length c1_5]) (t:=30) ?_;intro gb411 hg w5 hbox hb;have BK411:=am (hbox);have GW411:=am ((gs hg (bs HB)));have GE411:=am ((gs hg (bs HB)));replace HB:=am (below_step (bs HB) hb);have NB410_411:=am ((gn hg (ks BK410)));have NB411_410:=am ((gm hg (ks BK410)));replace BK410:=am (blk_below (ks BK410) hb);clear hb hbox hg));go_upto_region 1 with (first|((with_reducible refine gate_dst (N:=2) rfl ?_);(try (refine gate_guard (by rfl) ?_;dsimp only));refine bx 2 (cs:=#[.int .i64 a0_0,.string a0_1,.string a0_2,.int .i64 a0_3,.slice A0_4 l0_4.length c0_4,.slice A0_5 l0_5.length c0_5]) (t:=30) ?_;intro gb410 hg w4 hbox hb;have BK410:=am (hbox);have GW410:=am ((gs hg (bs HB)));have GE410:=am ((gs hg (bs HB)));replace HB:=am (below_step (bs HB) hb);clear hb hbox hg)|((with_reducible refine gate_dst (N:=3) rfl ?_);(try (refine gate_guard (by rfl) ?_;dsimp only));refine bx 3 (cs:=#[.int .i64 a1_0,.string a1_1,.string a1_2,.int .i64 a1_3,.slice A1_4 l1_4.length c1_4,.slice A1_5 l1_5.length c1_5]) (t:=30) ?_;intro gb411 hg w5 hbox hb;have BK411:=am (hbox);have GW411:=am ((gs hg (bs HB)));have GE411:=am ((gs hg (bs HB)));replace HB:=am (below_step (bs HB) hb);have NB410_411:=am ((gn hg (ks BK410)));have NB411_410:=am ((gm hg (ks BK410)));replace BK410:=am (blk_below (ks BK410) hb);clear hb hbox hg)))
 (try simp only [Act.put,List.setIfInBounds_toArray,List.set_cons_zero,List.set_cons_succ])
 go_cut [50] (fun v50 wc=>∃ (kq:Nat) (x50_2:Bool),v50=.bool x50_2∧Aside0 (spec_PaperSame.j0 kq x50_2 a0_0 a0_1 a0_2 a0_3 l0_4 l0_5 a1_0 a1_1 a1_2 a1_3 l1_4 l1_5=some r)∧Aside0 (kq≤k)∧Aside0 (wc.heap[gb410]? = some (.cells #[.int .i64 a0_0,.string a0_1,.string a0_2,.int .i64 a0_3,(.slice A0_4 l0_4.length c0_4),(.slice A0_5 l0_5.length c0_5)] 30 (0,0)))∧Aside0 (wc.heap[gb411]? = some (.cells #[.int .i64 a1_0,.string a1_1,.string a1_2,.int .i64 a1_3,(.slice A1_4 l1_4.length c1_4),(.slice A1_5 l1_5.length c1_5)] 30 (0,0)))∧Aside0 (Below w.heap.size w wc))
 case first =>
  have H:=HC3.out;clear HC3
  revert H;refine ie2 ?_ ?_
  ·intro c6b0 c6b1 H
   (first|rw [c6b0]|(simp only [i64_w,i32_w];rw [c6b0])|rw [c6b1]|skip)
   revert H;refine ie2 ?_ ?_
   ·intro c7b0 c7b1 H
    revert H;refine ie2 ?_ ?_
    ·intro c8b0 c8b1 H
     revert H;refine ie2 ?_ ?_
     ·intro c9b0 c9b1 H
      revert H;refine ie2k ?_ ?_
      ·intro c10 c10b0 c10b1 H
       have c10b2:(l0_4.length == l1_4.length)=true:=by first|simpa using c10|(simp at c10 ⊢;omega)
       clear c10;have H':=am H;clear H;have hnb11:=NB410_411.out;have hnc11:=NB411_410.out;have hcz12:=cf6 BK410;have hcz13:=cf6 BK411
       go_wp2
       repeat (go_quiet (fail);try go_wp2)
       go_meet
       case rel=>exact ⟨_,(((l0_5.length:Int) != (l1_5.length:Int))),fg,H',⟨fl⟩,⟨ks BK410⟩,⟨ks BK411⟩,⟨bs HB⟩⟩
      ·intro c10 c10b0 c10b1 H
       have c10b2:(l0_4.length == l1_4.length)=false:=by first|simpa using c10|(simp at c10 ⊢;omega)
       have H':=am H;clear H;have hnb14:=NB410_411.out;have hnc14:=NB411_410.out;have hcz15:=cf6 BK410;have hcz16:=cf6 BK411
       go_wp2
       repeat (go_quiet (fail);try go_wp2)
       go_meet
       case rel=>exact ⟨_,(true),fg,H',⟨fl⟩,⟨ks BK410⟩,⟨ks BK411⟩,⟨bs HB⟩⟩
     ·intro c9 c9b0 c9b1 H;have H':=am H;clear H;have hnb17:=NB410_411.out;have hnc17:=NB411_410.out;have hcz18:=cf6 BK410;have hcz19:=cf6 BK411
      go_wp2
      repeat (go_quiet (fail);try go_wp2)
      go_meet
      case rel=>exact ⟨_,(true),fg,H',⟨fl⟩,⟨ks BK410⟩,⟨ks BK411⟩,⟨bs HB⟩⟩
    ·intro c8 c8b0 c8b1 H;have H':=am H;clear H;have hnb20:=NB410_411.out;have hnc20:=NB411_410.out;have hcz21:=cf6 BK410;have hcz22:=cf6 BK411
     go_wp2
     repeat (go_quiet (fail);try go_wp2)
     go_meet
     case rel=>exact ⟨_,(true),fg,H',⟨fl⟩,⟨ks BK410⟩,⟨ks BK411⟩,⟨bs HB⟩⟩
   ·intro c7 c7b0 c7b1 H;have H':=am H;clear H;have hnb23:=NB410_411.out;have hnc23:=NB411_410.out;have hcz24:=cf6 BK410;have hcz25:=cf6 BK411
    go_wp2
    repeat (go_quiet (fail);try go_wp2)
    go_meet
    case rel=>exact ⟨_,(true),fg,H',⟨fl⟩,⟨ks BK410⟩,⟨ks BK411⟩,⟨bs HB⟩⟩
  ·intro c6 c6b0 c6b1 H
   (first|rw [c6b0]|(simp only [i64_w,i32_w];rw [c6b0])|rw [c6b1]|skip)
   have H':=am H;clear H;have hnb26:=NB410_411.out;have hnc26:=NB411_410.out;have hcz27:=cf6 BK410;have hcz28:=cf6 BK411
   go_wp2
   repeat (go_quiet (fail);try go_wp2)
   go_meet
   case rel=>exact ⟨_,(true),fg,H',⟨fl⟩,⟨ks BK410⟩,⟨ks BK411⟩,⟨bs HB⟩⟩
 case rest =>
  clear HC3
  obtain ⟨kq,x50_2,rfl,HA,HJ2,BK410,BK411,HB⟩:=hcut
  cases kq with
  | zero=>exact absurd HA.out (by simp [spec_PaperSame.j0])
  | succ kj2 =>
   have H:=HA.out;clear HA;simp only [spec_PaperSame.j0] at H
   obtain rfl|rfl:=bt x50_2
   ·replace H:=itT H;obtain rfl:=si H
    go_wp2
    repeat (go_quiet (fail);try go_wp2)
    go_ret
    exact ⟨ff,bs HB⟩
   ·replace H:=itF H;have H':=am H;clear H
    go_wp2
    repeat (go_quiet (fail);try go_wp2)
    go_loopg [5] kj2 (fun kq v5 w'=>∃ (x5_2:Int),v5=.int .i64 x5_2∧Aside0 (spec_PaperSame.l0 kq x5_2 a0_0 a0_1 a0_2 a0_3 l0_4 l0_5 a1_0 a1_1 a1_2 a1_3 l1_4 l1_5=some r)∧Aside0 (kq≤kj2)∧Aside0 (w'.heap[gb410]? = some (.cells #[.int .i64 a0_0,.string a0_1,.string a0_2,.int .i64 a0_3,(.slice A0_4 l0_4.length c0_4),(.slice A0_5 l0_5.length c0_5)] 30 (0,0)))∧Aside0 (w'.heap[gb411]? = some (.cells #[.int .i64 a1_0,.string a1_1,.string a1_2,.int .i64 a1_3,(.slice A1_4 l1_4.length c1_4),(.slice A1_5 l1_5.length c1_5)] 30 (0,0)))∧Aside0 (Below w.heap.size w w'))
    case atStart=>exact ⟨(0),fg,H',⟨Nat.le_refl _⟩,⟨ks BK410⟩,⟨ks BK411⟩,⟨bs HB⟩⟩
    case round =>
     clear H'
     obtain ⟨x5_2,rfl,HA,HK2,BK410,BK411,HB⟩:=hrel
     cases gk with
     | zero=>exact absurd HA.out (by simp [spec_PaperSame.l0])
     | succ k2 =>
      have H:=HA.out;clear HA;simp only [spec_PaperSame.l0] at H
      revert H;refine id2 ?_ ?_
      ·intro c30b0 H
       revert H;refine id1 ?_
       intro c31b0 H
       revert H;refine id1 ?_
       intro c32b0 H
       revert H;refine ie2 ?_ ?_
       ·intro c33b0 c33b1 H;have H':=am H;clear H;have hnb34:=NB410_411.out;have hnc34:=NB411_410.out;have hcz35:=cf6 BK410;have p412:0≤(x5_2:Int):=oa;have q412:x5_2<(l0_4.length:Int):=oa;obtain ⟨ad412,e412,hx412_0⟩:=Kd.at_string HR0_4.out x5_2 p412 q412
        cases e412
        replace hx412_0:=cb HB hx412_0;replace p412:=eq_true p412;replace q412:=eq_true q412;have hcz36:=cf6 BK411;have p413:0≤(x5_2:Int):=oa;have q413:x5_2<(l1_4.length:Int):=oa;obtain ⟨ad413,e413,hx413_0⟩:=Kd.at_string HR1_4.out x5_2 p413 q413
        cases e413
        replace hx413_0:=cb HB hx413_0;replace p413:=eq_true p413;replace q413:=eq_true q413
        go_wp2
        repeat (go_quiet (fail);try go_wp2)
        go_roundg k2
        case measure=>have:=HJ2.out;have:=HK2.out;omega
        case rel=>exact ⟨(wrap64 (x5_2+1)),fg,H',⟨by have:=HJ2.out;have:=HK2.out;omega⟩,⟨ks BK410⟩,⟨ks BK411⟩,⟨bs HB⟩⟩
       ·intro c33 c33b0 c33b1 H;obtain rfl:=si H;have hnb37:=NB410_411.out;have hnc37:=NB411_410.out;have hcz38:=cf6 BK410;have p412:0≤(x5_2:Int):=oa;have q412:x5_2<(l0_4.length:Int):=oa;obtain ⟨ad412,e412,hx412_0⟩:=Kd.at_string HR0_4.out x5_2 p412 q412
        cases e412
        replace hx412_0:=cb HB hx412_0;replace p412:=eq_true p412;replace q412:=eq_true q412;have hcz39:=cf6 BK411;have p413:0≤(x5_2:Int):=oa;have q413:x5_2<(l1_4.length:Int):=oa;obtain ⟨ad413,e413,hx413_0⟩:=Kd.at_string HR1_4.out x5_2 p413 q413
        cases e413
        replace hx413_0:=cb HB hx413_0;replace p413:=eq_true p413;replace q413:=eq_true q413
        go_wp2
        repeat (go_quiet (fail);try go_wp2)
        go_ret
        exact ⟨ff,bs HB⟩
      ·intro c30b0 H;have H':=am H;clear H;have hnb40:=NB410_411.out;have hnc40:=NB411_410.out;have hcz41:=cf6 BK410
       go_wp2
       repeat (go_quiet (fail);try go_wp2)
       go_loopg [6] k2 (fun kq v6 w'=>∃ (x6_3:Int),v6=.int .i64 x6_3∧Aside0 (spec_PaperSame.l1 kq x6_3 a0_0 a0_1 a0_2 a0_3 l0_4 l0_5 a1_0 a1_1 a1_2 a1_3 l1_4 l1_5=some r)∧Aside0 (kq≤k2)∧Aside0 (w'.heap[gb410]? = some (.cells #[.int .i64 a0_0,.string a0_1,.string a0_2,.int .i64 a0_3,(.slice A0_4 l0_4.length c0_4),(.slice A0_5 l0_5.length c0_5)] 30 (0,0)))∧Aside0 (w'.heap[gb411]? = some (.cells #[.int .i64 a1_0,.string a1_1,.string a1_2,.int .i64 a1_3,(.slice A1_4 l1_4.length c1_4),(.slice A1_5 l1_5.length c1_5)] 30 (0,0)))∧Aside0 (Below w.heap.size w w'))
       case atStart=>exact ⟨(0),fg,H',⟨Nat.le_refl _⟩,⟨ks BK410⟩,⟨ks BK411⟩,⟨bs HB⟩⟩
       case round =>
        clear H'
        try clear c30b0
        try clear hcz41
        obtain ⟨x6_3,rfl,HA,HK3,BK410,BK411,HB⟩:=hrel
        cases gk with
        | zero=>exact absurd HA.out (by simp [spec_PaperSame.l1])
        | succ k3 =>
         have H:=HA.out;clear HA;simp only [spec_PaperSame.l1] at H
         revert H;refine id2 ?_ ?_
         ·intro c42b0 H
          revert H;refine id1 ?_
          intro c43b0 H
          revert H;refine id1 ?_
          intro c44b0 H
          revert H;refine ip2 ?_ ?_
          ·intro c45 H;have c45b0:(!(((rd_T71 l0_5 x6_3).f0) == ((rd_T71 l1_5 x6_3).f0)) || (!((((rd_T71 l0_5 x6_3).f1).toList) == (((rd_T71 l1_5 x6_3).f1).toList)) || (!(((rd_T71 l0_5 x6_3).f2) == ((rd_T71 l1_5 x6_3).f2)) || (!(((rd_T71 l0_5 x6_3).f3) == ((rd_T71 l1_5 x6_3).f3)) || (!((((rd_T71 l0_5 x6_3).f4).toList) == (((rd_T71 l1_5 x6_3).f4).toList)))))))=true:=c45;clear c45;obtain rfl:=si H;have hnb46:=NB410_411.out;have hnc46:=NB411_410.out;have hcz47:=cf6 BK410;have p414:0≤(x6_3:Int):=oa;have q414:x6_3<(l0_5.length:Int):=oa;obtain ⟨ad414,e414,hx414_0,hx414_1,hx414_2,hx414_3,hx414_4⟩:=at_T71 HR0_5.out x6_3 p414 q414
           cases e414
           replace hx414_0:=cb HB hx414_0;replace hx414_1:=cb HB hx414_1;replace hx414_2:=cb HB hx414_2;replace hx414_3:=cb HB hx414_3;replace hx414_4:=cb HB hx414_4;replace p414:=eq_true p414;replace q414:=eq_true q414;have hcz48:=cf6 BK411;have p415:0≤(x6_3:Int):=oa;have q415:x6_3<(l1_5.length:Int):=oa;obtain ⟨ad415,e415,hx415_0,hx415_1,hx415_2,hx415_3,hx415_4⟩:=at_T71 HR1_5.out x6_3 p415 q415
           cases e415
           replace hx415_0:=cb HB hx415_0;replace hx415_1:=cb HB hx415_1;replace hx415_2:=cb HB hx415_2;replace hx415_3:=cb HB hx415_3;replace hx415_4:=cb HB hx415_4;replace p415:=eq_true p415;replace q415:=eq_true q415
           go_wp2
           repeat (go_quiet (fail);try go_wp2)
           go_ret
           exact ⟨ff,bs HB⟩
          ·intro c45 H
           have c45b0:(!(((rd_T71 l0_5 x6_3).f0) == ((rd_T71 l1_5 x6_3).f0)) || (!((((rd_T71 l0_5 x6_3).f1).toList) == (((rd_T71 l1_5 x6_3).f1).toList)) || (!(((rd_T71 l0_5 x6_3).f2) == ((rd_T71 l1_5 x6_3).f2)) || (!(((rd_T71 l0_5 x6_3).f3) == ((rd_T71 l1_5 x6_3).f3)) || (!((((rd_T71 l0_5 x6_3).f4).toList) == (((rd_T71 l1_5 x6_3).f4).toList)))))))=false:=by simpa using c45
           clear c45;have H':=am H;clear H;have hnb49:=NB410_411.out;have hnc49:=NB411_410.out;have hcz50:=cf6 BK410;have p414:0≤(x6_3:Int):=oa;have q414:x6_3<(l0_5.length:Int):=oa;obtain ⟨ad414,e414,hx414_0,hx414_1,hx414_2,hx414_3,hx414_4⟩:=at_T71 HR0_5.out x6_3 p414 q414
           cases e414
           replace hx414_0:=cb HB hx414_0;replace hx414_1:=cb HB hx414_1;replace hx414_2:=cb HB hx414_2;replace hx414_3:=cb HB hx414_3;replace hx414_4:=cb HB hx414_4;replace p414:=eq_true p414;replace q414:=eq_true q414;have hcz51:=cf6 BK411;have p415:0≤(x6_3:Int):=oa;have q415:x6_3<(l1_5.length:Int):=oa;obtain ⟨ad415,e415,hx415_0,hx415_1,hx415_2,hx415_3,hx415_4⟩:=at_T71 HR1_5.out x6_3 p415 q415
           cases e415
           replace hx415_0:=cb HB hx415_0;replace hx415_1:=cb HB hx415_1;replace hx415_2:=cb HB hx415_2;replace hx415_3:=cb HB hx415_3;replace hx415_4:=cb HB hx415_4;replace p415:=eq_true p415;replace q415:=eq_true q415
           go_wp2
           repeat (go_quiet (fail);try go_wp2)
           go_roundg k3
           case measure=>have:=HJ2.out;have:=HK2.out;have:=HK3.out;omega
           case rel=>exact ⟨(wrap64 (x6_3+1)),fg,H',⟨by have:=HJ2.out;have:=HK2.out;have:=HK3.out;omega⟩,⟨ks BK410⟩,⟨ks BK411⟩,⟨bs HB⟩⟩
         ·intro c42b0 H;obtain rfl:=si H;have hnb52:=NB410_411.out;have hnc52:=NB411_410.out;have hcz53:=cf6 BK410
          go_wp2
          repeat (go_quiet (fail);try go_wp2)
          go_ret
          exact ⟨ff,bs HB⟩
end Go.Proofs.YtogkcllenfkdmaaGreatDoor.QR
namespace Go.Proofs.YtogkcllenfkdmaaGreatDoor.QR
open Go.RowKit Go.Proofs.YtogkcllenfkdmaaGreatDoorW.PrintWords Go.Proofs.YtogkcllenfkdmaaGreatDoorW.PrintLast Go.Proofs.YtogkcllenfkdmaaGreatDoorW.PrintMore
attribute [local go_sem] max2_int min2_int max_two min_two max_three min_three max_four min_four   -- for this text's walks alone
set_option linter.unusedVariables false
set_option linter.unusedSimpArgs false
set_option maxHeartbeats 8000000 in
set_option maxRecDepth 100000 in
theorem spec_PaperRight.calls (k:Nat) (a0_0:Int) (a0_1:ByteArray) (a0_2:ByteArray) (a0_3:Int) (A0_4:Option Addr) (c0_4:Nat) (l0_4:List ByteArray) (A0_5:Option Addr) (c0_5:Nat) (l0_5:List (S71)) (r:Bool) (w:World) (hr0_4:Kd.C Kd.string w A0_4 l0_4.length l0_4) (hc0_4:l0_4.length≤c0_4) (hr0_5:Kd.C k71 w A0_5 l0_5.length l0_5) (hc0_5:l0_5.length≤c0_5) (H:spec_PaperRight.f k a0_0 a0_1 a0_2 a0_3 l0_4 l0_5=some r) :
  Calls Tryz.prog 9 #[.agg #[.int .i64 a0_0,.string a0_1,.string a0_2,.int .i64 a0_3,.slice A0_4 l0_4.length c0_4,.slice A0_5 l0_5.length c0_5]] w fun e w'=>e=.returned (.bool r)∧Below w.heap.size w w':=by
 have hu30:=Tryz.underlying30;have hu62:=Tryz.underlying62;have hu38:=Tryz.underlying38;have HR0_4:=am hr0_4;have HC0_4:=am hc0_4;clear hr0_4 hc0_4;have HR0_5:=am hr0_5;have HC0_5:=am hc0_5;clear hr0_5 hc0_5;have HB:=am (Below.refl w.heap.size w);unfold spec_PaperRight.f at H;have HC2:=am H;clear H
 go_in
 go_upto_region 1 with (first|((with_reducible refine gate_dst (N:=1) rfl ?_);(try (refine gate_guard (by rfl) ?_;dsimp only));refine bx 1 (cs:=#[.int .i64 a0_0,.string a0_1,.string a0_2,.int .i64 a0_3,.slice A0_4 l0_4.length c0_4,.slice A0_5 l0_5.length c0_5]) (t:=30) ?_;intro gb416 hg w3 hbox hb;have BK416:=am (hbox);have GW416:=am ((gs hg (bs HB)));have GE416:=am ((gs hg (bs HB)));replace HB:=am (below_step (bs HB) hb);clear hb hbox hg))
 (try simp only [Act.put,List.setIfInBounds_toArray,List.set_cons_zero,List.set_cons_succ])
 go_cut [15] (fun v15 wc=>∃ (kq:Nat) (x15_1:Bool),v15=.bool x15_1∧Aside0 (spec_PaperRight.j0 kq x15_1 a0_0 a0_1 a0_2 a0_3 l0_4 l0_5=some r)∧Aside0 (kq≤k)∧Aside0 (wc.heap[gb416]? = some (.cells #[.int .i64 a0_0,.string a0_1,.string a0_2,.int .i64 a0_3,(.slice A0_4 l0_4.length c0_4),(.slice A0_5 l0_5.length c0_5)] 30 (0,0)))∧Aside0 (Below w.heap.size w wc))
 case first =>
  have H:=HC2.out;clear HC2
  revert H;refine ip2 ?_ ?_
  ·intro c4 H;have c4b0:decide (40<(l0_4.length:Int))=true:=decide_eq_true c4;have c4b1:decide (40<l0_4.length)=true:=decide_eq_true (by omega);clear c4
   (first|rw [c4b0]|(simp only [i64_w,i32_w];rw [c4b0])|rw [c4b1]|skip)
   have H':=am H;clear H;have hcz5:=cf6 BK416
   go_wp2
   go_meet
   case rel=>exact ⟨_,(true),fg,H',⟨fl⟩,⟨ks BK416⟩,⟨bs HB⟩⟩
  ·intro c4 H;have c4b0:decide (40<(l0_4.length:Int))=false:=decide_eq_false c4;have c4b1:decide (40<l0_4.length)=false:=decide_eq_false (by omega);clear c4
   (first|rw [c4b0]|(simp only [i64_w,i32_w];rw [c4b0])|rw [c4b1]|skip)
   have H':=am H;clear H;have hcz6:=cf6 BK416
   go_wp2
   go_meet
   case rel=>exact ⟨_,(decide ((l0_5.length:Int)>20)),fg,H',⟨fl⟩,⟨ks BK416⟩,⟨bs HB⟩⟩
 case rest =>
  clear HC2
  obtain ⟨kq,x15_1,rfl,HA,HJ1,BK416,HB⟩:=hcut
  cases kq with
  | zero=>exact absurd HA.out (by simp [spec_PaperRight.j0])
  | succ kj1 =>
   have H:=HA.out;clear HA;simp only [spec_PaperRight.j0] at H
   obtain rfl|rfl:=bt x15_1
   ·replace H:=itT H;obtain rfl:=si H
    go_wp2
    go_ret
    exact ⟨ff,bs HB⟩
   ·replace H:=itF H;replace H:=bo H;obtain ⟨t417,A8,H⟩:=H;have H':=am H;clear H;have hcz9:=cf6 BK416
    go_wp2_with (first|((first|((with_reducible refine gate_callee (f:=36) rfl ?_);refine goesL_ (some 17) rfl rfl Tryz.func36 (by kernel_rfl) rfl #[.agg #[.int .i64 a0_0,.string a0_1,.string a0_2,.int .i64 a0_3,.slice A0_4 l0_4.length c0_4,.slice A0_5 l0_5.length c0_5]] rfl (by (try simp only [List.map_toArray,List.map_cons,List.map_nil]);first|done|rfl|(simp only [List.length_drop,List.length_take];rfl)) ?_;(with_reducible refine (spec_l05Body.calls kj1 a0_0 a0_1 a0_2 a0_3 _ _ l0_4 _ _ l0_5 t417 _ (Kd.C_below HR0_4.out (bs HB)) HC0_4.out (Kd.C_below HR0_5.out (bs HB)) HC0_5.out A8.out).mono ?_);rintro e w10 ⟨v418,rfl,ho0,hb⟩;refine ⟨_,rfl,?_⟩)|(go_at_call 36;(with_reducible refine (spec_l05Body.calls kj1 a0_0 a0_1 a0_2 a0_3 _ _ l0_4 _ _ l0_5 t417 _ (Kd.C_below HR0_4.out (bs HB)) HC0_4.out (Kd.C_below HR0_5.out (bs HB)) HC0_5.out A8.out).mono ?_);rintro e w10 ⟨v418,rfl,ho0,hb⟩));have HO419:=am (Kd.N_lower (Kd.N_mono (ok':=fun k_=>k_≠gb416) ho0 (fun k_ hk_=>(Kd.freshB (g:=gb416) (o:=.cells #[.int .i64 a0_0,.string a0_1,.string a0_2,.int .i64 a0_3,.slice A0_4 l0_4.length c0_4,.slice A0_5 l0_5.length c0_5] 30 (0,0)) (ks BK416) k_ hk_))) (below_size (bs HB)));replace BK416:=am (blk_below (ks BK416) hb);replace HB:=am (below_step (bs HB) hb);(try clear hb);(try clear hb2);(try clear hk);(try clear hi);(try clear ho0)))
    go_loopg [4] kj1 (fun kq v4 w'=>∃ (x4_2:Int),v4=.int .i64 x4_2∧Aside0 (spec_PaperRight.l0 kq t417 x4_2 a0_0 a0_1 a0_2 a0_3 l0_4 l0_5=some r)∧Aside0 (kq≤kj1)∧Aside0 (Kd.N k62 62 w' w.heap.size (fun k_=>k_≠gb416) v418 t417)∧Aside0 (w'.heap[gb416]? = some (.cells #[.int .i64 a0_0,.string a0_1,.string a0_2,.int .i64 a0_3,(.slice A0_4 l0_4.length c0_4),(.slice A0_5 l0_5.length c0_5)] 30 (0,0)))∧Aside0 (Below w.heap.size w w'))
    case atStart=>exact ⟨(0),fg,H',⟨Nat.le_refl _⟩,⟨by (with_reducible repeat (first|apply Kd.N_alloc|apply Kd.N_drewN|apply Kd.N_drew));exact HO419.out⟩,⟨ks BK416⟩,⟨bs HB⟩⟩
    case round =>
     clear H'
     try clear hcz9
     obtain ⟨x4_2,rfl,HA,HK2,HO_3,BK416,HB⟩:=hrel
     cases gk with
     | zero=>exact absurd HA.out (by simp [spec_PaperRight.l0])
     | succ k2 =>
      have H:=HA.out;clear HA;simp only [spec_PaperRight.l0] at H
      revert H;refine id2 ?_ ?_
      ·intro c11b0 H
       revert H;refine id1 ?_
       intro c12b0 H;replace H:=bo H;obtain ⟨t421,A13,H⟩:=H;obtain ⟨Ao14,co14,eo14⟩:=Kd.N_slice HO_3.out;subst eo14;have p420:0≤(x4_2:Int):=oa;have q420:x4_2<(t417.length:Int):=oa;obtain ⟨ad420,A420_1,c420_1,e420,hx420_0,hx420_1,hl420_1,hi420_1⟩:=at_T62 (Kd.N_reads' HO_3.out).2.2 x4_2 p420 q420
       cases e420
       obtain ⟨ce420,hce420,hMe420,hcc420⟩:=Kd.N_get HO_3.out z62 x4_2 p420 (by first|exact q420|exact oa|(have e_:=(Kd.N_reads' HO_3.out).1;omega));obtain ⟨ua420_1,uc420_1,rfl,ul420_1,ge420_1⟩:=k62_openF hMe420;have hv420_1:=hcc420 1 _ rfl
       rw [add_field _ _ 1 (by omega)] at hv420_1
       replace hv420_1:=Option.some.inj (hv420_1.symm.trans hx420_1)
       injection hv420_1 with hva_ hvn_ hvc_
       rw [hva_] at ge420_1
       rw [hvc_] at ul420_1
       have HL420_1:=am (show Kd.V k103 103 _ w.heap.size _ _ ((rd_T62 t417 x4_2).f1) from Kd.V_mk ul420_1 ge420_1);clear hva_ hvn_ hvc_ ge420_1 ul420_1;clear hcc420 hce420;have HR420_1:=am hi420_1;have HC420_1:=am hl420_1;clear hi420_1 hl420_1;replace p420:=eq_true p420;replace q420:=eq_true q420
       try go_wp2_with (fail)
       go_at_call 37;(with_reducible refine (spec_SegmentRight.calls k2 ((rd_T62 t417 x4_2).f0) _ _ ((rd_T62 t417 x4_2).f1) t421 _ ?side1 HC420_1.out A13.out).mono ?_);(case side1=>repeat (first|exact (by repeat (first|(with_reducible exact HR420_1.out)|(with_reducible refine Kd.C_alloc ?_ _)|(with_reducible refine Kd.C_drewN ?_ _)|(with_reducible refine Kd.C_drew ?_)|exact HR420_1.out))|(with_reducible refine Kd.C_alloc ?_ _)|(with_reducible refine Kd.C_drewN ?_ _)|(with_reducible refine Kd.C_drew ?_)));rintro e w15 ⟨rfl,hb⟩;have n0_:=am (Kd.N_below (by (with_reducible repeat (first|apply Kd.N_alloc|apply Kd.N_drewN|apply Kd.N_drew));exact HO_3.out) hb);have n1_:=am (Kd.V_below (by (with_reducible repeat (first|apply Kd.V_alloc|apply Kd.V_drewN|apply Kd.V_drew));exact HL420_1.out) hb);have n2_:=am (blk_below (ks BK416) hb);have n3_:=am (Kd.C_below (by repeat (first|(with_reducible exact HR420_1.out)|(with_reducible refine Kd.C_alloc ?_ _)|(with_reducible refine Kd.C_drewN ?_ _)|(with_reducible refine Kd.C_drew ?_)|exact HR420_1.out)) hb);have n4_:=am (below_step (bs HB) hb);clear HO_3;clear HL420_1;clear BK416;clear HR420_1;clear HB;have HO_3:=n0_;have HL420_1:=n1_;have BK416:=n2_;have HR420_1:=n3_;have HB:=n4_;clear n0_ n1_ n2_ n3_ n4_;(try clear hb);(try clear hb2);(try clear hk);(try clear hi)
       obtain rfl|rfl:=bt t421
       ·replace H:=itT H;have H':=am H;clear H
        go_wp2
        go_roundg k2
        case measure=>have:=HJ1.out;have:=HK2.out;omega
        case rel=>exact ⟨(wrap64 (x4_2+1)),fg,H',⟨by have:=HJ1.out;have:=HK2.out;omega⟩,⟨by (with_reducible repeat (first|apply Kd.N_alloc|apply Kd.N_drewN|apply Kd.N_drew));exact HO_3.out⟩,⟨ks BK416⟩,⟨bs HB⟩⟩
       ·replace H:=itF H;obtain rfl:=si H
        go_wp2
        go_ret
        exact ⟨ff,bs HB⟩
      ·intro c11b0 H;replace H:=bo H;obtain ⟨⟨t422,t423,t424,t425,t426,t429,t432,t433⟩,A17,H⟩:=H;(try dsimp only at H);obtain ⟨Ao18,co18,eo18⟩:=Kd.N_slice HO_3.out;subst eo18;have hcz19:=cf6 BK416
       try go_wp2_with (fail)
       go_at_call 16;(with_reducible refine (spec_PaperOf.calls k2 a0_0 _ _ t417 t422 t423 t424 t425 t426 t429 t432 t433 _ ?side1 ?side2 A17.out).mono ?_);(case side1=>repeat (first|exact (Kd.N_reads' HO_3.out).2.2|(with_reducible refine Kd.C_alloc ?_ _)|(with_reducible refine Kd.C_drewN ?_ _)|(with_reducible refine Kd.C_drew ?_)));(case side2=>exact (Kd.N_reads' HO_3.out).2.1);rintro e w20 ⟨v427,v430,rfl,ho0,ho1,hb⟩;have n0_:=am (Kd.N_mono (Kd.N_told (Kd.N_told (Kd.N_old (by (with_reducible repeat (first|apply Kd.N_alloc|apply Kd.N_drewN|apply Kd.N_drew));exact HO_3.out) hb) (Kd.R_base ho0)) (Kd.R_base ho1)) (fun _ h_=>h_.1));have n1_:=am (Kd.R_lower ho0 (below_size (bs HB)));have n2_:=am (Kd.R_lower ho1 (below_size (bs HB)));have n3_:=am (blk_below (ks BK416) hb);have n4_:=am (below_step (bs HB) hb);clear HO_3;clear BK416;clear HB;have HO_3:=n0_;have HO428:=n1_;have HO431:=n2_;have BK416:=n3_;have HB:=n4_;clear n0_ n1_ n2_ n3_ n4_;(try clear hb);(try clear hb2);(try clear hk);(try clear hi);(try clear ho0);(try clear ho1)
       revert H;refine ie2 ?_ ?_
       ·intro c21b0 c21b1 H;replace H:=bo H;obtain ⟨t435,A22,H⟩:=H;obtain rfl:=si H
        go_wp2_with (first|((with_reducible refine gate_dst (N:=5) rfl ?_);(try (refine gate_guard (by rfl) ?_;dsimp only));refine bx 5 (cs:=#[.int .i64 0,.string (⟨#[]⟩:ByteArray),.string (⟨#[]⟩:ByteArray),.int .i64 0,.slice none 0 0,.slice none 0 0,.int .i64 0,.int .i64 0]) (t:=38) ?_;intro gb434 hg w23 hbox hb;have n0_:=am (Kd.N_below (Kd.N_elderB (by (with_reducible repeat (first|apply Kd.N_alloc|apply Kd.N_drewN|apply Kd.N_drew));exact HO_3.out) gb434 (Nat.le_of_eq hg.symm)) hb);have n1_:=am (Kd.R_below (rs HO428) hb);have n2_:=am (Kd.R_below (rs HO431) hb);have n3_:=am (blk_below (ks BK416) hb);have n4_:=am (below_step (bs HB) hb);have n5_:=am (hbox);have n6_:=am ((gs hg (bs HB)));have n7_:=am ((gs hg (bs HB)));have n8_:=am ((gn hg (ks BK416)));have n9_:=am ((gm hg (ks BK416)));clear HO_3;clear HO428;clear HO431;clear BK416;clear HB;have HO_3:=n0_;have HO428:=n1_;have HO431:=n2_;have BK416:=n3_;have HB:=n4_;have BK434:=n5_;have GW434:=n6_;have GE434:=n7_;have NB416_434:=n8_;have NB434_416:=n9_;clear n0_ n1_ n2_ n3_ n4_ n5_ n6_ n7_ n8_ n9_;clear hb hbox hg;have hnb24:=NB434_416.out;have hnc24:=NB416_434.out;have hcz25:=cf8 BK434;obtain ⟨Ao26,co26,eo26⟩:=Kd.R_slice HO428.out;subst eo26;obtain ⟨Ao27,co27,eo27⟩:=Kd.R_slice HO431.out;subst eo27;have hcz28_0:w23.cell? ⟨gb416,0,none⟩=some (.int .i64 a0_0):=(blk_cell BK416.out 0).trans rfl;have hcz28_1:w23.cell? ⟨gb416,1,none⟩=some (.string a0_1):=(blk_cell BK416.out 1).trans rfl;have hcz28_2:w23.cell? ⟨gb416,2,none⟩=some (.string a0_2):=(blk_cell BK416.out 2).trans rfl;have hcz28_3:w23.cell? ⟨gb416,3,none⟩=some (.int .i64 a0_3):=(blk_cell BK416.out 3).trans rfl;have hcz28_4:w23.cell? ⟨gb416,4,none⟩=some (.slice A0_4 l0_4.length c0_4):=(blk_cell BK416.out 4).trans rfl;have hcz28_5:w23.cell? ⟨gb416,5,none⟩=some (.slice A0_5 l0_5.length c0_5):=(blk_cell BK416.out 5).trans rfl;have hfz28_0:=blk_frozen BK416.out 0;have hfz28_1:=blk_frozen BK416.out 1;have hfz28_2:=blk_frozen BK416.out 2;have hfz28_3:=blk_frozen BK416.out 3;have hfz28_4:=blk_frozen BK416.out 4;have hfz28_5:=blk_frozen BK416.out 5)|(go_at_call 30;(with_reducible refine (spec_PaperSame.calls k2 t422 t423 t424 t425 _ _ t426 _ _ t429 a0_0 a0_1 a0_2 a0_3 _ _ l0_4 _ _ l0_5 t435 _ ?side1 ?side2 ?side3 ?side4 ?side5 HC0_4.out ?side7 HC0_5.out A22.out).mono ?_);(case side1=>refine (Kd.R_reads' (e:=9) (base:=w.heap.size) (ok:=fun k_=>True) (n:=t426.length) (c:=co26) ?_).2.2;exact (by (with_reducible repeat (first|apply Kd.R_alloc|apply Kd.R_drewN|apply Kd.R_drew));exact (Kd.R_mono (rf (Kd.R_types HO428.out BK434.out (by decide))) (fun _ h_=>h_.1))));(case side2=>exact (Kd.R_reads' HO428.out).2.1);(case side3=>refine (Kd.R_reads' (e:=71) (base:=w.heap.size) (ok:=fun k_=>True) (n:=t429.length) (c:=co27) ?_).2.2;exact (by (with_reducible repeat (first|apply Kd.R_alloc|apply Kd.R_drewN|apply Kd.R_drew));exact (Kd.R_mono (rf (Kd.R_types HO431.out BK434.out (by decide))) (fun _ h_=>h_.1))));(case side4=>exact (Kd.R_reads' HO431.out).2.1);(case side5=>exact Kd.C_below HR0_4.out (bs HB));(case side7=>exact Kd.C_below HR0_5.out (bs HB));rintro e w29 ⟨rfl,hb⟩;have n0_:=am (Kd.N_below (by (with_reducible repeat (first|apply Kd.N_alloc|apply Kd.N_drewN|apply Kd.N_drew));exact (Kd.N_mono (Kd.N_far (p:=⟨gb434,7,none⟩) (Kd.N_far (p:=⟨gb434,6,none⟩) (Kd.N_far (p:=⟨gb434,5,none⟩) (Kd.N_far (p:=⟨gb434,4,none⟩) (Kd.N_far (p:=⟨gb434,3,none⟩) (Kd.N_far (p:=⟨gb434,2,none⟩) (Kd.N_far (p:=⟨gb434,1,none⟩) (Kd.N_far (p:=⟨gb434,0,none⟩) (Kd.N_mono HO_3.out (fun k_ hk=>(⟨hk,hk.2⟩:_∧k_≠gb434))) (fun _ hk=>hk.2) (.int .i64 t422)) (fun _ hk=>hk.2) (.string t423)) (fun _ hk=>hk.2) (.string t424)) (fun _ hk=>hk.2) (.int .i64 t425)) (fun _ hk=>hk.2) (.slice Ao26 t426.length co26)) (fun _ hk=>hk.2) (.slice Ao27 t429.length co27)) (fun _ hk=>hk.2) (.int .i64 t432)) (fun _ hk=>hk.2) (.int .i64 t433)) (fun _ h_=>h_.1))) hb);have n1_:=am (Kd.R_below (by (with_reducible repeat (first|apply Kd.R_alloc|apply Kd.R_drewN|apply Kd.R_drew));exact (Kd.R_mono (rf (Kd.R_types HO428.out BK434.out (by decide))) (fun _ h_=>h_.1))) hb);have n2_:=am (Kd.R_below (by (with_reducible repeat (first|apply Kd.R_alloc|apply Kd.R_drewN|apply Kd.R_drew));exact (Kd.R_mono (rf (Kd.R_types HO431.out BK434.out (by decide))) (fun _ h_=>h_.1))) hb);have n3_:=am (blk_below (ks BK416) hb);have n4_:=am (blk_below (g:=gb434) (o:=.cells #[.int .i64 t422,.string t423,.string t424,.int .i64 t425,.slice Ao26 t426.length co26,.slice Ao27 t429.length co27,.int .i64 t432,.int .i64 t433] 38 (0,0)) (kp BK434) hb);have n5_:=am (below_step (bs HB) hb);clear HO_3;clear HO428;clear HO431;clear BK416;clear BK434;clear HB;have HO_3:=n0_;have HO428:=n1_;have HO431:=n2_;have BK416:=n3_;have BK434:=n4_;have HB:=n5_;clear n0_ n1_ n2_ n3_ n4_ n5_;(try clear hb);(try clear hb2);(try clear hk);(try clear hi)))
        go_ret
        exact ⟨ff,bs HB⟩
       ·intro c21 c21b0 c21b1 H;obtain rfl:=si H
        go_wp2_with (first|((with_reducible refine gate_dst (N:=5) rfl ?_);(try (refine gate_guard (by rfl) ?_;dsimp only));refine bx 5 (cs:=#[.int .i64 0,.string (⟨#[]⟩:ByteArray),.string (⟨#[]⟩:ByteArray),.int .i64 0,.slice none 0 0,.slice none 0 0,.int .i64 0,.int .i64 0]) (t:=38) ?_;intro gb434 hg w30 hbox hb;have n0_:=am (Kd.N_below (Kd.N_elderB (by (with_reducible repeat (first|apply Kd.N_alloc|apply Kd.N_drewN|apply Kd.N_drew));exact HO_3.out) gb434 (Nat.le_of_eq hg.symm)) hb);have n1_:=am (Kd.R_below (rs HO428) hb);have n2_:=am (Kd.R_below (rs HO431) hb);have n3_:=am (blk_below (ks BK416) hb);have n4_:=am (below_step (bs HB) hb);have n5_:=am (hbox);have n6_:=am ((gs hg (bs HB)));have n7_:=am ((gs hg (bs HB)));have n8_:=am ((gn hg (ks BK416)));have n9_:=am ((gm hg (ks BK416)));clear HO_3;clear HO428;clear HO431;clear BK416;clear HB;have HO_3:=n0_;have HO428:=n1_;have HO431:=n2_;have BK416:=n3_;have HB:=n4_;have BK434:=n5_;have GW434:=n6_;have GE434:=n7_;have NB416_434:=n8_;have NB434_416:=n9_;clear n0_ n1_ n2_ n3_ n4_ n5_ n6_ n7_ n8_ n9_;clear hb hbox hg;have hnb31:=NB434_416.out;have hnc31:=NB416_434.out;have hcz32:=cf8 BK434;obtain ⟨Ao33,co33,eo33⟩:=Kd.R_slice HO428.out;subst eo33;obtain ⟨Ao34,co34,eo34⟩:=Kd.R_slice HO431.out;subst eo34))
        go_ret
        exact ⟨ff,bs HB⟩
set_option maxHeartbeats 8000000 in
set_option maxRecDepth 100000 in
theorem impl_within.calls (a0:Int) (a1:Int) (a2:Int) (r:Bool) (w:World) (H:impl_within.f a0 a1 a2=some r) :
  Calls Tryz.prog 40 #[.int .i64 a0,.int .i64 a1,.int .i64 a2] w fun e w'=>e=.returned (.bool r)∧Drawn0 w w':=by
 unfold impl_within.f at H
 revert H;refine id2 ?_ ?_
 ·intro c4b0 H;obtain rfl:=si H
  go_in
  go_wp2
  go_ret
  exact ⟨fg,by repeat (first|exact Drawn0.refl _|apply Drawn0.step)⟩
 ·intro c4b0 H;obtain rfl:=si H
  go_in
  go_wp2
  go_ret
  exact ⟨fg,by repeat (first|exact Drawn0.refl _|apply Drawn0.step)⟩
set_option maxHeartbeats 8000000 in
set_option maxRecDepth 100000 in
theorem impl_hasTwo.calls (a0:Int) (r:Bool) (w:World) (H:impl_hasTwo.f a0=some r) :
  Calls Tryz.prog 81 #[.int .i64 a0] w fun e w'=>e=.returned (.bool r)∧Drawn0 w w':=by
 unfold impl_hasTwo.f at H;replace H:=bo H;obtain ⟨t436,A2,H⟩:=H;obtain rfl:=si H
 go_in
 go_wp2_with (first|((first|((with_reducible refine gate_callee (f:=40) rfl ?_);refine goesL_ (some 4) rfl rfl Tryz.func40 (by kernel_rfl) rfl #[.int .i64 a0,.int .i64 2,.int .i64 4] rfl (by (try simp only [List.map_toArray,List.map_cons,List.map_nil]);first|done|rfl|(simp only [List.length_drop,List.length_take];rfl)) ?_;(with_reducible refine (impl_within.calls a0 2 4 t436 _ A2.out).mono ?_);rintro e w' ⟨rfl,⟨nd,rfl⟩⟩;refine ⟨_,rfl,?_⟩)|(go_at_call 40;(with_reducible refine (impl_within.calls a0 2 4 t436 _ A2.out).mono ?_);rintro e w' ⟨rfl,⟨nd,rfl⟩⟩))))
 go_ret
 exact ⟨fg,by repeat (first|exact Drawn0.refl _|apply Drawn0.step)⟩
def TbF (w : World) : Prop := Lib.TabIs Tryz.prog w "internal/strconv.uint64pow10" .u64 Lib.pow10Tab
theorem tbF {w W:World} (h:Aside0 (TbF w)) (hb:Below w.heap.size w W):TbF W:=Lib.tabBelow_of_tabIs h.out W hb
theorem strconv_FormatInt.calls (a0 a1:Int) (r:ByteArray) (w:World) (hT:TbF w) (h:strconv_FormatInt.f a0 a1=some r) :
  Calls Tryz.prog 118 #[.int .i64 a0,.int .i64 a1] w fun e w'=>e=.returned (.string r)∧Below w.heap.size w w':=by
 unfold strconv_FormatInt.f at h
 by_cases c1:a1=10
 ·rw [if_pos c1] at h
  by_cases c2 : -9223372036854775808≤a0
  ·rw [if_pos c2] at h
   by_cases c3:a0≤9223372036854775807
   ·rw [if_pos c3] at h
    obtain rfl:=Option.some.inj h;subst c1;refine (show Calls Tryz.prog 118 #[.int .i64 a0,.int .i64 10] w _ from Any.strconv_FormatInt_10 Tryz.laysM173 a0 c2 c3 w hT).mono ?_;rintro e w' ⟨rfl,k,os,rfl⟩
    exact ⟨rfl,rfl,rfl,rfl,by simp,fun j hj=>by rw [Go.Sort.heap_grow_old _ _ (by simpa using hj)];rfl⟩
   ·rw [if_neg c3] at h;cases h
  ·rw [if_neg c2] at h;cases h
 ·rw [if_neg c1] at h;cases h
set_option maxHeartbeats 8000000 in
set_option maxRecDepth 100000 in
theorem impl_decimal.calls (a0:Int) (r:ByteArray) (w:World) (hTF:TbF w) (H:impl_decimal.f a0=some r) :
  Calls Tryz.prog 83 #[.int .i64 a0] w fun e w'=>e=.returned (.string r)∧Below w.heap.size w w':=by
 have HTF:=am hTF;clear hTF
 have HB:=am (Below.refl w.heap.size w);unfold impl_decimal.f at H;replace H:=bo H;obtain ⟨t437,A2,H⟩:=H;obtain rfl:=si H
 go_in
 go_wp2_with (first|((first|((with_reducible refine gate_callee (f:=118) rfl ?_);refine goesL_ (some 4) rfl rfl Tryz.func118 (by kernel_rfl) rfl #[.int .i64 a0,.int .i64 10] rfl (by (try simp only [List.map_toArray,List.map_cons,List.map_nil]);first|done|rfl|(simp only [List.length_drop,List.length_take];rfl)) ?_;(with_reducible refine (strconv_FormatInt.calls a0 10 t437 _ (tbF HTF (bs HB)) A2.out).mono ?_);rintro e w3 ⟨rfl,hb⟩;refine ⟨_,rfl,?_⟩)|(go_at_call 118;(with_reducible refine (strconv_FormatInt.calls a0 10 t437 _ (tbF HTF (bs HB)) A2.out).mono ?_);rintro e w3 ⟨rfl,hb⟩));replace HB:=am (below_step (bs HB) hb);(try clear hb);(try clear hb2);(try clear hk);(try clear hi)))
 go_ret
 exact ⟨ff,bs HB⟩
set_option maxHeartbeats 8000000 in
set_option maxRecDepth 100000 in
theorem impl_plain.calls (k:Nat) (a0:ByteArray) (A1:Option Addr) (c1:Nat) (l1:List ByteArray) (r1:ByteArray) (r2:List (S103)) (w:World) (hr1:Kd.C Kd.string w A1 l1.length l1) (hc1:l1.length≤c1) (H:impl_plain.f k a0 l1=some (r1,r2)) :
  Calls Tryz.prog 82 #[.string a0,.slice A1 l1.length c1] w fun e w'=>∃ v1_:Value,e=.returned (.agg #[.string r1,v1_])∧Kd.S k103 103 w' w.heap.size (fun _=>True) v1_ r2∧Below w.heap.size w w':=by
 have hu62:=Tryz.underlying62;have hu103:=Tryz.underlying103;have HR1:=am hr1;have HC1:=am hc1;clear hr1 hc1;have HB:=am (Below.refl w.heap.size w);unfold impl_plain.f at H;have H':=am H;clear H
 go_in
 go_wp2_with (first|((with_reducible refine gate_dst (N:=4) rfl ?_);refine bx 4 (cs:=#[.string (⟨#[]⟩:ByteArray),.slice none 0 0]) (t:=62) ?_;intro gb438 hg w3 hbox hb;have BK438:=am (hbox);have GW438:=am ((gs hg (bs HB)));have GE438:=am ((gs hg (bs HB)));replace HB:=am (below_step (bs HB) hb);clear hb hbox hg)|((with_reducible refine gate_dst (N:=5) rfl ?_);refine bx 5 (cs:=#[.string (⟨#[]⟩:ByteArray),.slice none 0 0]) (t:=62) ?_;intro gb439 hg w4 hbox hb;have BK439:=am (hbox);have GW439:=am ((gs hg (bs HB)));have GE439:=am ((gs hg (bs HB)));replace HB:=am (below_step (bs HB) hb);have NB438_439:=am ((gn hg (ks BK438)));have NB439_438:=am ((gm hg (ks BK438)));replace BK438:=am (blk_below (ks BK438) hb);clear hb hbox hg;have hnb5:=NB439_438.out;have hnc5:=NB438_439.out;have hcz6:=cf2 BK439))
 go_loopg [12] k (fun kq v12 w'=>∃ (x12_1:Int) (x440001_1:List (S103)) (u440001:Value),v12=.int .i64 x12_1∧Aside0 (impl_plain.l0 kq l1 (l1.length:Int) x12_1 a0 x440001_1=some (r1,r2))∧Aside0 (kq≤k)∧Aside0 (Kd.S k103 103 w' w.heap.size (fun _=>True) u440001 x440001_1)∧Aside0 (w'.heap[gb438]? = some (.cells #[.string (⟨#[]⟩:ByteArray),(.slice none 0 0)] 62 (0,0)))∧Aside0 (w'.heap[gb439]? = some (.cells #[.string a0,u440001] 62 (0,0)))∧Aside0 (Below w.heap.size w w'))
 case atStart=>exact ⟨(0),(([]:List (S103))),(.slice none 0 0),fg,H',⟨Nat.le_refl _⟩,⟨by first|exact Kd.S_nil _ _ _ _ _|exact Kd.N_nil _ _ _ _ _|exact Kd.V_nil _ _ _ _ _|exact Kd.Q_nil _ _ _ _ _|exact Kd.R_nil _ _ _ _ _⟩,⟨ks BK438⟩,⟨kp BK439⟩,⟨bs HB⟩⟩
 case round =>
  clear H'
  try clear c1
  try clear hcz6
  obtain ⟨x12_1,x440001_1,u440001,rfl,HA,HK1,HO_440001,BK438,BK439,HB⟩:=hrel
  cases gk with
  | zero=>exact absurd HA.out (by simp [impl_plain.l0])
  | succ k1 =>
   have H:=HA.out;clear HA;simp only [impl_plain.l0] at H
   revert H;refine id2 ?_ ?_
   ·intro c7b0 H
    revert H;refine id1 ?_
    intro c8b0 H
    revert H;refine id1 ?_
    intro c9b0 H;obtain ⟨y441,hy441⟩:∃ y_:List ByteArray,y_=(([rdOf ByteArray.empty l1 x12_1]:List ByteArray)):=⟨_,rfl⟩
    replace H:(if x440001_1.length<5864062014805 then (impl_plain.l0 k1 l1 (l1.length:Int) (wrap64 (x12_1+1)) a0 (x440001_1++[(⟨y441⟩:S103)])) else (none))=some (r1,r2):=ye hy441 H
    have Ny441:=am hy441;clear hy441
    revert H;refine ip1 ?_
    intro c10 H;have LMc10:=am c10;clear c10;obtain ⟨y444,hy444⟩:∃ y_:List (S103),y_=(x440001_1++[(⟨y441⟩:S103)]):=⟨_,rfl⟩
    replace H:(impl_plain.l0 k1 l1 (l1.length:Int) (wrap64 (x12_1+1)) a0 y444)=some (r1,r2):=ye hy444 H
    have Ny444:=am hy444;clear hy444;have H':=am H;clear H;have p440:0≤(x12_1:Int):=oa;have q440:x12_1<(l1.length:Int):=oa;obtain ⟨ad440,e440,hx440_0⟩:=Kd.at_string HR1.out x12_1 p440 q440
    cases e440
    replace hx440_0:=cb HB hx440_0;replace p440:=eq_true p440;replace q440:=eq_true q440;have hnb11:=NB439_438.out;have hnc11:=NB438_439.out;have hcz12:=cf2 BK439
    go_wp2_with (first|((with_reducible refine gate_dst (N:=19) rfl ?_);refine Kd.R_lit Kd.string _ 9 ?hg (N:=19) ?hd (xs:=([rdOf ByteArray.empty l1 x12_1]:List ByteArray)) (inner:=[.string (rdOf ByteArray.empty l1 x12_1)]) (ok:=fun _=>True) (okp:=fun _=>True) ?hr ?hp (fun _ hk=>hk) trivial (Below.refl _ _) (Nat.le_refl _) (by simp) ?_;(case hd=>rfl);(case hg=>rfl);(case hr=>first|(go_simp;done)|(go_simp;rfl));(case hp=>exact (Reps.one (show Kd.M Kd.string _ _ _ (rdOf ByteArray.empty l1 x12_1) [.string (rdOf ByteArray.empty l1 x12_1)] from rfl) (Reps.none _ _)));intro v442 w13 ho14 hb hg_ hnew_;clear hg_ hnew_;(first|rw [← Ny441.out] at ho14|(simp only [Int.reduceToNat] at ho14;rw [← Ny441.out] at ho14));have n0_:=am (Kd.S_elder' (by (with_reducible repeat (first|apply Kd.S_alloc|apply Kd.S_drewN|apply Kd.S_drew));exact HO_440001.out) (Kd.R_base ho14) hb);have n1_:=am (Kd.R_lower ho14 (below_size (bs HB)));have n2_:=am (blk_below (ks BK438) hb);have n3_:=am (blk_below (ks BK439) hb);have n4_:=am (below_step (bs HB) hb);clear HO_440001;clear BK438;clear BK439;clear HB;have HO_440001:=n0_;have HO443:=n1_;have BK438:=n2_;have BK439:=n3_;have HB:=n4_;clear n0_ n1_ n2_ n3_ n4_;clear hb ho14;obtain ⟨Ao15,co15,eo15⟩:=Kd.R_slice HO443.out;subst eo15)|((with_reducible refine gate_builtin (b:=.append) (xs:=#[.tmp 17,.tmp 21]) rfl ?_);at_builtin;refine Kd.S_append k103 (w0:=w) w.heap.size rfl (.tmp 17) (.tmp 21) 60 103 (.agg #[(.slice none 0 0)]) 24 rfl Tryz.underlying60 info103 rfl (by decide) (by omega) u440001 x440001_1 (⟨y441⟩:S103) [.slice Ao15 y441.length co15] (fun _=>True) (fun k_=>some k_=(.slice Ao15 y441.length co15:Value).ownBlock) rfl rfl ?aP (fun k_ hk_=>((Kd.R_mono (ok':=fun k_=>((fun _=>True)) k_∧some k_≠(u440001:Value).ownBlock) (Kd.R_apart' (HO443.out) (Kd.S_typed HO_440001.out) (by decide)) (fun k_ hk=>⟨trivial,hk.2⟩))).1 k_ hk_.symm) ?aF ?aO ?aB ?aS ?aL ?_;(case aP=>exact k103_mkM _ _ _ (⟨y441⟩:S103) (Kd.R_mono (Kd.R_tight rfl (Kd.R_mono (ok':=fun k_=>((fun _=>True)) k_∧some k_≠(u440001:Value).ownBlock) (Kd.R_apart' (HO443.out) (Kd.S_typed HO_440001.out) (by decide)) (fun k_ hk=>⟨trivial,hk.2⟩))) (fun _ h_=>h_)));(case aB=>exact (bs HB));(case aF=>exact (fun _ _=>trivial));(case aO=>exact (by (with_reducible repeat (first|apply Kd.S_alloc|apply Kd.S_drewN|apply Kd.S_drew));exact Kd.S_mono HO_440001.out (fun k_ hk=>⟨trivial,fun e_=>hk.2 e_⟩)));(case aS=>exact (below_size (bs HB)));(case aL=>have:=LMc10.out;omega);intro v445 w16 ho hb hg hat;rw [← Ny444.out] at ho;have n0_:=am (blk_grown (ks BK438) hg (Kd.S_ne HO_440001.out BK438.out (by decide)));have n1_:=am (blk_grown (ks BK439) hg (Kd.S_ne HO_440001.out BK439.out (by decide)));have n2_:=am (hb);have n3_:=am (ho);clear BK438;clear BK439;clear HB;clear HO_440001;clear HO443;have BK438:=n0_;have BK439:=n1_;have HB:=n2_;have HO446:=n3_;clear n0_ n1_ n2_ n3_;clear ho hb hg hat;obtain ⟨Ao17,co17,eo17⟩:=Kd.S_slice HO446.out;subst eo17;have hcz18:=cf2 BK439))
    go_roundg k1
    case measure=>have:=HK1.out;omega
    case rel=>exact ⟨(wrap64 (x12_1+1)),(y444),(.slice Ao17 y444.length co17),fg,H',⟨by have:=HK1.out;omega⟩,⟨by (with_reducible repeat (first|apply Kd.S_alloc|apply Kd.S_drewN|apply Kd.S_drew));exact Kd.S_mono (Kd.S_far (p:=⟨gb439,1,none⟩) (Kd.S_types HO446.out BK439.out (by decide)) (fun _ hk=>hk.2) (.slice Ao17 y444.length co17)) (fun _ hk=>trivial)⟩,⟨ks BK438⟩,⟨kp BK439⟩,⟨bs HB⟩⟩
   ·intro c7b0 H;replace H:=sj2 H;obtain ⟨rfl,rfl⟩:=H;have hnb19:=NB439_438.out;have hnc19:=NB438_439.out;have hcz20:=cf2 BK439;have hcz21:=cf2 BK438;obtain ⟨Ao22,co22,eo22⟩:=Kd.S_slice HO_440001.out;subst eo22
    go_wp2
    refine bodyPost_ret (results_cell_row rfl _ _ gb438 62 #[.string a0,.slice Ao22 x440001_1.length co22] (0,0) _ rfl (kp BK438) Tryz.underlying62 rfl (by kernel_rfl)) rfl ?_
    exact ⟨_,ff,by (with_reducible repeat (first|apply Kd.S_alloc|apply Kd.S_drewN|apply Kd.S_drew));exact Kd.S_mono (Kd.S_far (p:=⟨gb438,1,none⟩) (Kd.S_far (p:=⟨gb438,0,none⟩) (Kd.S_types HO_440001.out BK438.out (by decide)) (fun _ hk=>hk.2) (.string a0)) (fun _ hk=>hk.2) (.slice Ao22 x440001_1.length co22)) (fun _ hk=>trivial),bs HB⟩
set_option maxHeartbeats 8000000 in
set_option maxRecDepth 100000 in
theorem impl_tableOf_1.calls (a0:ByteArray) (r1:ByteArray) (r2:Int) (r3:Int) (r4:ByteArray) (w:World) (H:impl_tableOf_1.f a0=some (r1,r2,r3,r4)) :
  Calls Tryz.prog 110 #[.string a0] w fun e w'=>e=.returned (.agg #[.string r1,.int .i64 r2,.int .i64 r3,.string r4])∧Below w.heap.size w w':=by
 have hu94:=Tryz.underlying94;have HB:=am (Below.refl w.heap.size w);unfold impl_tableOf_1.f at H;replace H:=sj4 H;obtain ⟨rfl,rfl,rfl,rfl⟩:=H
 go_in
 go_wp2_with (first|((with_reducible refine gate_dst (N:=2) rfl ?_);refine bx 2 (cs:=#[.string (⟨#[]⟩:ByteArray),.int .i64 0,.int .i64 0,.string (⟨#[]⟩:ByteArray)]) (t:=94) ?_;intro gb447 hg w2 hbox hb;have BK447:=am (hbox);have GW447:=am ((gs hg (bs HB)));have GE447:=am ((gs hg (bs HB)));replace HB:=am (below_step (bs HB) hb);clear hb hbox hg;have hcz3:=cf4 BK447))
 refine bodyPost_ret (results_cell_row rfl _ _ gb447 94 #[.string (⟨#[68,79,67]⟩:ByteArray),.int .i64 1,.int .i64 1,.string a0] (0,0) _ rfl (kp BK447) Tryz.underlying94 rfl (by kernel_rfl)) rfl ?_
 exact ⟨ff,bs HB⟩
set_option maxHeartbeats 8000000 in
set_option maxRecDepth 100000 in
theorem impl_tableOf_2.calls (a0:ByteArray) (a1:ByteArray) (r1:ByteArray) (r2:Int) (r3:Int) (r4:ByteArray) (w:World) (H:impl_tableOf_2.f a0 a1=some (r1,r2,r3,r4)) :
  Calls Tryz.prog 111 #[.string a0,.string a1] w fun e w'=>e=.returned (.agg #[.string r1,.int .i64 r2,.int .i64 r3,.string r4])∧Below w.heap.size w w':=by
 have hu94:=Tryz.underlying94;have HB:=am (Below.refl w.heap.size w);unfold impl_tableOf_2.f at H;replace H:=sj4 H;obtain ⟨rfl,rfl,rfl,rfl⟩:=H
 go_in
 go_wp2_with (first|((with_reducible refine gate_dst (N:=4) rfl ?_);refine bx 4 (cs:=#[.string (⟨#[]⟩:ByteArray),.int .i64 0,.int .i64 0,.string (⟨#[]⟩:ByteArray)]) (t:=94) ?_;intro gb448 hg w3 hbox hb;have BK448:=am (hbox);have GW448:=am ((gs hg (bs HB)));have GE448:=am ((gs hg (bs HB)));replace HB:=am (below_step (bs HB) hb);clear hb hbox hg;have hcz4:=cf4 BK448))
 refine bodyPost_ret (results_cell_row rfl _ _ gb448 94 #[.string a0,.int .i64 1,.int .i64 20,.string a1] (0,0) _ rfl (kp BK448) Tryz.underlying94 rfl (by kernel_rfl)) rfl ?_
 exact ⟨ff,bs HB⟩
end Go.Proofs.YtogkcllenfkdmaaGreatDoor.QR
