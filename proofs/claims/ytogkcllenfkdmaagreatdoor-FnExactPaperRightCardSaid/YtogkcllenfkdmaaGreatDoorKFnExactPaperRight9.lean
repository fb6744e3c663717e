-- Merged by a program of this session (wip/tool/pack.py) out of its own texts for this claim.
import Derived.Test.YtogkcllenfkdmaaGreatDoorKFnExactPaperRight0
import Derived.Test.YtogkcllenfkdmaaGreatDoorKFnExactPaperRight1
import Derived.Test.YtogkcllenfkdmaaGreatDoorKFnExactPaperRight2
import Derived.Test.YtogkcllenfkdmaaGreatDoorKFnExactPaperRight3
import Derived.Test.YtogkcllenfkdmaaGreatDoorKFnExactPaperRight4
import Derived.Test.YtogkcllenfkdmaaGreatDoorKFnExactPaperRight6
import Derived.Test.YtogkcllenfkdmaaGreatDoorKFnExactPaperRight7
import Derived.Test.YtogkcllenfkdmaaGreatDoorKFnExactPaperRight8
namespace Go.Proofs.YtogkcllenfkdmaaGreatDoor.QR
open Go.RowKit Go.Proofs.YtogkcllenfkdmaaGreatDoorW.PrintWords Go.Proofs.YtogkcllenfkdmaaGreatDoorW.PrintLast Go.Proofs.YtogkcllenfkdmaaGreatDoorW.PrintMore
attribute [local go_sem] max2_int min2_int max_two min_two max_three min_three max_four min_four   -- for this text's walks alone
set_option linter.unusedVariables false
set_option linter.unusedSimpArgs false
def spec_FormRight.T21:Bool × List (List Nat × List Nat):=(true,[([],[]),([],[]),([1],[1]),([2],[2]),([0,3],[0,3]),([4],[4]),([5],[5]),([5],[5]),([7,5],[5,7]),([6,8,5],[5,6,8]),([5,9],[5,9]),([10,5],[10]),([11],[11]),([11],[11]),([12,13,11],[11,12,13]),([14,11],[11,14]),([11],[11]),([16,11],[11,16]),([11],[11]),([17,18,11],[11,17,18]),([19,11],[11,19]),([15,20,11,11],[11,15,20]),([21,11],[11,21]),([11,22],[11,22])])
def spec_FormRight.B21:List Nat:=[0,0,2,6,15,31,63,63,191,511,1023,2047,4095,4095,16383,32767,4095,69631,4095,462847,987135,2097151,4194303,8388607]
theorem spec_FormRight.tab21:rtab .any (opsOf Tryz.f96 21)=spec_FormRight.T21:=by kernel_rfl
theorem spec_FormRight.bits21:waitsOk spec_FormRight.T21.2 spec_FormRight.B21=true:=by kernel_rfl
set_option maxHeartbeats 8000000 in
set_option maxRecDepth 100000 in
theorem spec_FormRight.calls (k:Nat) (a0:ByteArray) (a1_0:ByteArray) (A1_1:Option Addr) (c1_1:Nat) (l1_1:List (S103)) (r:Int) (w:World) (hr1_1:Kd.C k103 w A1_1 l1_1.length l1_1) (hc1_1:l1_1.length≤c1_1) (H:spec_FormRight.f k a0 a1_0 l1_1=some r) :
  Calls Tryz.prog 96 #[.string a0,.agg #[.string a1_0,.slice A1_1 l1_1.length c1_1]] w fun e w'=>e=.returned (.int .i64 r)∧Below w.heap.size w w':=by
 have hu62:=Tryz.underlying62;have hu103:=Tryz.underlying103;have HR1_1:=am hr1_1;have HC1_1:=am hc1_1;clear hr1_1 hc1_1;have HB:=am (Below.refl w.heap.size w);unfold spec_FormRight.f at H
 revert H;refine ip2 ?_ ?_
 ·intro c3 H;have c3b0:decide (20000<(a0.size:Int))=true:=decide_eq_true c3;have c3b1:decide (20000<a0.size)=true:=decide_eq_true (by omega);clear c3;obtain rfl:=si H
  go_in
  go_wp2_with (first|((with_reducible refine gate_dst (N:=3) rfl ?_);(try (refine gate_guard (by rfl) ?_;dsimp only));refine bx 3 (cs:=#[.string a1_0,.slice A1_1 l1_1.length c1_1]) (t:=62) ?_;intro gb297 hg w4 hbox hb;have BK297:=am (hbox);have GW297:=am ((gs hg (bs HB)));have GE297:=am ((gs hg (bs HB)));replace HB:=am (below_step (bs HB) hb);clear hb hbox hg))
  go_ret
  exact ⟨ff,bs HB⟩
 ·intro c3 H;have c3b0:decide (20000<(a0.size:Int))=false:=decide_eq_false c3;have c3b1:decide (20000<a0.size)=false:=decide_eq_false (by omega);clear c3;obtain ⟨y298,hy298⟩:∃ y_:List Int,y_=(([]:List Int)):=⟨_,rfl⟩
  replace H:(spec_FormRight.l0 k a0 y298 (-1) 0 a1_0 l1_1)=some r:=ye hy298 H
  have Ny298:=am hy298;clear hy298;have H':=am H;clear H
  go_in
  go_wp2_with (first|((with_reducible refine gate_dst (N:=3) rfl ?_);(try (refine gate_guard (by rfl) ?_;dsimp only));refine bx 3 (cs:=#[.string a1_0,.slice A1_1 l1_1.length c1_1]) (t:=62) ?_;intro gb297 hg w5 hbox hb;have BK297:=am (hbox);have GW297:=am ((gs hg (bs HB)));have GE297:=am ((gs hg (bs HB)));replace HB:=am (below_step (bs HB) hb);clear hb hbox hg)|((with_reducible refine gate_dst (N:=13) rfl ?_);(try (refine gate_guard (by rfl) ?_;dsimp only));refine Kd.R_lit (Kd.int .u8) _ 5 ?hg (N:=13) ?hd (xs:=([]:List Int)) (inner:=[]) (ok:=fun _=>True) (okp:=fun _=>True) ?hr ?hp (fun _ hk=>hk) trivial (Below.refl _ _) (Nat.le_refl _) (by simp) ?_;(case hd=>rfl);(case hg=>rfl);(case hr=>first|(go_simp;done)|(go_simp;rfl));(case hp=>exact (Reps.none _ _));intro v299 w6 ho7 hb hg_ hnew_;clear hg_ hnew_;(first|rw [← Ny298.out] at ho7|(simp only [Int.reduceToNat] at ho7;rw [← Ny298.out] at ho7));have HO300:=am (Kd.R_lower ho7 (below_size (bs HB)));replace BK297:=am (blk_below (ks BK297) hb);replace HB:=am (below_step (bs HB) hb);clear hb ho7))
  go_loopg [5,6,7] k (fun kq v5 v6 v7 w'=>∃ (x5_1:List Int) (x6_1:Int) (x7_1:Int),v6=.int .i64 x6_1∧v7=.int .i64 x7_1∧Aside0 (spec_FormRight.l0 kq a0 x5_1 x6_1 x7_1 a1_0 l1_1=some r)∧Aside0 (kq≤k)∧Aside0 (Kd.R (Kd.int .u8) 5 w' w.heap.size (fun _=>True) v5 x5_1)∧Aside0 (w'.heap[gb297]? = some (.cells #[.string a1_0,(.slice A1_1 l1_1.length c1_1)] 62 (0,0)))∧Aside0 (Below w.heap.size w w'))
  case atStart=>exact ⟨(y298),((-1)),(0),fg,fg,H',⟨Nat.le_refl _⟩,⟨by (with_reducible repeat (first|apply Kd.R_alloc|apply Kd.R_drewN|apply Kd.R_drew));exact HO300.out⟩,⟨ks BK297⟩,⟨bs HB⟩⟩
  case round =>
   clear H'
   try clear c3
   try clear c3b0
   try clear c3b1
   obtain ⟨x5_1,x6_1,x7_1,rfl,rfl,HA,HK1,HO_5,BK297,HB⟩:=hrel
   cases gk with
   | zero=>exact absurd HA.out (by simp [spec_FormRight.l0])
   | succ k1 =>
    have H:=HA.out;clear HA;simp only [spec_FormRight.l0] at H
    revert H;refine id2 ?_ ?_
    ·intro c8b0 H
     revert H;refine id1 ?_
     intro c9b0 H
     revert H;refine ie2 ?_ ?_
     ·intro c11b0 c11b1 H
      revert H;refine ip2 ?_ ?_
      ·intro c12 H;have c12b0:decide (0≤x6_1)=true:=decide_eq_true c12;clear c12;obtain rfl:=si H;have p10:0≤(x7_1:Int):=oa;have q10:x7_1<(a0.size:Int):=oa;have hx10:=bt_at a0 x7_1;replace p10:=eq_true p10;replace q10:=eq_true q10
       go_wp2
       go_ret
       exact ⟨ff,bs HB⟩
      ·intro c12 H;have c12b0:decide (0≤x6_1)=false:=decide_eq_false c12;clear c12;have H':=am H;clear H;have p10:0≤(x7_1:Int):=oa;have q10:x7_1<(a0.size:Int):=oa;have hx10:=bt_at a0 x7_1;replace p10:=eq_true p10;replace q10:=eq_true q10;obtain ⟨Ao13,co13,eo13⟩:=Kd.R_slice HO_5.out;subst eo13
       go_wp2
       go_roundg k1
       case measure=>have:=HK1.out;omega
       case rel=>exact ⟨(x5_1),((x5_1.length:Int)),(wrap64 (x7_1+1)),fg,fg,H',⟨by have:=HK1.out;omega⟩,⟨by (with_reducible repeat (first|apply Kd.R_alloc|apply Kd.R_drewN|apply Kd.R_drew));exact HO_5.out⟩,⟨ks BK297⟩,⟨bs HB⟩⟩
     ·intro c11 c11b0 c11b1 H
      revert H;refine ie2 ?_ ?_
      ·intro c14b0 c14b1 H
       revert H;refine ip1 ?_
       intro c15 H;have LMc15:=am c15;clear c15;obtain ⟨y301,hy301⟩:∃ y_:List Int,y_=(x5_1++[bt a0 x7_1]):=⟨_,rfl⟩
       replace H:(spec_FormRight.l0 k1 a0 y301 x6_1 (wrap64 (x7_1+1)) a1_0 l1_1)=some r:=ye hy301 H
       have Ny301:=am hy301;clear hy301;have H':=am H;clear H;have p10:0≤(x7_1:Int):=oa;have q10:x7_1<(a0.size:Int):=oa;have hx10:=bt_at a0 x7_1;replace p10:=eq_true p10;replace q10:=eq_true q10
       go_wp2_with (first|((with_reducible refine gate_builtin (b:=.append) (xs:=#[.tmp 51,.tmp 53]) rfl ?_);(try (refine gate_guard (by rfl) ?_;dsimp only));at_builtin;refine Kd.R_append (Kd.int .u8) (w0:=w) w.heap.size rfl (.tmp 51) (.tmp 53) 49 5 (.int .u8 0) 1 rfl Tryz.underlying49 info5 rfl (by decide) (by omega) u5 x5_1 (bt a0 x7_1) [.int .u8 (bt a0 x7_1)] (fun _=>True) (fun _=>False) rfl rfl ?aP (fun _ hk=>hk.elim) ?aF ?aO ?aB ?aS ?aL ?_;(case aP=>exact rfl);(case aB=>exact (bs HB));(case aF=>exact (fun _ _=>trivial));(case aO=>exact (rs HO_5));(case aS=>exact (below_size (bs HB)));(case aL=>have:=LMc15.out;omega);intro v302 w16 ho hb hg hat;rw [← Ny301.out] at ho;have n0_:=am (blk_grown (ks BK297) hg (Kd.R_ne HO_5.out BK297.out (by decide)));have n1_:=am (hb);have n2_:=am (ho);clear BK297;clear HB;clear HO_5;have BK297:=n0_;have HB:=n1_;have HO303:=n2_;clear n0_ n1_ n2_;clear ho hb hg hat))
       go_roundg k1
       case measure=>have:=HK1.out;omega
       case rel=>exact ⟨(y301),(x6_1),(wrap64 (x7_1+1)),fg,fg,H',⟨by have:=HK1.out;omega⟩,⟨by (with_reducible repeat (first|apply Kd.R_alloc|apply Kd.R_drewN|apply Kd.R_drew));exact HO303.out⟩,⟨ks BK297⟩,⟨bs HB⟩⟩
      ·intro c14 c14b0 c14b1 H
       revert H;refine ie2 ?_ ?_
       ·intro c17b0 c17b1 H
        revert H;refine ip1 ?_
        intro c18 H;have LMc18:=am c18;clear c18;obtain ⟨y304,hy304⟩:∃ y_:List Int,y_=(x5_1++[bt a0 x7_1]):=⟨_,rfl⟩
        replace H:(spec_FormRight.l0 k1 a0 y304 x6_1 (wrap64 (x7_1+1)) a1_0 l1_1)=some r:=ye hy304 H
        have Ny304:=am hy304;clear hy304;have H':=am H;clear H;have p10:0≤(x7_1:Int):=oa;have q10:x7_1<(a0.size:Int):=oa;have hx10:=bt_at a0 x7_1;replace p10:=eq_true p10;replace q10:=eq_true q10
        go_wp2_with (first|((with_reducible refine gate_builtin (b:=.append) (xs:=#[.tmp 51,.tmp 53]) rfl ?_);(try (refine gate_guard (by rfl) ?_;dsimp only));at_builtin;refine Kd.R_append (Kd.int .u8) (w0:=w) w.heap.size rfl (.tmp 51) (.tmp 53) 49 5 (.int .u8 0) 1 rfl Tryz.underlying49 info5 rfl (by decide) (by omega) u5 x5_1 (bt a0 x7_1) [.int .u8 (bt a0 x7_1)] (fun _=>True) (fun _=>False) rfl rfl ?aP (fun _ hk=>hk.elim) ?aF ?aO ?aB ?aS ?aL ?_;(case aP=>exact rfl);(case aB=>exact (bs HB));(case aF=>exact (fun _ _=>trivial));(case aO=>exact (rs HO_5));(case aS=>exact (below_size (bs HB)));(case aL=>have:=LMc18.out;omega);intro v305 w19 ho hb hg hat;rw [← Ny304.out] at ho;have n0_:=am (blk_grown (ks BK297) hg (Kd.R_ne HO_5.out BK297.out (by decide)));have n1_:=am (hb);have n2_:=am (ho);clear BK297;clear HB;clear HO_5;have BK297:=n0_;have HB:=n1_;have HO306:=n2_;clear n0_ n1_ n2_;clear ho hb hg hat))
        go_roundg k1
        case measure=>have:=HK1.out;omega
        case rel=>exact ⟨(y304),(x6_1),(wrap64 (x7_1+1)),fg,fg,H',⟨by have:=HK1.out;omega⟩,⟨by (with_reducible repeat (first|apply Kd.R_alloc|apply Kd.R_drewN|apply Kd.R_drew));exact HO306.out⟩,⟨ks BK297⟩,⟨bs HB⟩⟩
       ·intro c17 c17b0 c17b1 H
        revert H;refine ie2 ?_ ?_
        ·intro c20b0 c20b1 H
         revert H;refine ip1 ?_
         intro c21 H;have LMc21:=am c21;clear c21;obtain ⟨y307,hy307⟩:∃ y_:List Int,y_=(x5_1++[bt a0 x7_1]):=⟨_,rfl⟩
         replace H:(spec_FormRight.l0 k1 a0 y307 x6_1 (wrap64 (x7_1+1)) a1_0 l1_1)=some r:=ye hy307 H
         have Ny307:=am hy307;clear hy307;have H':=am H;clear H;have p10:0≤(x7_1:Int):=oa;have q10:x7_1<(a0.size:Int):=oa;have hx10:=bt_at a0 x7_1;replace p10:=eq_true p10;replace q10:=eq_true q10
         go_wp2_with (first|((with_reducible refine gate_builtin (b:=.append) (xs:=#[.tmp 51,.tmp 53]) rfl ?_);(try (refine gate_guard (by rfl) ?_;dsimp only));at_builtin;refine Kd.R_append (Kd.int .u8) (w0:=w) w.heap.size rfl (.tmp 51) (.tmp 53) 49 5 (.int .u8 0) 1 rfl Tryz.underlying49 info5 rfl (by decide) (by omega) u5 x5_1 (bt a0 x7_1) [.int .u8 (bt a0 x7_1)] (fun _=>True) (fun _=>False) rfl rfl ?aP (fun _ hk=>hk.elim) ?aF ?aO ?aB ?aS ?aL ?_;(case aP=>exact rfl);(case aB=>exact (bs HB));(case aF=>exact (fun _ _=>trivial));(case aO=>exact (rs HO_5));(case aS=>exact (below_size (bs HB)));(case aL=>have:=LMc21.out;omega);intro v308 w22 ho hb hg hat;rw [← Ny307.out] at ho;have n0_:=am (blk_grown (ks BK297) hg (Kd.R_ne HO_5.out BK297.out (by decide)));have n1_:=am (hb);have n2_:=am (ho);clear BK297;clear HB;clear HO_5;have BK297:=n0_;have HB:=n1_;have HO309:=n2_;clear n0_ n1_ n2_;clear ho hb hg hat))
         go_roundg k1
         case measure=>have:=HK1.out;omega
         case rel=>exact ⟨(y307),(x6_1),(wrap64 (x7_1+1)),fg,fg,H',⟨by have:=HK1.out;omega⟩,⟨by (with_reducible repeat (first|apply Kd.R_alloc|apply Kd.R_drewN|apply Kd.R_drew));exact HO309.out⟩,⟨ks BK297⟩,⟨bs HB⟩⟩
        ·intro c20 c20b0 c20b1 H
         revert H;refine ie2 ?_ ?_
         ·intro c23b0 c23b1 H
          revert H;refine ip1 ?_
          intro c24 H;have LMc24:=am c24;clear c24;obtain ⟨y310,hy310⟩:∃ y_:List Int,y_=(x5_1++[bt a0 x7_1]):=⟨_,rfl⟩
          replace H:(spec_FormRight.l0 k1 a0 y310 x6_1 (wrap64 (x7_1+1)) a1_0 l1_1)=some r:=ye hy310 H
          have Ny310:=am hy310;clear hy310;have H':=am H;clear H;have p10:0≤(x7_1:Int):=oa;have q10:x7_1<(a0.size:Int):=oa;have hx10:=bt_at a0 x7_1;replace p10:=eq_true p10;replace q10:=eq_true q10
          go_wp2_with (first|((with_reducible refine gate_builtin (b:=.append) (xs:=#[.tmp 51,.tmp 53]) rfl ?_);(try (refine gate_guard (by rfl) ?_;dsimp only));at_builtin;refine Kd.R_append (Kd.int .u8) (w0:=w) w.heap.size rfl (.tmp 51) (.tmp 53) 49 5 (.int .u8 0) 1 rfl Tryz.underlying49 info5 rfl (by decide) (by omega) u5 x5_1 (bt a0 x7_1) [.int .u8 (bt a0 x7_1)] (fun _=>True) (fun _=>False) rfl rfl ?aP (fun _ hk=>hk.elim) ?aF ?aO ?aB ?aS ?aL ?_;(case aP=>exact rfl);(case aB=>exact (bs HB));(case aF=>exact (fun _ _=>trivial));(case aO=>exact (rs HO_5));(case aS=>exact (below_size (bs HB)));(case aL=>have:=LMc24.out;omega);intro v311 w25 ho hb hg hat;rw [← Ny310.out] at ho;have n0_:=am (blk_grown (ks BK297) hg (Kd.R_ne HO_5.out BK297.out (by decide)));have n1_:=am (hb);have n2_:=am (ho);clear BK297;clear HB;clear HO_5;have BK297:=n0_;have HB:=n1_;have HO312:=n2_;clear n0_ n1_ n2_;clear ho hb hg hat))
          go_roundg k1
          case measure=>have:=HK1.out;omega
          case rel=>exact ⟨(y310),(x6_1),(wrap64 (x7_1+1)),fg,fg,H',⟨by have:=HK1.out;omega⟩,⟨by (with_reducible repeat (first|apply Kd.R_alloc|apply Kd.R_drewN|apply Kd.R_drew));exact HO312.out⟩,⟨ks BK297⟩,⟨bs HB⟩⟩
         ·intro c23 c23b0 c23b1 H
          revert H;refine ie2 ?_ ?_
          ·intro c26b0 c26b1 H
           revert H;refine ip1 ?_
           intro c27 H;have LMc27:=am c27;clear c27;obtain ⟨y313,hy313⟩:∃ y_:List Int,y_=(x5_1++[bt a0 x7_1]):=⟨_,rfl⟩
           replace H:(spec_FormRight.l0 k1 a0 y313 x6_1 (wrap64 (x7_1+1)) a1_0 l1_1)=some r:=ye hy313 H
           have Ny313:=am hy313;clear hy313;have H':=am H;clear H;have p10:0≤(x7_1:Int):=oa;have q10:x7_1<(a0.size:Int):=oa;have hx10:=bt_at a0 x7_1;replace p10:=eq_true p10;replace q10:=eq_true q10
           go_wp2_with (first|((with_reducible refine gate_builtin (b:=.append) (xs:=#[.tmp 51,.tmp 53]) rfl ?_);(try (refine gate_guard (by rfl) ?_;dsimp only));at_builtin;refine Kd.R_append (Kd.int .u8) (w0:=w) w.heap.size rfl (.tmp 51) (.tmp 53) 49 5 (.int .u8 0) 1 rfl Tryz.underlying49 info5 rfl (by decide) (by omega) u5 x5_1 (bt a0 x7_1) [.int .u8 (bt a0 x7_1)] (fun _=>True) (fun _=>False) rfl rfl ?aP (fun _ hk=>hk.elim) ?aF ?aO ?aB ?aS ?aL ?_;(case aP=>exact rfl);(case aB=>exact (bs HB));(case aF=>exact (fun _ _=>trivial));(case aO=>exact (rs HO_5));(case aS=>exact (below_size (bs HB)));(case aL=>have:=LMc27.out;omega);intro v314 w28 ho hb hg hat;rw [← Ny313.out] at ho;have n0_:=am (blk_grown (ks BK297) hg (Kd.R_ne HO_5.out BK297.out (by decide)));have n1_:=am (hb);have n2_:=am (ho);clear BK297;clear HB;clear HO_5;have BK297:=n0_;have HB:=n1_;have HO315:=n2_;clear n0_ n1_ n2_;clear ho hb hg hat))
           go_roundg k1
           case measure=>have:=HK1.out;omega
           case rel=>exact ⟨(y313),(x6_1),(wrap64 (x7_1+1)),fg,fg,H',⟨by have:=HK1.out;omega⟩,⟨by (with_reducible repeat (first|apply Kd.R_alloc|apply Kd.R_drewN|apply Kd.R_drew));exact HO315.out⟩,⟨ks BK297⟩,⟨bs HB⟩⟩
          ·intro c26 c26b0 c26b1 H
           revert H;refine ie2 ?_ ?_
           ·intro c29b0 c29b1 H
            revert H;refine ip1 ?_
            intro c30 H;have LMc30:=am c30;clear c30;obtain ⟨y316,hy316⟩:∃ y_:List Int,y_=(x5_1++[bt a0 x7_1]):=⟨_,rfl⟩
            replace H:(spec_FormRight.l0 k1 a0 y316 x6_1 (wrap64 (x7_1+1)) a1_0 l1_1)=some r:=ye hy316 H
            have Ny316:=am hy316;clear hy316;have H':=am H;clear H;have p10:0≤(x7_1:Int):=oa;have q10:x7_1<(a0.size:Int):=oa;have hx10:=bt_at a0 x7_1;replace p10:=eq_true p10;replace q10:=eq_true q10
            go_wp2_with (first|((with_reducible refine gate_builtin (b:=.append) (xs:=#[.tmp 51,.tmp 53]) rfl ?_);(try (refine gate_guard (by rfl) ?_;dsimp only));at_builtin;refine Kd.R_append (Kd.int .u8) (w0:=w) w.heap.size rfl (.tmp 51) (.tmp 53) 49 5 (.int .u8 0) 1 rfl Tryz.underlying49 info5 rfl (by decide) (by omega) u5 x5_1 (bt a0 x7_1) [.int .u8 (bt a0 x7_1)] (fun _=>True) (fun _=>False) rfl rfl ?aP (fun _ hk=>hk.elim) ?aF ?aO ?aB ?aS ?aL ?_;(case aP=>exact rfl);(case aB=>exact (bs HB));(case aF=>exact (fun _ _=>trivial));(case aO=>exact (rs HO_5));(case aS=>exact (below_size (bs HB)));(case aL=>have:=LMc30.out;omega);intro v317 w31 ho hb hg hat;rw [← Ny316.out] at ho;have n0_:=am (blk_grown (ks BK297) hg (Kd.R_ne HO_5.out BK297.out (by decide)));have n1_:=am (hb);have n2_:=am (ho);clear BK297;clear HB;clear HO_5;have BK297:=n0_;have HB:=n1_;have HO318:=n2_;clear n0_ n1_ n2_;clear ho hb hg hat))
            go_roundg k1
            case measure=>have:=HK1.out;omega
            case rel=>exact ⟨(y316),(x6_1),(wrap64 (x7_1+1)),fg,fg,H',⟨by have:=HK1.out;omega⟩,⟨by (with_reducible repeat (first|apply Kd.R_alloc|apply Kd.R_drewN|apply Kd.R_drew));exact HO318.out⟩,⟨ks BK297⟩,⟨bs HB⟩⟩
           ·intro c29 c29b0 c29b1 H;obtain rfl:=si H;have p10:0≤(x7_1:Int):=oa;have q10:x7_1<(a0.size:Int):=oa;have hx10:=bt_at a0 x7_1;replace p10:=eq_true p10;replace q10:=eq_true q10
            go_wp2
            go_ret
            exact ⟨ff,bs HB⟩
    ·intro c8b0 H;have HC32:=am H;clear H
     go_upto_if 56 with (fail)
     go_cut [6] (fun v6 wc=>∃ (kq:Nat) (x6_31:Int),v6=.int .i64 x6_31∧Aside0 (spec_FormRight.j1 kq x5_1 x6_31 a1_0 l1_1=some r)∧Aside0 (kq≤k1)∧Aside0 (Kd.R (Kd.int .u8) 5 wc w.heap.size (fun _=>True) u5 x5_1)∧Aside0 (wc.heap[gb297]? = some (.cells #[.string a1_0,(.slice A1_1 l1_1.length c1_1)] 62 (0,0)))∧Aside0 (Below w.heap.size w wc))
     case first =>
      have H:=HC32.out;clear HC32
      revert H;refine id2 ?_ ?_
      ·intro c33b0 H
       (first|rw [c33b0]|(simp only [i64_w,i32_w];rw [c33b0])|skip)
       have H':=am H;clear H;obtain ⟨Ao34,co34,eo34⟩:=Kd.R_slice HO_5.out;subst eo34
       go_wp2
       go_meet
       case rel=>exact ⟨_,((x5_1.length:Int)),fg,H',⟨by have:=HK1.out;first|omega|exact Nat.le_refl _⟩,⟨by (with_reducible repeat (first|apply Kd.R_alloc|apply Kd.R_drewN|apply Kd.R_drew));exact HO_5.out⟩,⟨ks BK297⟩,⟨bs HB⟩⟩
      ·intro c33b0 H
       (first|rw [c33b0]|(simp only [i64_w,i32_w];rw [c33b0])|skip)
       have H':=am H;clear H
       go_wp2
       go_meet
       case rel=>exact ⟨_,(x6_1),fg,H',⟨by have:=HK1.out;first|omega|exact Nat.le_refl _⟩,⟨by (with_reducible repeat (first|apply Kd.R_alloc|apply Kd.R_drewN|apply Kd.R_drew));exact HO_5.out⟩,⟨ks BK297⟩,⟨bs HB⟩⟩
     case rest =>
      clear HC32
      try clear c3
      try clear c3b0
      try clear c3b1
      try clear c8b0
      obtain ⟨kq,x6_31,rfl,HA,HJ31,HO_5,BK297,HB⟩:=hcut
      cases kq with
      | zero=>exact absurd HA.out (by simp [spec_FormRight.j1])
      | succ kj31 =>
       have H:=HA.out;clear HA;simp only [spec_FormRight.j1] at H;have H':=am H;clear H
       go_wp2
       go_loopg [9] kj31 (fun kq v9 w'=>∃ (x9_3:Int),v9=.int .i64 x9_3∧Aside0 (spec_FormRight.l1 kq x5_1 x6_31 x9_3 a1_0 l1_1=some r)∧Aside0 (kq≤kj31)∧Aside0 (Kd.R (Kd.int .u8) 5 w' w.heap.size (fun _=>True) u5 x5_1)∧Aside0 (w'.heap[gb297]? = some (.cells #[.string a1_0,(.slice A1_1 l1_1.length c1_1)] 62 (0,0)))∧Aside0 (Below w.heap.size w w'))
       case atStart=>exact ⟨(0),fg,H',⟨Nat.le_refl _⟩,⟨by (with_reducible repeat (first|apply Kd.R_alloc|apply Kd.R_drewN|apply Kd.R_drew));exact HO_5.out⟩,⟨ks BK297⟩,⟨bs HB⟩⟩
       case round =>
        clear H'
        try clear c3
        try clear c3b0
        try clear c3b1
        try clear c8b0
        obtain ⟨x9_3,rfl,HA,HK3,HO_5,BK297,HB⟩:=hrel
        cases gk with
        | zero=>exact absurd HA.out (by simp [spec_FormRight.l1])
        | succ k3 =>
         have H:=HA.out;clear HA;simp only [spec_FormRight.l1] at H;have HC35:=am H;clear H
         go_upto_region 19 with (fail)
         go_cut [68] (fun v68 wc=>∃ (kq:Nat) (x68_34:Bool),v68=.bool x68_34∧Aside0 (spec_FormRight.j3 kq x5_1 x6_31 x9_3 x68_34 a1_0 l1_1=some r)∧Aside0 (kq≤k3)∧Aside0 (Kd.R (Kd.int .u8) 5 wc w.heap.size (fun _=>True) u5 x5_1)∧Aside0 (wc.heap[gb297]? = some (.cells #[.string a1_0,(.slice A1_1 l1_1.length c1_1)] 62 (0,0)))∧Aside0 (Below w.heap.size w wc))
         case first =>
          have H:=HC35.out;clear HC35
          revert H;refine id2 ?_ ?_
          ·intro c36b0 H
           (first|rw [c36b0]|(simp only [i64_w,i32_w];rw [c36b0])|skip)
           have H':=am H;clear H;have hcz37:=cf2 BK297
           go_wp2
           go_meet
           case rel=>exact ⟨_,(true),fg,H',⟨by have:=HK1.out;have:=HJ31.out;have:=HK3.out;first|omega|exact Nat.le_refl _⟩,⟨by (with_reducible repeat (first|apply Kd.R_alloc|apply Kd.R_drewN|apply Kd.R_drew));exact HO_5.out⟩,⟨ks BK297⟩,⟨bs HB⟩⟩
          ·intro c36b0 H
           (first|rw [c36b0]|(simp only [i64_w,i32_w];rw [c36b0])|skip)
           have H':=am H;clear H;have hcz38:=cf2 BK297
           go_wp2
           go_meet
           case rel=>exact ⟨_,(decide (x9_3<x6_31)),fg,H',⟨by have:=HK1.out;have:=HJ31.out;have:=HK3.out;first|omega|exact Nat.le_refl _⟩,⟨by (with_reducible repeat (first|apply Kd.R_alloc|apply Kd.R_drewN|apply Kd.R_drew));exact HO_5.out⟩,⟨ks BK297⟩,⟨bs HB⟩⟩
         case rest =>
          clear HC35
          try clear c3
          try clear c3b0
          try clear c3b1
          try clear c8b0
          obtain ⟨kq,x68_34,rfl,HA,HJ34,HO_5,BK297,HB⟩:=hcut
          cases kq with
          | zero=>exact absurd HA.out (by simp [spec_FormRight.j3])
          | succ kj34 =>
           have H:=HA.out;clear HA;simp only [spec_FormRight.j3] at H
           obtain rfl|rfl:=bt x68_34
           ·replace H:=itT H
            revert H;refine ip2 ?_ ?_
            ·intro c40 H;have c40b0:decide ((l1_1.length:Int)≤x9_3)=true:=decide_eq_true c40;clear c40;obtain rfl:=si H
             try go_wp2
             replace HO_5:=am (Kd.R_drew HO_5.out);replace BK297:=am (blk_drew BK297.out);replace HB:=am (below_drew1 HB.out);refine sta 24 (hb2 BK297) (fun hHeld=>?_);refine with_tabW spec_FormRight.tab21 spec_FormRight.bits21 (fun HT_ HW_=>?_)
             generalize wc.drew=w41 at HO_5 BK297 HB hHeld ⊢
             refine pA 0 71 HT_ ?_;refine pA 1 72 HT_ ?_;refine tA 2 73 HT_ HW_ hHeld ?_;refine pA 3 74 HT_ ?_;refine pA 4 75 HT_ ?_;refine pA 5 76 HT_ ?_;refine pB 6 77 HT_ ?_;refine pB 7 78 HT_ ?_;refine pB 8 79 HT_ ?_;refine pB 9 80 HT_ ?_;refine pA 10 81 HT_ ?_;refine pA 11 82 HT_ ?_;refine pB 12 83 HT_ ?_;refine pB 13 84 HT_ ?_;refine pB 14 85 HT_ ?_;refine pB 15 86 HT_ ?_;refine pB 16 87 HT_ ?_;refine pB 17 88 HT_ ?_;refine pB 18 89 HT_ ?_;refine pB 19 90 HT_ ?_;refine pB 20 91 HT_ ?_;refine pB 21 92 HT_ ?_;refine pB 22 93 HT_ ?_;refine pA 23 94 HT_ ?_;refine done_ (done_of HT_.out (by kernel_rfl)) ?_
             try go_wp2
             go_ret
             exact ⟨ff,bs HB⟩
            ·intro c40 H;have c40b0:decide ((l1_1.length:Int)≤x9_3)=false:=decide_eq_false c40;clear c40
             revert H;refine ip2 ?_ ?_
             ·intro c42 H;have c42b0:decide ((x5_1.length:Int)≤x9_3)=true:=decide_eq_true c42;clear c42;obtain rfl:=si H
              try go_wp2
              replace HO_5:=am (Kd.R_drew HO_5.out);replace BK297:=am (blk_drew BK297.out);replace HB:=am (below_drew1 HB.out);obtain ⟨Ao44,co44,eo44⟩:=Kd.R_slice HO_5.out
              (first|subst eo44|(injection eo44 with f1_ f2_ f3_;have f4_:=f1_.symm;have f5_:=f3_.symm;clear f1_ f2_ f3_;subst f4_;subst f5_))
              refine sta 24 (hb2 BK297) (fun hHeld=>?_);refine with_tabW spec_FormRight.tab21 spec_FormRight.bits21 (fun HT_ HW_=>?_)
              generalize wc.drew=w43 at HO_5 BK297 HB hHeld ⊢
              refine pA 0 71 HT_ ?_;refine pA 1 72 HT_ ?_;refine tA 2 73 HT_ HW_ hHeld ?_;refine pA 3 74 HT_ ?_;refine pA 4 75 HT_ ?_;refine pA 5 76 HT_ ?_;refine pA 6 77 HT_ ?_;refine pA 7 78 HT_ ?_;refine pA 8 79 HT_ ?_;refine pA 9 80 HT_ ?_;refine pA 10 81 HT_ ?_;refine pA 11 82 HT_ ?_;refine pB 12 83 HT_ ?_;refine pB 13 84 HT_ ?_;refine pB 14 85 HT_ ?_;refine pB 15 86 HT_ ?_;refine pB 16 87 HT_ ?_;refine pB 17 88 HT_ ?_;refine pB 18 89 HT_ ?_;refine pB 19 90 HT_ ?_;refine pB 20 91 HT_ ?_;refine pB 21 92 HT_ ?_;refine pB 22 93 HT_ ?_;refine pA 23 94 HT_ ?_;refine done_ (done_of HT_.out (by kernel_rfl)) ?_
              try go_wp2
              go_ret
              exact ⟨ff,bs HB⟩
             ·intro c42 H;have c42b0:decide ((x5_1.length:Int)≤x9_3)=false:=decide_eq_false c42;clear c42
              revert H;refine id1 ?_
              intro c45b0 H
              revert H;refine id1 ?_
              intro c46b0 H
              revert H;refine id1 ?_
              intro c47b0 H;replace H:=bo H;obtain ⟨t321,A48,H⟩:=H
              obtain rfl|rfl:=bt t321
              ·replace H:=itT H;have H':=am H;clear H
               try go_wp2
               replace HO_5:=am (Kd.R_drew HO_5.out);replace BK297:=am (blk_drew BK297.out);replace HB:=am (below_drew1 HB.out);obtain ⟨Ao51,co51,eo51⟩:=Kd.R_slice HO_5.out
               (first|subst eo51|(injection eo51 with f1_ f2_ f3_;have f4_:=f1_.symm;have f5_:=f3_.symm;clear f1_ f2_ f3_;subst f4_;subst f5_))
               have p319:0≤(x9_3:Int):=oa;have q319:x9_3<(x5_1.length:Int):=oa;obtain ⟨ad319,e319,hx319_0⟩:=Kd.at_int (Kd.R_reads' HO_5.out).2.2 x9_3 p319 q319
               cases e319
               replace p319:=eq_true p319;replace q319:=eq_true q319;have p320:0≤(x9_3:Int):=oa;have q320:x9_3<(l1_1.length:Int):=oa;obtain ⟨ad320,A320_0,c320_0,e320,hx320_0,hl320_0,hi320_0⟩:=at_T103 HR1_1.out x9_3 p320 q320;have hw320_0:=hx320_0
               cases e320
               replace hx320_0:=cb HB hx320_0;have HR320_0:=am hi320_0;have HC320_0:=am hl320_0;clear hi320_0 hl320_0;replace p320:=eq_true p320;replace q320:=eq_true q320;refine sta 24 (hb2a BK297 (hca hx319_0 (hc (cb HB hw320_0)))) (fun hHeld=>?_);refine with_tabW spec_FormRight.tab21 spec_FormRight.bits21 (fun HT_ HW_=>?_)
               generalize wc.drew=w50 at HO_5 BK297 HB HR320_0 hx319_0 hx320_0 hHeld ⊢
               refine pA 0 71 HT_ ?_;refine pA 1 72 HT_ ?_;refine tA 2 73 HT_ HW_ hHeld ?_;refine pA 3 74 HT_ ?_;refine pA 4 75 HT_ ?_;refine pA 5 76 HT_ ?_;refine pA 6 77 HT_ ?_;refine pA 7 78 HT_ ?_;refine pA 8 79 HT_ ?_;refine pA 9 80 HT_ ?_;refine pA 10 81 HT_ ?_;refine pA 11 82 HT_ ?_;refine pA 12 83 HT_ ?_;refine pA 13 84 HT_ ?_;refine pA 14 85 HT_ ?_;refine pA 16 87 HT_ ?_;refine pA 18 89 HT_ ?_;refine tA 15 86 HT_ HW_ hHeld ?_;refine tA 17 88 HT_ HW_ hHeld ?_;refine pA 19 90 HT_ ?_;refine tA 20 91 HT_ HW_ hHeld ?_;refine oA 21 92 HT_ (fun K hK=>?_);refine gA Tryz.func123 #[.int .u8 (rd x5_1 x9_3),.agg #[.slice A320_0 ((rd_T103 l1_1 x9_3).f0).length c320_0]] ?_;(with_reducible refine (spec_l04Element.calls kj34 (rd x5_1 x9_3) _ _ ((rd_T103 l1_1 x9_3).f0) true _ ?side1 ?side2 A48.out).mono ?_)
               (case side1=>repeat (first|exact (Kd.C_below HR320_0.out HB.out)|(with_reducible refine Kd.C_alloc ?_ _)|(with_reducible refine Kd.C_drewN ?_ _)|(with_reducible refine Kd.C_drew ?_)))
               (case side2=>exact HC320_0.out)
               rintro e w52 ⟨rfl,hb⟩;have HS2_:=(hb.cell (World.block_lt_of_cell? _ _ (hHeld.2.2.1))).trans (hHeld.2.2.1);refine ⟨_,rfl,?_⟩;replace HO_5:=am (Kd.R_below (rs HO_5) hb);replace BK297:=am (blk_below (ks BK297) hb);replace HB:=am (below_step (bs HB) hb);(try clear hb);(try clear hb2);(try clear hk);(try clear hi);refine hK.out _ _ (qb2a BK297 ⟨HS2_,((cb HB hw320_0).trans rfl)⟩) (fun hHeld=>?_);clear hK K;refine nA 92 ?_;refine pA 22 93 HT_ ?_;refine pA 23 94 HT_ ?_;refine done_ (done_of HT_.out (by kernel_rfl)) ?_
               try go_wp2
               go_roundg kj34
               case measure=>have:=HK1.out;have:=HJ31.out;have:=HK3.out;have:=HJ34.out;omega
               case rel=>exact ⟨(wrap64 (x9_3+1)),fg,H',⟨by have:=HK1.out;have:=HJ31.out;have:=HK3.out;have:=HJ34.out;omega⟩,⟨by (with_reducible repeat (first|apply Kd.R_alloc|apply Kd.R_drewN|apply Kd.R_drew));exact HO_5.out⟩,⟨ks BK297⟩,⟨bs HB⟩⟩
              ·replace H:=itF H;obtain rfl:=si H
               try go_wp2
               replace HO_5:=am (Kd.R_drew HO_5.out);replace BK297:=am (blk_drew BK297.out);replace HB:=am (below_drew1 HB.out);obtain ⟨Ao54,co54,eo54⟩:=Kd.R_slice HO_5.out
               (first|subst eo54|(injection eo54 with f1_ f2_ f3_;have f4_:=f1_.symm;have f5_:=f3_.symm;clear f1_ f2_ f3_;subst f4_;subst f5_))
               have p319:0≤(x9_3:Int):=oa;have q319:x9_3<(x5_1.length:Int):=oa;obtain ⟨ad319,e319,hx319_0⟩:=Kd.at_int (Kd.R_reads' HO_5.out).2.2 x9_3 p319 q319
               cases e319
               replace p319:=eq_true p319;replace q319:=eq_true q319;have p320:0≤(x9_3:Int):=oa;have q320:x9_3<(l1_1.length:Int):=oa;obtain ⟨ad320,A320_0,c320_0,e320,hx320_0,hl320_0,hi320_0⟩:=at_T103 HR1_1.out x9_3 p320 q320;have hw320_0:=hx320_0
               cases e320
               replace hx320_0:=cb HB hx320_0;have HR320_0:=am hi320_0;have HC320_0:=am hl320_0;clear hi320_0 hl320_0;replace p320:=eq_true p320;replace q320:=eq_true q320;refine sta 24 (hb2a BK297 (hca hx319_0 (hc (cb HB hw320_0)))) (fun hHeld=>?_);refine with_tabW spec_FormRight.tab21 spec_FormRight.bits21 (fun HT_ HW_=>?_)
               generalize wc.drew=w53 at HO_5 BK297 HB HR320_0 hx319_0 hx320_0 hHeld ⊢
               refine pA 0 71 HT_ ?_;refine pA 1 72 HT_ ?_;refine tA 2 73 HT_ HW_ hHeld ?_;refine pA 3 74 HT_ ?_;refine pA 4 75 HT_ ?_;refine pA 5 76 HT_ ?_;refine pA 6 77 HT_ ?_;refine pA 7 78 HT_ ?_;refine pA 8 79 HT_ ?_;refine pA 9 80 HT_ ?_;refine pA 10 81 HT_ ?_;refine pA 11 82 HT_ ?_;refine pA 12 83 HT_ ?_;refine pA 13 84 HT_ ?_;refine pA 14 85 HT_ ?_;refine pA 16 87 HT_ ?_;refine pA 18 89 HT_ ?_;refine tA 15 86 HT_ HW_ hHeld ?_;refine tA 17 88 HT_ HW_ hHeld ?_;refine pA 19 90 HT_ ?_;refine tA 20 91 HT_ HW_ hHeld ?_;refine oA 21 92 HT_ (fun K hK=>?_);refine gA Tryz.func123 #[.int .u8 (rd x5_1 x9_3),.agg #[.slice A320_0 ((rd_T103 l1_1 x9_3).f0).length c320_0]] ?_;(with_reducible refine (spec_l04Element.calls kj34 (rd x5_1 x9_3) _ _ ((rd_T103 l1_1 x9_3).f0) false _ ?side1 ?side2 A48.out).mono ?_)
               (case side1=>repeat (first|exact (Kd.C_below HR320_0.out HB.out)|(with_reducible refine Kd.C_alloc ?_ _)|(with_reducible refine Kd.C_drewN ?_ _)|(with_reducible refine Kd.C_drew ?_)))
               (case side2=>exact HC320_0.out)
               rintro e w55 ⟨rfl,hb⟩;have HS2_:=(hb.cell (World.block_lt_of_cell? _ _ (hHeld.2.2.1))).trans (hHeld.2.2.1);refine ⟨_,rfl,?_⟩;replace HO_5:=am (Kd.R_below (rs HO_5) hb);replace BK297:=am (blk_below (ks BK297) hb);replace HB:=am (below_step (bs HB) hb);(try clear hb);(try clear hb2);(try clear hk);(try clear hi);refine hK.out _ _ (qb2a BK297 ⟨HS2_,((cb HB hw320_0).trans rfl)⟩) (fun hHeld=>?_);clear hK K;refine nA 92 ?_;refine pA 22 93 HT_ ?_;refine pA 23 94 HT_ ?_;refine done_ (done_of HT_.out (by kernel_rfl)) ?_
               try go_wp2
               go_ret
               exact ⟨ff,bs HB⟩
           ·replace H:=itF H;obtain rfl:=si H
            go_wp2
            go_ret
            exact ⟨ff,bs HB⟩
def spec_TableCheck.T11:Bool × List (List Nat × List Nat):=(true,[([],[]),([],[]),([],[]),([1,2],[1,2]),([3],[3]),([4],[4]),([0,5],[0,5]),([6],[6]),([7],[7]),([7],[7]),([9,7],[7,9]),([8,10,7],[7,8,10]),([7,11],[7,11]),([12,7],[12]),([13],[13]),([13],[13]),([14,15,13],[13,14,15]),([16,13],[13,16]),([17,13],[13,17]),([13],[13]),([13],[13]),([19,20,13],[13,19,20]),([21,13],[13,21]),([22,13],[13,22]),([18,23,13],[13,18,23]),([13,24],[13,24])])
def spec_TableCheck.B11:List Nat:=[0,0,0,6,14,30,63,127,255,255,767,2047,4095,8191,16383,16383,65535,131071,262143,16383,16383,1589247,3686399,7880703,16777215,33554431]
theorem spec_TableCheck.tab11:rtab .any (opsOf Tryz.f48 11)=spec_TableCheck.T11:=by kernel_rfl
theorem spec_TableCheck.bits11:waitsOk spec_TableCheck.T11.2 spec_TableCheck.B11=true:=by kernel_rfl
def spec_TableCheck.T12:Bool × List (List Nat × List Nat):=(true,[([],[]),([],[]),([0,1],[0,1]),([2],[2]),([3],[3]),([],[]),([],[]),([5,6],[5,6]),([7],[7]),([4,8],[4,8]),([9,9,0,1,2,3,4,5,6,7,8,9],[9])])
def spec_TableCheck.B12:List Nat:=[0,0,3,7,15,0,0,96,224,511,1023]
theorem spec_TableCheck.tab12:rtab .any (opsOf Tryz.f48 12)=spec_TableCheck.T12:=by kernel_rfl
theorem spec_TableCheck.bits12:waitsOk spec_TableCheck.T12.2 spec_TableCheck.B12=true:=by kernel_rfl
def spec_TableCheck.T21:Bool × List (List Nat × List Nat):=(true,[([],[]),([],[]),([0,1],[0,1]),([2],[2]),([3],[3]),([],[]),([],[]),([6],[6]),([7],[7]),([5,8],[5,8]),([9],[9]),([10],[10]),([4,11],[4,11])])
def spec_TableCheck.B21:List Nat:=[0,0,3,7,15,0,0,64,192,480,992,2016,4095]
theorem spec_TableCheck.tab21:rtab .any (opsOf Tryz.f48 21)=spec_TableCheck.T21:=by kernel_rfl
theorem spec_TableCheck.bits21:waitsOk spec_TableCheck.T21.2 spec_TableCheck.B21=true:=by kernel_rfl
set_option maxHeartbeats 8000000 in
set_option maxRecDepth 100000 in
theorem spec_TableCheck.calls (k:Nat) (a0:Int) (A1:Option Addr) (c1:Nat) (l1:List (S62)) (r1:Int) (r2:Int) (r3:Int) (w:World) (hr1:Kd.C k62 w A1 l1.length l1) (hc1:l1.length≤c1) (H:spec_TableCheck.f k a0 l1=some (r1,r2,r3)) :
  Calls Tryz.prog 48 #[.int .i64 a0,.slice A1 l1.length c1] w fun e w'=>e=.returned (.agg #[.int .i64 r1,.int .i64 r2,.int .i64 r3])∧Below w.heap.size w w':=by
 have hu52:=Tryz.underlying52;have hu62:=Tryz.underlying62;have HR1:=am hr1;have HC1:=am hc1;clear hr1 hc1;have HB:=am (Below.refl w.heap.size w);unfold spec_TableCheck.f at H
 revert H;refine ip2 ?_ ?_
 ·intro c3 H;have c3b0:decide (400<(l1.length:Int))=true:=decide_eq_true c3;have c3b1:decide (400<l1.length)=true:=decide_eq_true (by omega);clear c3;replace H:=sj3 H;obtain ⟨rfl,rfl,rfl⟩:=H
  go_in
  go_wp2_with (first|((with_reducible refine gate_dst (N:=4) rfl ?_);(try (refine gate_guard (by rfl) ?_;dsimp only));refine bx 4 (cs:=#[.int .i64 0,.int .i64 0,.int .i64 0]) (t:=52) ?_;intro gb322 hg w4 hbox hb;have BK322:=am (hbox);have GW322:=am ((gs hg (bs HB)));have GE322:=am ((gs hg (bs HB)));replace HB:=am (below_step (bs HB) hb);clear hb hbox hg;have hcz5:=cf3 BK322))
  refine bodyPost_ret (results_cell_row rfl _ _ gb322 52 #[.int .i64 0,.int .i64 0,.int .i64 2] (0,0) _ rfl (kp BK322) Tryz.underlying52 rfl (by kernel_rfl)) rfl ?_
  exact ⟨ff,bs HB⟩
 ·intro c3 H;have c3b0:decide (400<(l1.length:Int))=false:=decide_eq_false c3;have c3b1:decide (400<l1.length)=false:=decide_eq_false (by omega);clear c3;replace H:=bo H;obtain ⟨t323,A6,H⟩:=H
  go_in
  try go_wp2_with (first|((with_reducible refine gate_dst (N:=4) rfl ?_);(try (refine gate_guard (by rfl) ?_;dsimp only));refine bx 4 (cs:=#[.int .i64 0,.int .i64 0,.int .i64 0]) (t:=52) ?_;intro gb322 hg w7 hbox hb;have BK322:=am (hbox);have GW322:=am ((gs hg (bs HB)));have GE322:=am ((gs hg (bs HB)));replace HB:=am (below_step (bs HB) hb);clear hb hbox hg))
  go_at_call 95;(with_reducible refine (spec_TableOf.calls k a0 t323 _ A6.out).mono ?_);rintro e w8 ⟨v324,rfl,ho0,hb⟩;have HO325:=am (Kd.R_lower ho0 (below_size (bs HB)));replace BK322:=am (blk_below (ks BK322) hb);replace HB:=am (below_step (bs HB) hb);(try clear hb);(try clear hb2);(try clear hk);(try clear hi);(try clear ho0)
  revert H;refine ie2 ?_ ?_
  ·intro c9b0 c9b1 H;replace H:=sj3 H;obtain ⟨rfl,rfl,rfl⟩:=H;obtain ⟨Ao10,co10,eo10⟩:=Kd.R_slice HO325.out;subst eo10;have hcz11:=cf3 BK322
   go_wp2
   refine bodyPost_ret (results_cell_row rfl _ _ gb322 52 #[.int .i64 0,.int .i64 0,.int .i64 1] (0,0) _ rfl (kp BK322) Tryz.underlying52 rfl (by kernel_rfl)) rfl ?_
   exact ⟨ff,bs HB⟩
  ·intro c9 c9b0 c9b1 H
   have c9b2:¬ (t323=[]):=fun h_=>c9 (by rw [h_];rfl)
   have H':=am H;clear H;obtain ⟨Ao12,co12,eo12⟩:=Kd.R_slice HO325.out;subst eo12
   go_wp2
   go_loopg [6,7] k (fun kq v6 v7 w'=>∃ (x6_1:Int) (x7_1:Int) (x323000_1:Int) (x323001_1:Int) (x323002_1:Int),v6=.int .i64 x6_1∧v7=.int .i64 x7_1∧Aside0 (spec_TableCheck.l0 kq l1 t323 x6_1 x7_1=some (r1,r2,r3))∧Aside0 (kq≤k)∧Aside0 (Kd.R k94 94 w' w.heap.size (fun _=>True) (.slice Ao12 t323.length co12) t323)∧Aside0 (w'.heap[gb322]? = some (.cells #[.int .i64 x323000_1,.int .i64 x323001_1,.int .i64 x323002_1] 52 (0,0)))∧Aside0 (Below w.heap.size w w'))
   case atStart=>exact ⟨(0),(0),(0),(0),(0),fg,fg,H',⟨Nat.le_refl _⟩,⟨by (with_reducible repeat (first|apply Kd.R_alloc|apply Kd.R_drewN|apply Kd.R_drew));exact HO325.out⟩,⟨ks BK322⟩,⟨bs HB⟩⟩
   case round =>
    clear H'
    try clear c1
    try clear c3
    try clear c3b0
    try clear c3b1
    try clear c9
    try clear c9b0
    try clear c9b1
    try clear c9b2
    obtain ⟨x6_1,x7_1,x323000_1,x323001_1,x323002_1,rfl,rfl,HA,HK1,HO_5,BK322,HB⟩:=hrel
    cases gk with
    | zero=>exact absurd HA.out (by simp [spec_TableCheck.l0])
    | succ k1 =>
     have H:=HA.out;clear HA;simp only [spec_TableCheck.l0] at H
     revert H;refine id2 ?_ ?_
     ·intro c13b0 H;have H':=am H;clear H
      go_wp2
      go_loopg [6,8] k1 (fun kq v6 v8 w'=>∃ (x6_2:Int) (x8_2:Int) (x323000_2:Int) (x323001_2:Int) (x323002_2:Int),v6=.int .i64 x6_2∧v8=.int .i64 x8_2∧Aside0 (spec_TableCheck.l1 kq l1 t323 x6_2 x7_1 x8_2=some (r1,r2,r3))∧Aside0 (kq≤k1)∧Aside0 (Kd.R k94 94 w' w.heap.size (fun _=>True) (.slice Ao12 t323.length co12) t323)∧Aside0 (w'.heap[gb322]? = some (.cells #[.int .i64 x323000_2,.int .i64 x323001_2,.int .i64 x323002_2] 52 (0,0)))∧Aside0 (Below w.heap.size w w'))
      case atStart=>exact ⟨(x6_1),(0),(x323000_1),(x323001_1),(x323002_1),fg,fg,H',⟨Nat.le_refl _⟩,⟨by (with_reducible repeat (first|apply Kd.R_alloc|apply Kd.R_drewN|apply Kd.R_drew));exact HO_5.out⟩,⟨ks BK322⟩,⟨bs HB⟩⟩
      case round =>
       clear H'
       try clear c1
       try clear c3
       try clear c3b0
       try clear c3b1
       try clear c9
       try clear c9b0
       try clear c9b1
       try clear c9b2
       try clear c13b0
       obtain ⟨x6_2,x8_2,x323000_2,x323001_2,x323002_2,rfl,rfl,HA,HK2,HO_5,BK322,HB⟩:=hrel
       cases gk with
       | zero=>exact absurd HA.out (by simp [spec_TableCheck.l1])
       | succ k2 =>
        have H:=HA.out;clear HA;simp only [spec_TableCheck.l1] at H;have HC14:=am H;clear H
        go_upto_region 11 with (fail)
        go_cut [52] (fun v52 wc=>∃ (kq:Nat) (x52_13:Bool),v52=.bool x52_13∧Aside0 (spec_TableCheck.j2 kq l1 t323 x6_2 x7_1 x8_2 x52_13=some (r1,r2,r3))∧Aside0 (kq≤k2)∧Aside0 (Kd.R k94 94 wc w.heap.size (fun _=>True) (.slice Ao12 t323.length co12) t323)∧Aside0 (wc.heap[gb322]? = some (.cells #[.int .i64 x323000_2,.int .i64 x323001_2,.int .i64 x323002_2] 52 (0,0)))∧Aside0 (Below w.heap.size w wc))
        case first =>
         have H:=HC14.out;clear HC14
         revert H;refine id1 ?_
         intro c15b0 H
         (first|rw [c15b0]|(simp only [i64_w,i32_w];rw [c15b0])|skip)
         revert H;refine id1 ?_
         intro c16b0 H
         revert H;refine id2 ?_ ?_
         ·intro c17b0 H
          revert H;refine id2 ?_ ?_
          ·intro c18b0 H
           revert H;refine id1 ?_
           intro c19b0 H;have H':=am H;clear H
           try go_wp2
           replace HO_5:=am (Kd.R_drew HO_5.out);replace BK322:=am (blk_drew BK322.out);replace HB:=am (below_drew1 HB.out);have p326:0≤(x7_1:Int):=oa;have q326:x7_1<(t323.length:Int):=oa;obtain ⟨ad326,e326,hx326_0,hx326_1,hx326_2,hx326_3⟩:=at_T94 (Kd.R_reads' HO_5.out).2.2 x7_1 p326 q326
           cases e326
           replace p326:=eq_true p326;replace q326:=eq_true q326;have p327:0≤(x6_2:Int):=oa;have q327:x6_2<(l1.length:Int):=oa;obtain ⟨ad327,A327_1,c327_1,e327,hx327_0,hx327_1,hl327_1,hi327_1⟩:=at_T62 HR1.out x6_2 p327 q327;have hw327_1:=hx327_1;have hw327_0:=hx327_0
           cases e327
           replace hx327_0:=cb HB hx327_0;replace hx327_1:=cb HB hx327_1;have HR327_1:=am hi327_1;have HC327_1:=am hl327_1;clear hi327_1 hl327_1;replace p327:=eq_true p327;replace q327:=eq_true q327;have p328:0≤(x7_1:Int):=oa;have q328:x7_1<(t323.length:Int):=oa;obtain ⟨ad328,e328,hx328_0,hx328_1,hx328_2,hx328_3⟩:=at_T94 (Kd.R_reads' HO_5.out).2.2 x7_1 p328 q328;obtain rfl:ad326=ad328:=(by injection e328);replace p328:=eq_true p328;replace q328:=eq_true q328;refine sta 26 (hca hx326_0 (hca hx326_1 (hca hx326_2 (hca hx326_3 (hca (cb HB hw327_0) (hca (cb HB hw327_1) (hca hx328_0 (hca hx328_1 (hca hx328_2 (hc hx328_3)))))))))) (fun hHeld=>?_);refine with_tabW spec_TableCheck.tab11 spec_TableCheck.bits11 (fun HT_ HW_=>?_)
           generalize wr.drew=w20 at HO_5 BK322 HB HR327_1 hx326_0 hx326_1 hx326_2 hx326_3 hx327_0 hx327_1 hx328_0 hx328_1 hx328_2 hx328_3 hHeld ⊢
           refine pA 0 27 HT_ ?_;refine pA 1 28 HT_ ?_;refine pA 2 29 HT_ ?_;refine pA 3 30 HT_ ?_;refine pA 4 31 HT_ ?_;refine tA 5 32 HT_ HW_ hHeld ?_;refine pA 6 33 HT_ ?_;refine pA 7 34 HT_ ?_;refine pA 8 35 HT_ ?_;refine pA 9 36 HT_ ?_;refine pA 10 37 HT_ ?_;refine pA 11 38 HT_ ?_;refine pA 12 39 HT_ ?_;refine pA 13 40 HT_ ?_;refine pA 14 41 HT_ ?_;refine pA 15 42 HT_ ?_;refine pA 16 43 HT_ ?_;refine pA 17 44 HT_ ?_;refine pA 19 46 HT_ ?_;refine pA 20 47 HT_ ?_;refine pA 21 48 HT_ ?_;refine pA 22 49 HT_ ?_;refine tA 18 45 HT_ HW_ hHeld ?_;refine tA 23 50 HT_ HW_ hHeld ?_;refine pA 24 51 HT_ ?_;refine pA 25 52 HT_ ?_;refine done_ (done_of HT_.out (by kernel_rfl)) ?_
           try go_wp2
           go_meet
           case rel=>exact ⟨_,((((rd_T62 l1 x6_2).f0).toList == ((rd_T94 t323 x7_1).f0).toList)),fg,H',⟨by have:=HK1.out;have:=HK2.out;first|omega|exact Nat.le_refl _⟩,⟨by (with_reducible repeat (first|apply Kd.R_alloc|apply Kd.R_drewN|apply Kd.R_drew));exact HO_5.out⟩,⟨ks BK322⟩,⟨bs HB⟩⟩
          ·intro c18b0 H;have H':=am H;clear H
           try go_wp2
           replace HO_5:=am (Kd.R_drew HO_5.out);replace BK322:=am (blk_drew BK322.out);replace HB:=am (below_drew1 HB.out);have p326:0≤(x7_1:Int):=oa;have q326:x7_1<(t323.length:Int):=oa;obtain ⟨ad326,e326,hx326_0,hx326_1,hx326_2,hx326_3⟩:=at_T94 (Kd.R_reads' HO_5.out).2.2 x7_1 p326 q326
           cases e326
           replace p326:=eq_true p326;replace q326:=eq_true q326;refine sta 26 (hca hx326_0 (hca hx326_1 (hca hx326_2 (hc hx326_3)))) (fun hHeld=>?_);refine with_tabW spec_TableCheck.tab11 spec_TableCheck.bits11 (fun HT_ HW_=>?_)
           generalize wr.drew=w21 at HO_5 BK322 HB hx326_0 hx326_1 hx326_2 hx326_3 hHeld ⊢
           refine pA 0 27 HT_ ?_;refine pA 1 28 HT_ ?_;refine pA 2 29 HT_ ?_;refine pA 3 30 HT_ ?_;refine pA 4 31 HT_ ?_;refine tA 5 32 HT_ HW_ hHeld ?_;refine pA 6 33 HT_ ?_;refine pA 7 34 HT_ ?_;refine pA 8 35 HT_ ?_;refine pA 9 36 HT_ ?_;refine pA 10 37 HT_ ?_;refine pA 11 38 HT_ ?_;refine pA 12 39 HT_ ?_;refine pA 13 40 HT_ ?_;refine pB 14 41 HT_ ?_;refine pB 15 42 HT_ ?_;refine pB 16 43 HT_ ?_;refine pB 17 44 HT_ ?_;refine pB 18 45 HT_ ?_;refine pB 19 46 HT_ ?_;refine pB 20 47 HT_ ?_;refine pB 21 48 HT_ ?_;refine pB 22 49 HT_ ?_;refine pB 23 50 HT_ ?_;refine pB 24 51 HT_ ?_;refine pA 25 52 HT_ ?_;refine done_ (done_of HT_.out (by kernel_rfl)) ?_
           try go_wp2
           go_meet
           case rel=>exact ⟨_,(false),fg,H',⟨by have:=HK1.out;have:=HK2.out;first|omega|exact Nat.le_refl _⟩,⟨by (with_reducible repeat (first|apply Kd.R_alloc|apply Kd.R_drewN|apply Kd.R_drew));exact HO_5.out⟩,⟨ks BK322⟩,⟨bs HB⟩⟩
         ·intro c17b0 H;have H':=am H;clear H
          try go_wp2
          replace HO_5:=am (Kd.R_drew HO_5.out);replace BK322:=am (blk_drew BK322.out);replace HB:=am (below_drew1 HB.out);have p326:0≤(x7_1:Int):=oa;have q326:x7_1<(t323.length:Int):=oa;obtain ⟨ad326,e326,hx326_0,hx326_1,hx326_2,hx326_3⟩:=at_T94 (Kd.R_reads' HO_5.out).2.2 x7_1 p326 q326
          cases e326
          replace p326:=eq_true p326;replace q326:=eq_true q326;refine sta 26 (hca hx326_0 (hca hx326_1 (hca hx326_2 (hc hx326_3)))) (fun hHeld=>?_);refine with_tabW spec_TableCheck.tab11 spec_TableCheck.bits11 (fun HT_ HW_=>?_)
          generalize wr.drew=w22 at HO_5 BK322 HB hx326_0 hx326_1 hx326_2 hx326_3 hHeld ⊢
          refine pA 0 27 HT_ ?_;refine pA 1 28 HT_ ?_;refine pA 2 29 HT_ ?_;refine pA 3 30 HT_ ?_;refine pA 4 31 HT_ ?_;refine tA 5 32 HT_ HW_ hHeld ?_;refine pA 6 33 HT_ ?_;refine pA 7 34 HT_ ?_;refine pB 8 35 HT_ ?_;refine pB 9 36 HT_ ?_;refine pB 10 37 HT_ ?_;refine pB 11 38 HT_ ?_;refine pA 12 39 HT_ ?_;refine pA 13 40 HT_ ?_;refine pB 14 41 HT_ ?_;refine pB 15 42 HT_ ?_;refine pB 16 43 HT_ ?_;refine pB 17 44 HT_ ?_;refine pB 18 45 HT_ ?_;refine pB 19 46 HT_ ?_;refine pB 20 47 HT_ ?_;refine pB 21 48 HT_ ?_;refine pB 22 49 HT_ ?_;refine pB 23 50 HT_ ?_;refine pB 24 51 HT_ ?_;refine pA 25 52 HT_ ?_;refine done_ (done_of HT_.out (by kernel_rfl)) ?_
          try go_wp2
          go_meet
          case rel=>exact ⟨_,(false),fg,H',⟨by have:=HK1.out;have:=HK2.out;first|omega|exact Nat.le_refl _⟩,⟨by (with_reducible repeat (first|apply Kd.R_alloc|apply Kd.R_drewN|apply Kd.R_drew));exact HO_5.out⟩,⟨ks BK322⟩,⟨bs HB⟩⟩
        case rest =>
         clear HC14
         try clear c1
         try clear c3
         obtain ⟨kq,x52_13,rfl,HA,HJ13,HO_5,BK322,HB⟩:=hcut
         cases kq with
         | zero=>exact absurd HA.out (by simp [spec_TableCheck.j2])
         | succ kj13 =>
          have H:=HA.out;clear HA;simp only [spec_TableCheck.j2] at H
          obtain rfl|rfl:=bt x52_13
          ·replace H:=itT H
           revert H;refine id1 ?_
           intro c24b0 H
           revert H;refine id1 ?_
           intro c25b0 H
           revert H;refine id1 ?_
           intro c26b0 H
           revert H;refine id1 ?_
           intro c27b0 H;replace H:=bo H;obtain ⟨t331,A28,H⟩:=H
           revert H;refine ip2 ?_ ?_
           ·intro c29 H;have c29b0:decide (0≤t331)=true:=decide_eq_true c29;clear c29;replace H:=sj3 H;obtain ⟨rfl,rfl,rfl⟩:=H
            try go_wp2
            replace HO_5:=am (Kd.R_drew HO_5.out);replace BK322:=am (blk_drew BK322.out);replace HB:=am (below_drew1 HB.out);have p329:0≤(x7_1:Int):=oa;have q329:x7_1<(t323.length:Int):=oa;obtain ⟨ad329,e329,hx329_0,hx329_1,hx329_2,hx329_3⟩:=at_T94 (Kd.R_reads' HO_5.out).2.2 x7_1 p329 q329
            cases e329
            replace p329:=eq_true p329;replace q329:=eq_true q329;have p330:0≤(x6_2:Int):=oa;have q330:x6_2<(l1.length:Int):=oa;obtain ⟨ad330,A330_1,c330_1,e330,hx330_0,hx330_1,hl330_1,hi330_1⟩:=at_T62 HR1.out x6_2 p330 q330;have hw330_1:=hx330_1;have hw330_0:=hx330_0
            cases e330
            replace hx330_0:=cb HB hx330_0;replace hx330_1:=cb HB hx330_1;have HR330_1:=am hi330_1;have HC330_1:=am hl330_1;clear hi330_1 hl330_1;replace p330:=eq_true p330;replace q330:=eq_true q330;refine sta 11 (hca hx329_0 (hca hx329_1 (hca hx329_2 (hca hx329_3 (hca (cb HB hw330_0) (hc (cb HB hw330_1))))))) (fun hHeld=>?_);refine with_tabW spec_TableCheck.tab12 spec_TableCheck.bits12 (fun HT_ HW_=>?_)
            generalize wc.drew=w30 at HO_5 BK322 HB HR330_1 hx329_0 hx329_1 hx329_2 hx329_3 hx330_0 hx330_1 hHeld ⊢
            refine pA 0 53 HT_ ?_;refine pA 1 54 HT_ ?_;refine pA 2 55 HT_ ?_;refine pA 3 56 HT_ ?_;refine pA 5 58 HT_ ?_;refine pA 6 59 HT_ ?_;refine pA 7 60 HT_ ?_;refine tA 4 57 HT_ HW_ hHeld ?_;refine tA 8 61 HT_ HW_ hHeld ?_;refine oA 9 62 HT_ (fun K hK=>?_);refine gA Tryz.func96 #[.string ((rd_T94 t323 x7_1).f3),.agg #[.string ((rd_T62 l1 x6_2).f0),.slice A330_1 ((rd_T62 l1 x6_2).f1).length c330_1]] ?_;(with_reducible refine (spec_FormRight.calls kj13 ((rd_T94 t323 x7_1).f3) ((rd_T62 l1 x6_2).f0) _ _ ((rd_T62 l1 x6_2).f1) t331 _ ?side1 ?side2 A28.out).mono ?_)
            (case side1=>repeat (first|exact (Kd.C_below HR330_1.out HB.out)|(with_reducible refine Kd.C_alloc ?_ _)|(with_reducible refine Kd.C_drewN ?_ _)|(with_reducible refine Kd.C_drew ?_)))
            (case side2=>exact HC330_1.out)
            rintro e w31 ⟨rfl,hb⟩;have HS0_:=(hb.cell (World.block_lt_of_cell? _ _ (hHeld.1))).trans (hHeld.1);have HS1_:=(hb.cell (World.block_lt_of_cell? _ _ (hHeld.2.1))).trans (hHeld.2.1);have HS2_:=(hb.cell (World.block_lt_of_cell? _ _ (hHeld.2.2.1))).trans (hHeld.2.2.1);have HS3_:=(hb.cell (World.block_lt_of_cell? _ _ (hHeld.2.2.2.1))).trans (hHeld.2.2.2.1);refine ⟨_,rfl,?_⟩;replace HO_5:=am (Kd.R_below (rs HO_5) hb);replace BK322:=am (blk_below (ks BK322) hb);replace HB:=am (below_step (bs HB) hb);(try clear hb);(try clear hb2);(try clear hk);(try clear hi);refine hK.out _ _ ⟨HS0_,HS1_,HS2_,HS3_,((cb HB hw330_0).trans rfl),((cb HB hw330_1).trans rfl)⟩ (fun hHeld=>?_);clear hK K;refine nA 62 ?_;refine pA 10 9 HT_ ?_;refine done_ (done_of HT_.out (by kernel_rfl)) ?_;have hcz32:=cf3 BK322
            try go_wp2
            refine bodyPost_ret (results_cell_row rfl _ _ gb322 52 #[.int .i64 x6_2,.int .i64 t331,.int .i64 3] (0,0) _ rfl (kp BK322) Tryz.underlying52 rfl (by kernel_rfl)) rfl ?_
            exact ⟨ff,bs HB⟩
           ·intro c29 H;have c29b0:decide (0≤t331)=false:=decide_eq_false c29;clear c29;have H':=am H;clear H
            try go_wp2
            replace HO_5:=am (Kd.R_drew HO_5.out);replace BK322:=am (blk_drew BK322.out);replace HB:=am (below_drew1 HB.out);have p329:0≤(x7_1:Int):=oa;have q329:x7_1<(t323.length:Int):=oa;obtain ⟨ad329,e329,hx329_0,hx329_1,hx329_2,hx329_3⟩:=at_T94 (Kd.R_reads' HO_5.out).2.2 x7_1 p329 q329
            cases e329
            replace p329:=eq_true p329;replace q329:=eq_true q329;have p330:0≤(x6_2:Int):=oa;have q330:x6_2<(l1.length:Int):=oa;obtain ⟨ad330,A330_1,c330_1,e330,hx330_0,hx330_1,hl330_1,hi330_1⟩:=at_T62 HR1.out x6_2 p330 q330;have hw330_1:=hx330_1;have hw330_0:=hx330_0
            cases e330
            replace hx330_0:=cb HB hx330_0;replace hx330_1:=cb HB hx330_1;have HR330_1:=am hi330_1;have HC330_1:=am hl330_1;clear hi330_1 hl330_1;replace p330:=eq_true p330;replace q330:=eq_true q330;refine sta 11 (hca hx329_0 (hca hx329_1 (hca hx329_2 (hca hx329_3 (hca (cb HB hw330_0) (hc (cb HB hw330_1))))))) (fun hHeld=>?_);refine with_tabW spec_TableCheck.tab12 spec_TableCheck.bits12 (fun HT_ HW_=>?_)
            generalize wc.drew=w33 at HO_5 BK322 HB HR330_1 hx329_0 hx329_1 hx329_2 hx329_3 hx330_0 hx330_1 hHeld ⊢
            refine pA 0 53 HT_ ?_;refine pA 1 54 HT_ ?_;refine pA 2 55 HT_ ?_;refine pA 3 56 HT_ ?_;refine pA 5 58 HT_ ?_;refine pA 6 59 HT_ ?_;refine pA 7 60 HT_ ?_;refine tA 4 57 HT_ HW_ hHeld ?_;refine tA 8 61 HT_ HW_ hHeld ?_;refine oA 9 62 HT_ (fun K hK=>?_);refine gA Tryz.func96 #[.string ((rd_T94 t323 x7_1).f3),.agg #[.string ((rd_T62 l1 x6_2).f0),.slice A330_1 ((rd_T62 l1 x6_2).f1).length c330_1]] ?_;(with_reducible refine (spec_FormRight.calls kj13 ((rd_T94 t323 x7_1).f3) ((rd_T62 l1 x6_2).f0) _ _ ((rd_T62 l1 x6_2).f1) t331 _ ?side1 ?side2 A28.out).mono ?_)
            (case side1=>repeat (first|exact (Kd.C_below HR330_1.out HB.out)|(with_reducible refine Kd.C_alloc ?_ _)|(with_reducible refine Kd.C_drewN ?_ _)|(with_reducible refine Kd.C_drew ?_)))
            (case side2=>exact HC330_1.out)
            rintro e w34 ⟨rfl,hb⟩;have HS0_:=(hb.cell (World.block_lt_of_cell? _ _ (hHeld.1))).trans (hHeld.1);have HS1_:=(hb.cell (World.block_lt_of_cell? _ _ (hHeld.2.1))).trans (hHeld.2.1);have HS2_:=(hb.cell (World.block_lt_of_cell? _ _ (hHeld.2.2.1))).trans (hHeld.2.2.1);have HS3_:=(hb.cell (World.block_lt_of_cell? _ _ (hHeld.2.2.2.1))).trans (hHeld.2.2.2.1);refine ⟨_,rfl,?_⟩;replace HO_5:=am (Kd.R_below (rs HO_5) hb);replace BK322:=am (blk_below (ks BK322) hb);replace HB:=am (below_step (bs HB) hb);(try clear hb);(try clear hb2);(try clear hk);(try clear hi);refine hK.out _ _ ⟨HS0_,HS1_,HS2_,HS3_,((cb HB hw330_0).trans rfl),((cb HB hw330_1).trans rfl)⟩ (fun hHeld=>?_);clear hK K;refine nA 62 ?_;refine pA 10 9 HT_ ?_;refine done_ (done_of HT_.out (by kernel_rfl)) ?_
            try go_wp2
            go_roundg kj13
            case measure=>have:=HK1.out;have:=HK2.out;have:=HJ13.out;omega
            case rel=>exact ⟨(wrap64 (x6_2+1)),(wrap64 (x8_2+1)),(x323000_2),(x323001_2),(x323002_2),fg,fg,H',⟨by have:=HK1.out;have:=HK2.out;have:=HJ13.out;omega⟩,⟨by (with_reducible repeat (first|apply Kd.R_alloc|apply Kd.R_drewN|apply Kd.R_drew));exact HO_5.out⟩,⟨ks BK322⟩,⟨bs HB⟩⟩
          ·replace H:=itF H
           revert H;refine id1 ?_
           intro c35b0 H
           revert H;refine id1 ?_
           intro c36b0 H
           revert H;refine id2 ?_ ?_
           ·intro c37b0 H;replace H:=sj3 H;obtain ⟨rfl,rfl,rfl⟩:=H;have p332:0≤(x7_1:Int):=oa;have q332:x7_1<(t323.length:Int):=oa;obtain ⟨ad332,e332,hx332_0,hx332_1,hx332_2,hx332_3⟩:=at_T94 (Kd.R_reads' HO_5.out).2.2 x7_1 p332 q332
            cases e332
            replace p332:=eq_true p332;replace q332:=eq_true q332;have hcz38:=cf3 BK322
            go_wp2
            refine bodyPost_ret (results_cell_row rfl _ _ gb322 52 #[.int .i64 x6_2,.int .i64 0,.int .i64 4] (0,0) _ rfl (kp BK322) Tryz.underlying52 rfl (by kernel_rfl)) rfl ?_
            exact ⟨ff,bs HB⟩
           ·intro c37b0 H;have H':=am H;clear H;have p332:0≤(x7_1:Int):=oa;have q332:x7_1<(t323.length:Int):=oa;obtain ⟨ad332,e332,hx332_0,hx332_1,hx332_2,hx332_3⟩:=at_T94 (Kd.R_reads' HO_5.out).2.2 x7_1 p332 q332
            cases e332
            replace p332:=eq_true p332;replace q332:=eq_true q332
            go_wp2
            go_roundg kj13
            case measure=>have:=HK1.out;have:=HK2.out;have:=HJ13.out;omega
            case rel=>exact ⟨(x6_2),(wrap64 (x7_1+1)),(x323000_2),(x323001_2),(x323002_2),fg,fg,H',⟨by have:=HK1.out;have:=HK2.out;have:=HJ13.out;omega⟩,⟨by (with_reducible repeat (first|apply Kd.R_alloc|apply Kd.R_drewN|apply Kd.R_drew));exact HO_5.out⟩,⟨ks BK322⟩,⟨bs HB⟩⟩
     ·intro c13b0 H
      revert H;refine id2 ?_ ?_
      ·intro c39b0 H
       revert H;refine id1 ?_
       intro c40b0 H;obtain ⟨ji41,hji41⟩:∃ j_:Int,(wrap64 ((t323.length:Int) - 1))=j_:=⟨_,rfl⟩
       replace H:(if 0≤(ji41) then (if (ji41)<(t323.length:Int) then (if ((rd_T62 l1 x6_1).f0).toList=((rd_T94 t323 (ji41)).f0).toList then (some (x6_1,0,7)) else (some (x6_1,0,3))) else (none)) else (none))=some (r1,r2,r3):=by first|(rw [hji41] at H;exact H)|(simp only [hji41] at H ⊢;exact H)
       have hji41w:(IntKind.i64.wrap ((t323.length:Int) - 1))=ji41:=(i64_w _).trans hji41
       revert H;refine id1 ?_
       intro c42b0 H
       revert H;refine id1 ?_
       intro c43b0 H
       revert H;refine ie2 ?_ ?_
       ·intro c44b0 c44b1 H;replace H:=sj3 H;obtain ⟨rfl,rfl,rfl⟩:=H
        try go_wp2
        replace HO_5:=am (Kd.R_drew HO_5.out);replace BK322:=am (blk_drew BK322.out);replace HB:=am (below_drew1 HB.out);have p333:0≤(x6_1:Int):=oa;have q333:x6_1<(l1.length:Int):=oa;obtain ⟨ad333,A333_1,c333_1,e333,hx333_0,hx333_1,hl333_1,hi333_1⟩:=at_T62 HR1.out x6_1 p333 q333;have hw333_1:=hx333_1;have hw333_0:=hx333_0
        cases e333
        replace hx333_0:=cb HB hx333_0;replace hx333_1:=cb HB hx333_1;have HR333_1:=am hi333_1;have HC333_1:=am hl333_1;clear hi333_1 hl333_1;replace p333:=eq_true p333;replace q333:=eq_true q333;have p334:0≤((ji41):Int):=oa;have q334:(ji41)<(t323.length:Int):=oa;obtain ⟨ad334,e334,hx334_0,hx334_1,hx334_2,hx334_3⟩:=at_T94 (Kd.R_reads' HO_5.out).2.2 (ji41) p334 q334
        cases e334
        replace p334:=eq_true p334;replace q334:=eq_true q334;refine sta 13 (hca (cb HB hw333_0) (hca (cb HB hw333_1) (hca hx334_0 (hca hx334_1 (hca hx334_2 (hc hx334_3)))))) (fun hHeld=>?_);refine with_tabW spec_TableCheck.tab21 spec_TableCheck.bits21 (fun HT_ HW_=>?_)
        generalize wr.drew=w45 at HO_5 BK322 HB HR333_1 hx333_0 hx333_1 hx334_0 hx334_1 hx334_2 hx334_3 hHeld ⊢
        refine pA 0 85 HT_ ?_;refine pA 1 86 HT_ ?_;refine pA 2 87 HT_ ?_;refine pA 3 88 HT_ ?_;refine pA 5 90 HT_ ?_;refine pA 6 91 HT_ ?_;refine pA 7 92 HT_ ?_;refine pA 8 93 HT_ ?_;refine pA 9 94 HT_ ?_;refine pA 10 95 HT_ ?_;refine tA 4 89 HT_ HW_ hHeld ?_;refine tA 11 96 HT_ HW_ hHeld ?_;refine pA 12 97 HT_ ?_;refine done_ (done_of HT_.out (by kernel_rfl)) ?_;have hcz46:=cf3 BK322
        try go_wp2
        refine bodyPost_ret (results_cell_row rfl _ _ gb322 52 #[.int .i64 x6_1,.int .i64 0,.int .i64 7] (0,0) _ rfl (kp BK322) Tryz.underlying52 rfl (by kernel_rfl)) rfl ?_
        exact ⟨by first|rfl|(simp [errW_none,errW_some] <;> rfl)|(simp only [← hji41];first|rfl|(simp [errW_none,errW_some] <;> rfl))|(simp [*,errW_none,errW_some] <;> rfl),bs HB⟩
       ·intro c44 c44b0 c44b1 H;replace H:=sj3 H;obtain ⟨rfl,rfl,rfl⟩:=H
        try go_wp2
        replace HO_5:=am (Kd.R_drew HO_5.out);replace BK322:=am (blk_drew BK322.out);replace HB:=am (below_drew1 HB.out);have p333:0≤(x6_1:Int):=oa;have q333:x6_1<(l1.length:Int):=oa;obtain ⟨ad333,A333_1,c333_1,e333,hx333_0,hx333_1,hl333_1,hi333_1⟩:=at_T62 HR1.out x6_1 p333 q333;have hw333_1:=hx333_1;have hw333_0:=hx333_0
        cases e333
        replace hx333_0:=cb HB hx333_0;replace hx333_1:=cb HB hx333_1;have HR333_1:=am hi333_1;have HC333_1:=am hl333_1;clear hi333_1 hl333_1;replace p333:=eq_true p333;replace q333:=eq_true q333;have p334:0≤((ji41):Int):=oa;have q334:(ji41)<(t323.length:Int):=oa;obtain ⟨ad334,e334,hx334_0,hx334_1,hx334_2,hx334_3⟩:=at_T94 (Kd.R_reads' HO_5.out).2.2 (ji41) p334 q334
        cases e334
        replace p334:=eq_true p334;replace q334:=eq_true q334;refine sta 13 (hca (cb HB hw333_0) (hca (cb HB hw333_1) (hca hx334_0 (hca hx334_1 (hca hx334_2 (hc hx334_3)))))) (fun hHeld=>?_);refine with_tabW spec_TableCheck.tab21 spec_TableCheck.bits21 (fun HT_ HW_=>?_)
        generalize wr.drew=w47 at HO_5 BK322 HB HR333_1 hx333_0 hx333_1 hx334_0 hx334_1 hx334_2 hx334_3 hHeld ⊢
        refine pA 0 85 HT_ ?_;refine pA 1 86 HT_ ?_;refine pA 2 87 HT_ ?_;refine pA 3 88 HT_ ?_;refine pA 5 90 HT_ ?_;refine pA 6 91 HT_ ?_;refine pA 7 92 HT_ ?_;refine pA 8 93 HT_ ?_;refine pA 9 94 HT_ ?_;refine pA 10 95 HT_ ?_;refine tA 4 89 HT_ HW_ hHeld ?_;refine tA 11 96 HT_ HW_ hHeld ?_;refine pA 12 97 HT_ ?_;refine done_ (done_of HT_.out (by kernel_rfl)) ?_;have hcz48:=cf3 BK322
        try go_wp2
        refine bodyPost_ret (results_cell_row rfl _ _ gb322 52 #[.int .i64 x6_1,.int .i64 0,.int .i64 3] (0,0) _ rfl (kp BK322) Tryz.underlying52 rfl (by kernel_rfl)) rfl ?_
        exact ⟨by first|rfl|(simp [errW_none,errW_some] <;> rfl)|(simp only [← hji41];first|rfl|(simp [errW_none,errW_some] <;> rfl))|(simp [*,errW_none,errW_some] <;> rfl),bs HB⟩
      ·intro c39b0 H;replace H:=sj3 H;obtain ⟨rfl,rfl,rfl⟩:=H;have hcz49:=cf3 BK322
       go_wp2
       refine bodyPost_ret (results_cell_row rfl _ _ gb322 52 #[.int .i64 0,.int .i64 0,.int .i64 0] (0,0) _ rfl (kp BK322) Tryz.underlying52 rfl (by kernel_rfl)) rfl ?_
       exact ⟨ff,bs HB⟩
set_option maxHeartbeats 8000000 in
set_option maxRecDepth 100000 in
theorem spec_PartOf.calls (a0_0:ByteArray) (A0_1:Option Addr) (c0_1:Nat) (l0_1:List (S103)) (a1:Int) (a2:Int) (r:ByteArray) (w:World) (hr0_1:Kd.C k103 w A0_1 l0_1.length l0_1) (hc0_1:l0_1.length≤c0_1) (H:spec_PartOf.f a0_0 l0_1 a1 a2=some r) :
  Calls Tryz.prog 49 #[.agg #[.string a0_0,.slice A0_1 l0_1.length c0_1],.int .i64 a1,.int .i64 a2] w fun e w'=>e=.returned (.string r)∧Below w.heap.size w w':=by
 have hu62:=Tryz.underlying62;have HR0_1:=am hr0_1;have HC0_1:=am hc0_1;clear hr0_1 hc0_1;have HB:=am (Below.refl w.heap.size w);unfold spec_PartOf.f at H
 revert H;refine id2 ?_ ?_
 ·intro c4b0 H;obtain rfl:=si H
  go_in
  go_wp2_with (first|((with_reducible refine gate_dst (N:=3) rfl ?_);(try (refine gate_guard (by rfl) ?_;dsimp only));refine bx 3 (cs:=#[.string a0_0,.slice A0_1 l0_1.length c0_1]) (t:=62) ?_;intro gb335 hg w5 hbox hb;have BK335:=am (hbox);have GW335:=am ((gs hg (bs HB)));have GE335:=am ((gs hg (bs HB)));replace HB:=am (below_step (bs HB) hb);clear hb hbox hg))
  go_ret
  exact ⟨ff,bs HB⟩
 ·intro c4b0 H
  revert H;refine ip2 ?_ ?_
  ·intro c6 H;have c6b0:decide ((l0_1.length:Int)≤a1)=true:=decide_eq_true c6;clear c6;obtain rfl:=si H
   go_in
   go_wp2_with (first|((with_reducible refine gate_dst (N:=3) rfl ?_);(try (refine gate_guard (by rfl) ?_;dsimp only));refine bx 3 (cs:=#[.string a0_0,.slice A0_1 l0_1.length c0_1]) (t:=62) ?_;intro gb335 hg w7 hbox hb;have BK335:=am (hbox);have GW335:=am ((gs hg (bs HB)));have GE335:=am ((gs hg (bs HB)));replace HB:=am (below_step (bs HB) hb);clear hb hbox hg;have hcz8:=cf2 BK335))
   go_ret
   exact ⟨ff,bs HB⟩
  ·intro c6 H;have c6b0:decide ((l0_1.length:Int)≤a1)=false:=decide_eq_false c6;clear c6
   revert H;refine id2 ?_ ?_
   ·intro c9b0 H;obtain rfl:=si H
    go_in
    go_wp2_with (first|((with_reducible refine gate_dst (N:=3) rfl ?_);(try (refine gate_guard (by rfl) ?_;dsimp only));refine bx 3 (cs:=#[.string a0_0,.slice A0_1 l0_1.length c0_1]) (t:=62) ?_;intro gb335 hg w10 hbox hb;have BK335:=am (hbox);have GW335:=am ((gs hg (bs HB)));have GE335:=am ((gs hg (bs HB)));replace HB:=am (below_step (bs HB) hb);clear hb hbox hg;have hcz11:=cf2 BK335))
    go_ret
    exact ⟨ff,bs HB⟩
   ·intro c9b0 H
    by_cases c12:0≤a1
    ·rw [if_pos c12] at H;have c12b0:decide (0≤a1)=true:=decide_eq_true c12;clear c12
     revert H;refine id1 ?_
     intro c13b0 H
     revert H;refine ip2 ?_ ?_
     ·intro c14 H;have c14b0:decide ((((rd_T103 l0_1 a1).f0).length:Int)≤a2)=true:=decide_eq_true c14;clear c14;obtain rfl:=si H
      go_in
      go_wp2_with (first|((with_reducible refine gate_dst (N:=3) rfl ?_);(try (refine gate_guard (by rfl) ?_;dsimp only));refine bx 3 (cs:=#[.string a0_0,.slice A0_1 l0_1.length c0_1]) (t:=62) ?_;intro gb335 hg w15 hbox hb;have BK335:=am (hbox);have GW335:=am ((gs hg (bs HB)));have GE335:=am ((gs hg (bs HB)));replace HB:=am (below_step (bs HB) hb);clear hb hbox hg;have hcz16:=cf2 BK335;have p336:0≤(a1:Int):=oa;have q336:a1<(l0_1.length:Int):=oa;obtain ⟨ad336,A336_0,c336_0,e336,hx336_0,hl336_0,hi336_0⟩:=at_T103 HR0_1.out a1 p336 q336;cases e336;replace hx336_0:=cb HB hx336_0;have HR336_0:=am hi336_0;have HC336_0:=am hl336_0;clear hi336_0 hl336_0;replace p336:=eq_true p336;replace q336:=eq_true q336))
      go_ret
      exact ⟨ff,bs HB⟩
     ·intro c14 H;have c14b0:decide ((((rd_T103 l0_1 a1).f0).length:Int)≤a2)=false:=decide_eq_false c14;clear c14
      revert H;refine id1 ?_
      intro c17b0 H
      revert H;refine id1 ?_
      intro c18b0 H;obtain rfl:=si H
      go_in
      go_wp2_with (first|((with_reducible refine gate_dst (N:=3) rfl ?_);(try (refine gate_guard (by rfl) ?_;dsimp only));refine bx 3 (cs:=#[.string a0_0,.slice A0_1 l0_1.length c0_1]) (t:=62) ?_;intro gb335 hg w19 hbox hb;have BK335:=am (hbox);have GW335:=am ((gs hg (bs HB)));have GE335:=am ((gs hg (bs HB)));replace HB:=am (below_step (bs HB) hb);clear hb hbox hg;have hcz20:=cf2 BK335;have p336:0≤(a1:Int):=oa;have q336:a1<(l0_1.length:Int):=oa;obtain ⟨ad336,A336_0,c336_0,e336,hx336_0,hl336_0,hi336_0⟩:=at_T103 HR0_1.out a1 p336 q336;cases e336;replace hx336_0:=cb HB hx336_0;have HR336_0:=am hi336_0;have HC336_0:=am hl336_0;clear hi336_0 hl336_0;replace p336:=eq_true p336;replace q336:=eq_true q336;have p337:0≤(a1:Int):=oa;have q337:a1<(l0_1.length:Int):=oa;obtain ⟨ad337,A337_0,c337_0,e337,hx337_0,hl337_0,hi337_0⟩:=at_T103 HR0_1.out a1 p337 q337;obtain rfl:ad336=ad337:=(by injection e337);replace hx337_0:=cb HB hx337_0;have HR337_0:=am hi337_0;have HC337_0:=am hl337_0;clear hi337_0 hl337_0;replace p337:=eq_true p337;replace q337:=eq_true q337;have ea_:=Option.some.inj (hx336_0.symm.trans hx337_0);injection ea_ with ea_ en_ ec_;subst ea_;subst ec_;clear en_;have p338:0≤(a2:Int):=oa;have q338:a2<(((rd_T103 l0_1 a1).f0).length:Int):=oa;obtain ⟨ad338,e338,hx338_0⟩:=Kd.at_string HR337_0.out a2 p338 q338;cases e338;replace hx338_0:=cb HB hx338_0;replace p338:=eq_true p338;replace q338:=eq_true q338))
      go_ret
      exact ⟨ff,bs HB⟩
    ·rw [if_neg c12] at H
     exact absurd H (by simp)
set_option maxHeartbeats 8000000 in
set_option maxRecDepth 100000 in
theorem spec_l05Num.calls (k:Nat) (a0_0:ByteArray) (A0_1:Option Addr) (c0_1:Nat) (l0_1:List (S103)) (a1:Int) (r:Int) (w:World) (hr0_1:Kd.C k103 w A0_1 l0_1.length l0_1) (hc0_1:l0_1.length≤c0_1) (H:spec_l05Num.f k a0_0 l0_1 a1=some r) :
  Calls Tryz.prog 50 #[.agg #[.string a0_0,.slice A0_1 l0_1.length c0_1],.int .i64 a1] w fun e w'=>e=.returned (.int .i64 r)∧Below w.heap.size w w':=by
 have hu62:=Tryz.underlying62;have HR0_1:=am hr0_1;have HC0_1:=am hc0_1;clear hr0_1 hc0_1;have HB:=am (Below.refl w.heap.size w);unfold spec_l05Num.f at H;replace H:=bo H;obtain ⟨t340,A3,H⟩:=H;replace H:=bo H;obtain ⟨⟨t341,t342⟩,A4,H⟩:=H;(try dsimp only at H);obtain rfl:=si H
 go_in
 go_wp2_with (first|((with_reducible refine gate_dst (N:=2) rfl ?_);refine bx 2 (cs:=#[.string a0_0,.slice A0_1 l0_1.length c0_1]) (t:=62) ?_;intro gb339 hg w5 hbox hb;have BK339:=am (hbox);have GW339:=am ((gs hg (bs HB)));have GE339:=am ((gs hg (bs HB)));replace HB:=am (below_step (bs HB) hb);clear hb hbox hg;have hcz6_0:w5.cell? ⟨gb339,0,none⟩=some (.string a0_0):=(blk_cell BK339.out 0).trans rfl;have hcz6_1:w5.cell? ⟨gb339,1,none⟩=some (.slice A0_1 l0_1.length c0_1):=(blk_cell BK339.out 1).trans rfl;have hfz6_0:=blk_frozen BK339.out 0;have hfz6_1:=blk_frozen BK339.out 1)|((first|((with_reducible refine gate_callee (f:=49) rfl ?_);refine goesL_ (some 10) rfl rfl Tryz.func49 (by kernel_rfl) rfl #[.agg #[.string a0_0,.slice A0_1 l0_1.length c0_1],.int .i64 a1,.int .i64 0] rfl (by (try simp only [List.map_toArray,List.map_cons,List.map_nil]);first|done|rfl|(simp only [List.length_drop,List.length_take];rfl)) ?_;(with_reducible refine (spec_PartOf.calls a0_0 _ _ l0_1 a1 0 t340 _ (Kd.C_below HR0_1.out (bs HB)) HC0_1.out A3.out).mono ?_);rintro e w7 ⟨rfl,hb⟩;refine ⟨_,rfl,?_⟩)|(go_at_call 49;(with_reducible refine (spec_PartOf.calls a0_0 _ _ l0_1 a1 0 t340 _ (Kd.C_below HR0_1.out (bs HB)) HC0_1.out A3.out).mono ?_);rintro e w7 ⟨rfl,hb⟩));replace BK339:=am (blk_below (ks BK339) hb);replace HB:=am (below_step (bs HB) hb);(try clear hb);(try clear hb2);(try clear hk);(try clear hi))|((first|((with_reducible refine gate_callee (f:=97) rfl ?_);refine goesL_ (some 11) rfl rfl Tryz.func97 (by kernel_rfl) rfl #[.string t340] rfl (by (try simp only [List.map_toArray,List.map_cons,List.map_nil]);first|done|rfl|(simp only [List.length_drop,List.length_take];rfl)) ?_;(with_reducible refine (spec_l01Num.calls k t340 t341 t342 _ A4.out).mono ?_);rintro e w8 ⟨rfl,hb⟩;refine ⟨_,rfl,?_⟩)|(go_at_call 97;(with_reducible refine (spec_l01Num.calls k t340 t341 t342 _ A4.out).mono ?_);rintro e w8 ⟨rfl,hb⟩));replace BK339:=am (blk_below (ks BK339) hb);replace HB:=am (below_step (bs HB) hb);(try clear hb);(try clear hb2);(try clear hk);(try clear hi)))
 go_ret
 exact ⟨ff,bs HB⟩
end Go.Proofs.YtogkcllenfkdmaaGreatDoor.QR
