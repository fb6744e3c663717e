-- Merged by a program of this session (wip/tool/pack.py) out of its own texts for this claim.
import Derived.Test.YtaememmnhmebcaaGreatDoorKFnExactPaperBody8
set_option maxHeartbeats 8000000
set_option maxRecDepth 100000
set_option linter.unusedSimpArgs false
set_option linter.unusedVariables false
namespace Go.Proofs.YtaememmnhmebcaaGreatDoor.QB
open Go.RowKit Go.Proofs.YtaememmnhmebcaaGreatDoorW.PrintWords Go.Proofs.YtaememmnhmebcaaGreatDoorW.PrintLast Go.Proofs.YtaememmnhmebcaaGreatDoorW.PrintMore
attribute [local go_sem] max2_int min2_int max_two min_two max_three min_three max_four min_four   -- for this text's walks alone
def spec_FormRight.T21:Bool × List (List Nat × List Nat):=(true,[([],[]),([],[]),([1],[1]),([2],[2]),([0,3],[0,3]),([4],[4]),([5],[5]),([5],[5]),([7,5],[5,7]),([6,8,5],[5,6,8]),([5,9],[5,9]),([10,5],[10]),([11],[11]),([11],[11]),([12,13,11],[11,12,13]),([14,11],[11,14]),([11],[11]),([16,11],[11,16]),([11],[11]),([17,18,11],[11,17,18]),([19,11],[11,19]),([15,20,11,11],[11,15,20]),([21,11],[11,21]),([11,22],[11,22])])
def spec_FormRight.B21:List Nat:=[0,0,2,6,15,31,63,63,191,511,1023,2047,4095,4095,16383,32767,4095,69631,4095,462847,987135,2097151,4194303,8388607]
theorem spec_FormRight.tab21:rtab .any (opsOf Tryz.f79 21)=spec_FormRight.T21:=by kernel_rfl
theorem spec_FormRight.bits21:waitsOk spec_FormRight.T21.2 spec_FormRight.B21=true:=by kernel_rfl
theorem spec_FormRight.calls (k:Nat) (a0:ByteArray) (a1_0:ByteArray) (A1_1:Option Addr) (c1_1:Nat) (l1_1:List (S77)) (r:Int) (w:World) (hr1_1:Kd.C k77 w A1_1 l1_1.length l1_1) (hc1_1:l1_1.length≤c1_1) (H:spec_FormRight.f k a0 a1_0 l1_1=some r) :
  Calls Tryz.prog 79 #[.string a0,.agg #[.string a1_0,.slice A1_1 l1_1.length c1_1]] w fun e w'=>e=.returned (.int .i64 r)∧Below w.heap.size w w':=by
 have hu46:=Tryz.underlying46;have hu77:=Tryz.underlying77;have HR1_1:=am hr1_1;have HC1_1:=am hc1_1;clear hr1_1 hc1_1;have HB:=am (Below.refl w.heap.size w);unfold spec_FormRight.f at H
 revert H;refine ip2 ?_ ?_
 ·intro c3 H;have c3b0:decide (20000<(a0.size:Int))=true:=decide_eq_true c3;have c3b1:decide (20000<a0.size)=true:=decide_eq_true (by omega);clear c3;obtain rfl:=si H
  go_in
  go_wp2_with (first|((with_reducible refine gate_dst (N:=3) rfl ?_);(try (refine gate_guard (by rfl) ?_;dsimp only));refine bz 3 (cs:=#[.string a1_0,.slice A1_1 l1_1.length c1_1]) (t:=46) HB ?_;clear HB;intro gb39 hg w4 BK39 GW39 hb HB;clear hb hg))
  go_ret
  exact ⟨ff,bs HB⟩
 ·intro c3 H;have c3b0:decide (20000<(a0.size:Int))=false:=decide_eq_false c3;have c3b1:decide (20000<a0.size)=false:=decide_eq_false (by omega);clear c3;obtain ⟨y58,hy58⟩:∃ y_:List Int,y_=(([]:List Int)):=⟨_,rfl⟩
  replace H:(spec_FormRight.l0 k a0 y58 (-1) 0 a1_0 l1_1)=some r:=ye hy58 H
  have Ny58:=am hy58;clear hy58;have H':=am H;clear H
  go_in
  go_wp2_with (first|((with_reducible refine gate_dst (N:=3) rfl ?_);(try (refine gate_guard (by rfl) ?_;dsimp only));refine bz 3 (cs:=#[.string a1_0,.slice A1_1 l1_1.length c1_1]) (t:=46) HB ?_;clear HB;intro gb39 hg w5 BK39 GW39 hb HB;clear hb hg)|((with_reducible refine gate_dst (N:=13) rfl ?_);(try (refine gate_guard (by rfl) ?_;dsimp only));refine rl (Kd.int .u8) 5 (N:=13) (xs:=([]:List Int)) (inner:=[]) ?hp ?_;(case hp=>exact (Reps.none _ _));intro v99 w6 ho7 hb hg_ hnew_;clear hg_ hnew_;(first|rw [← Ny58.out] at ho7|(simp only [Int.reduceToNat] at ho7;rw [← Ny58.out] at ho7));have HO66:=am (Kd.R_lower ho7 (below_size (bs HB)));replace BK39:=bb BK39 hb;replace HB:=bq HB hb;clear hb ho7))
  go_loopg [5,6,7] k (fun kq v5 v6 v7 w'=>∃ (x5_1:List Int) (x6_1:Int) (x7_1:Int),v6=.int .i64 x6_1∧v7=.int .i64 x7_1∧Aside0 (spec_FormRight.l0 kq a0 x5_1 x6_1 x7_1 a1_0 l1_1=some r)∧Aside0 (kq≤k)∧Aside0 (Kd.R (Kd.int .u8) 5 w' w.heap.size (fun _=>True) v5 x5_1)∧Aside0 (w'.heap[gb39]? = some (.cells #[.string a1_0,(.slice A1_1 l1_1.length c1_1)] 46 (0,0)))∧Aside0 (Below w.heap.size w w'))
  case atStart=>exact ⟨(y58),((-1)),(0),fg,fg,H',⟨Nat.le_refl _⟩,⟨rz HO66.out⟩,⟨ks BK39⟩,⟨bs HB⟩⟩
  case round =>
   clear H'
   try clear c3
   try clear c3b0
   try clear c3b1
   try clear BK39
   obtain ⟨x5_1,x6_1,x7_1,rfl,rfl,HA,HK1,HO_5,BK39,HB⟩:=hrel
   cases gk with
   | zero=>exact absurd HA.out (by simp [spec_FormRight.l0])
   | succ k1 =>
    have H:=HA.out;clear HA;simp only [spec_FormRight.l0] at H
    revert H;refine id2 ?_ ?_
    ·intro c8b0 H
     revert H;refine id1 ?_
     intro c9b0 H
     revert H;refine ie2 ?_ ?_
     ·intro c11b0 c11b1 H
      revert H;refine ip2 ?_ ?_
      ·intro c12 H;have c12b0:decide (0≤x6_1)=true:=decide_eq_true c12;clear c12;obtain rfl:=si H;have p10:0≤(x7_1:Int):=oa;have q10:x7_1<(a0.size:Int):=oa;have hx10:=bt_at a0 x7_1;replace p10:=eq_true p10;replace q10:=eq_true q10
       go_wp2
       go_ret
       exact ⟨ff,bs HB⟩
      ·intro c12 H;have c12b0:decide (0≤x6_1)=false:=decide_eq_false c12;clear c12;have H':=am H;clear H;have p10:0≤(x7_1:Int):=oa;have q10:x7_1<(a0.size:Int):=oa;have hx10:=bt_at a0 x7_1;replace p10:=eq_true p10;replace q10:=eq_true q10;obtain ⟨Ao13,co13,eo13⟩:=Kd.R_slice HO_5.out;subst eo13
       go_wp2
       go_roundg k1
       case measure=>have:=HK1.out;omega
       case rel=>exact ⟨(x5_1),((x5_1.length:Int)),(wrap64 (x7_1+1)),fg,fg,H',⟨by have:=HK1.out;omega⟩,⟨rz HO_5.out⟩,⟨ks BK39⟩,⟨bs HB⟩⟩
     ·intro c11 c11b0 c11b1 H
      revert H;refine ie2 ?_ ?_
      ·intro c14b0 c14b1 H
       revert H;refine ip1 ?_
       intro c15 H;have LMc15:=am c15;clear c15;obtain ⟨y59,hy59⟩:∃ y_:List Int,y_=(x5_1++[bt a0 x7_1]):=⟨_,rfl⟩
       replace H:(spec_FormRight.l0 k1 a0 y59 x6_1 (wrap64 (x7_1+1)) a1_0 l1_1)=some r:=ye hy59 H
       have Ny59:=am hy59;clear hy59;have H':=am H;clear H;have p10:0≤(x7_1:Int):=oa;have q10:x7_1<(a0.size:Int):=oa;have hx10:=bt_at a0 x7_1;replace p10:=eq_true p10;replace q10:=eq_true q10
       go_wp2_with (first|((with_reducible refine gate_builtin (b:=.append) (xs:=#[.tmp 51,.tmp 53]) rfl ?_);(try (refine gate_guard (by rfl) ?_;dsimp only));at_builtin;refine Kd.R_append (Kd.int .u8) (w0:=w) w.heap.size rfl (.tmp 51) (.tmp 53) 75 5 (.int .u8 0) 1 rfl Tryz.underlying75 info5 rfl (by decide) (by omega) u5 x5_1 (bt a0 x7_1) [.int .u8 (bt a0 x7_1)] (fun _=>True) (fun _=>False) rfl rfl ?aP (fun _ hk=>hk.elim) ?aF ?aO ?aB ?aS ?aL ?_;(case aP=>exact rfl);(case aB=>exact (bs HB));(case aF=>exact (fun _ _=>trivial));(case aO=>exact (rs HO_5));(case aS=>exact (below_size (bs HB)));(case aL=>have:=LMc15.out;omega);intro v292 w16 ho hb hg hat;rw [← Ny59.out] at ho;have n0_:=am (blk_grown (ks BK39) hg (Kd.R_ne HO_5.out BK39.out (by decide)));have n1_:=am (hb);have n2_:=am (ho);clear BK39;clear HB;clear HO_5;have BK39:=n0_;have HB:=n1_;have HO67:=n2_;clear n0_ n1_ n2_;clear ho hb hg hat))
       go_roundg k1
       case measure=>have:=HK1.out;omega
       case rel=>exact ⟨(y59),(x6_1),(wrap64 (x7_1+1)),fg,fg,H',⟨by have:=HK1.out;omega⟩,⟨rz HO67.out⟩,⟨ks BK39⟩,⟨bs HB⟩⟩
      ·intro c14 c14b0 c14b1 H
       revert H;refine ie2 ?_ ?_
       ·intro c17b0 c17b1 H
        revert H;refine ip1 ?_
        intro c18 H;have LMc18:=am c18;clear c18;obtain ⟨y60,hy60⟩:∃ y_:List Int,y_=(x5_1++[bt a0 x7_1]):=⟨_,rfl⟩
        replace H:(spec_FormRight.l0 k1 a0 y60 x6_1 (wrap64 (x7_1+1)) a1_0 l1_1)=some r:=ye hy60 H
        have Ny60:=am hy60;clear hy60;have H':=am H;clear H;have p10:0≤(x7_1:Int):=oa;have q10:x7_1<(a0.size:Int):=oa;have hx10:=bt_at a0 x7_1;replace p10:=eq_true p10;replace q10:=eq_true q10
        go_wp2_with (first|((with_reducible refine gate_builtin (b:=.append) (xs:=#[.tmp 51,.tmp 53]) rfl ?_);(try (refine gate_guard (by rfl) ?_;dsimp only));at_builtin;refine Kd.R_append (Kd.int .u8) (w0:=w) w.heap.size rfl (.tmp 51) (.tmp 53) 75 5 (.int .u8 0) 1 rfl Tryz.underlying75 info5 rfl (by decide) (by omega) u5 x5_1 (bt a0 x7_1) [.int .u8 (bt a0 x7_1)] (fun _=>True) (fun _=>False) rfl rfl ?aP (fun _ hk=>hk.elim) ?aF ?aO ?aB ?aS ?aL ?_;(case aP=>exact rfl);(case aB=>exact (bs HB));(case aF=>exact (fun _ _=>trivial));(case aO=>exact (rs HO_5));(case aS=>exact (below_size (bs HB)));(case aL=>have:=LMc18.out;omega);intro v295 w19 ho hb hg hat;rw [← Ny60.out] at ho;have n0_:=am (blk_grown (ks BK39) hg (Kd.R_ne HO_5.out BK39.out (by decide)));have n1_:=am (hb);have n2_:=am (ho);clear BK39;clear HB;clear HO_5;have BK39:=n0_;have HB:=n1_;have HO69:=n2_;clear n0_ n1_ n2_;clear ho hb hg hat))
        go_roundg k1
        case measure=>have:=HK1.out;omega
        case rel=>exact ⟨(y60),(x6_1),(wrap64 (x7_1+1)),fg,fg,H',⟨by have:=HK1.out;omega⟩,⟨rz HO69.out⟩,⟨ks BK39⟩,⟨bs HB⟩⟩
       ·intro c17 c17b0 c17b1 H
        revert H;refine ie2 ?_ ?_
        ·intro c20b0 c20b1 H
         revert H;refine ip1 ?_
         intro c21 H;have LMc21:=am c21;clear c21;obtain ⟨y61,hy61⟩:∃ y_:List Int,y_=(x5_1++[bt a0 x7_1]):=⟨_,rfl⟩
         replace H:(spec_FormRight.l0 k1 a0 y61 x6_1 (wrap64 (x7_1+1)) a1_0 l1_1)=some r:=ye hy61 H
         have Ny61:=am hy61;clear hy61;have H':=am H;clear H;have p10:0≤(x7_1:Int):=oa;have q10:x7_1<(a0.size:Int):=oa;have hx10:=bt_at a0 x7_1;replace p10:=eq_true p10;replace q10:=eq_true q10
         go_wp2_with (first|((with_reducible refine gate_builtin (b:=.append) (xs:=#[.tmp 51,.tmp 53]) rfl ?_);(try (refine gate_guard (by rfl) ?_;dsimp only));at_builtin;refine Kd.R_append (Kd.int .u8) (w0:=w) w.heap.size rfl (.tmp 51) (.tmp 53) 75 5 (.int .u8 0) 1 rfl Tryz.underlying75 info5 rfl (by decide) (by omega) u5 x5_1 (bt a0 x7_1) [.int .u8 (bt a0 x7_1)] (fun _=>True) (fun _=>False) rfl rfl ?aP (fun _ hk=>hk.elim) ?aF ?aO ?aB ?aS ?aL ?_;(case aP=>exact rfl);(case aB=>exact (bs HB));(case aF=>exact (fun _ _=>trivial));(case aO=>exact (rs HO_5));(case aS=>exact (below_size (bs HB)));(case aL=>have:=LMc21.out;omega);intro v298 w22 ho hb hg hat;rw [← Ny61.out] at ho;have n0_:=am (blk_grown (ks BK39) hg (Kd.R_ne HO_5.out BK39.out (by decide)));have n1_:=am (hb);have n2_:=am (ho);clear BK39;clear HB;clear HO_5;have BK39:=n0_;have HB:=n1_;have HO70:=n2_;clear n0_ n1_ n2_;clear ho hb hg hat))
         go_roundg k1
         case measure=>have:=HK1.out;omega
         case rel=>exact ⟨(y61),(x6_1),(wrap64 (x7_1+1)),fg,fg,H',⟨by have:=HK1.out;omega⟩,⟨rz HO70.out⟩,⟨ks BK39⟩,⟨bs HB⟩⟩
        ·intro c20 c20b0 c20b1 H
         revert H;refine ie2 ?_ ?_
         ·intro c23b0 c23b1 H
          revert H;refine ip1 ?_
          intro c24 H;have LMc24:=am c24;clear c24;obtain ⟨y62,hy62⟩:∃ y_:List Int,y_=(x5_1++[bt a0 x7_1]):=⟨_,rfl⟩
          replace H:(spec_FormRight.l0 k1 a0 y62 x6_1 (wrap64 (x7_1+1)) a1_0 l1_1)=some r:=ye hy62 H
          have Ny62:=am hy62;clear hy62;have H':=am H;clear H;have p10:0≤(x7_1:Int):=oa;have q10:x7_1<(a0.size:Int):=oa;have hx10:=bt_at a0 x7_1;replace p10:=eq_true p10;replace q10:=eq_true q10
          go_wp2_with (first|((with_reducible refine gate_builtin (b:=.append) (xs:=#[.tmp 51,.tmp 53]) rfl ?_);(try (refine gate_guard (by rfl) ?_;dsimp only));at_builtin;refine Kd.R_append (Kd.int .u8) (w0:=w) w.heap.size rfl (.tmp 51) (.tmp 53) 75 5 (.int .u8 0) 1 rfl Tryz.underlying75 info5 rfl (by decide) (by omega) u5 x5_1 (bt a0 x7_1) [.int .u8 (bt a0 x7_1)] (fun _=>True) (fun _=>False) rfl rfl ?aP (fun _ hk=>hk.elim) ?aF ?aO ?aB ?aS ?aL ?_;(case aP=>exact rfl);(case aB=>exact (bs HB));(case aF=>exact (fun _ _=>trivial));(case aO=>exact (rs HO_5));(case aS=>exact (below_size (bs HB)));(case aL=>have:=LMc24.out;omega);intro v301 w25 ho hb hg hat;rw [← Ny62.out] at ho;have n0_:=am (blk_grown (ks BK39) hg (Kd.R_ne HO_5.out BK39.out (by decide)));have n1_:=am (hb);have n2_:=am (ho);clear BK39;clear HB;clear HO_5;have BK39:=n0_;have HB:=n1_;have HO95:=n2_;clear n0_ n1_ n2_;clear ho hb hg hat))
          go_roundg k1
          case measure=>have:=HK1.out;omega
          case rel=>exact ⟨(y62),(x6_1),(wrap64 (x7_1+1)),fg,fg,H',⟨by have:=HK1.out;omega⟩,⟨rz HO95.out⟩,⟨ks BK39⟩,⟨bs HB⟩⟩
         ·intro c23 c23b0 c23b1 H
          revert H;refine ie2 ?_ ?_
          ·intro c26b0 c26b1 H
           revert H;refine ip1 ?_
           intro c27 H;have LMc27:=am c27;clear c27;obtain ⟨y63,hy63⟩:∃ y_:List Int,y_=(x5_1++[bt a0 x7_1]):=⟨_,rfl⟩
           replace H:(spec_FormRight.l0 k1 a0 y63 x6_1 (wrap64 (x7_1+1)) a1_0 l1_1)=some r:=ye hy63 H
           have Ny63:=am hy63;clear hy63;have H':=am H;clear H;have p10:0≤(x7_1:Int):=oa;have q10:x7_1<(a0.size:Int):=oa;have hx10:=bt_at a0 x7_1;replace p10:=eq_true p10;replace q10:=eq_true q10
           go_wp2_with (first|((with_reducible refine gate_builtin (b:=.append) (xs:=#[.tmp 51,.tmp 53]) rfl ?_);(try (refine gate_guard (by rfl) ?_;dsimp only));at_builtin;refine Kd.R_append (Kd.int .u8) (w0:=w) w.heap.size rfl (.tmp 51) (.tmp 53) 75 5 (.int .u8 0) 1 rfl Tryz.underlying75 info5 rfl (by decide) (by omega) u5 x5_1 (bt a0 x7_1) [.int .u8 (bt a0 x7_1)] (fun _=>True) (fun _=>False) rfl rfl ?aP (fun _ hk=>hk.elim) ?aF ?aO ?aB ?aS ?aL ?_;(case aP=>exact rfl);(case aB=>exact (bs HB));(case aF=>exact (fun _ _=>trivial));(case aO=>exact (rs HO_5));(case aS=>exact (below_size (bs HB)));(case aL=>have:=LMc27.out;omega);intro v304 w28 ho hb hg hat;rw [← Ny63.out] at ho;have n0_:=am (blk_grown (ks BK39) hg (Kd.R_ne HO_5.out BK39.out (by decide)));have n1_:=am (hb);have n2_:=am (ho);clear BK39;clear HB;clear HO_5;have BK39:=n0_;have HB:=n1_;have HO96:=n2_;clear n0_ n1_ n2_;clear ho hb hg hat))
           go_roundg k1
           case measure=>have:=HK1.out;omega
           case rel=>exact ⟨(y63),(x6_1),(wrap64 (x7_1+1)),fg,fg,H',⟨by have:=HK1.out;omega⟩,⟨rz HO96.out⟩,⟨ks BK39⟩,⟨bs HB⟩⟩
          ·intro c26 c26b0 c26b1 H
           revert H;refine ie2 ?_ ?_
           ·intro c29b0 c29b1 H
            revert H;refine ip1 ?_
            intro c30 H;have LMc30:=am c30;clear c30;obtain ⟨y65,hy65⟩:∃ y_:List Int,y_=(x5_1++[bt a0 x7_1]):=⟨_,rfl⟩
            replace H:(spec_FormRight.l0 k1 a0 y65 x6_1 (wrap64 (x7_1+1)) a1_0 l1_1)=some r:=ye hy65 H
            have Ny65:=am hy65;clear hy65;have H':=am H;clear H;have p10:0≤(x7_1:Int):=oa;have q10:x7_1<(a0.size:Int):=oa;have hx10:=bt_at a0 x7_1;replace p10:=eq_true p10;replace q10:=eq_true q10
            go_wp2_with (first|((with_reducible refine gate_builtin (b:=.append) (xs:=#[.tmp 51,.tmp 53]) rfl ?_);(try (refine gate_guard (by rfl) ?_;dsimp only));at_builtin;refine Kd.R_append (Kd.int .u8) (w0:=w) w.heap.size rfl (.tmp 51) (.tmp 53) 75 5 (.int .u8 0) 1 rfl Tryz.underlying75 info5 rfl (by decide) (by omega) u5 x5_1 (bt a0 x7_1) [.int .u8 (bt a0 x7_1)] (fun _=>True) (fun _=>False) rfl rfl ?aP (fun _ hk=>hk.elim) ?aF ?aO ?aB ?aS ?aL ?_;(case aP=>exact rfl);(case aB=>exact (bs HB));(case aF=>exact (fun _ _=>trivial));(case aO=>exact (rs HO_5));(case aS=>exact (below_size (bs HB)));(case aL=>have:=LMc30.out;omega);intro v307 w31 ho hb hg hat;rw [← Ny65.out] at ho;have n0_:=am (blk_grown (ks BK39) hg (Kd.R_ne HO_5.out BK39.out (by decide)));have n1_:=am (hb);have n2_:=am (ho);clear BK39;clear HB;clear HO_5;have BK39:=n0_;have HB:=n1_;have HO97:=n2_;clear n0_ n1_ n2_;clear ho hb hg hat))
            go_roundg k1
            case measure=>have:=HK1.out;omega
            case rel=>exact ⟨(y65),(x6_1),(wrap64 (x7_1+1)),fg,fg,H',⟨by have:=HK1.out;omega⟩,⟨rz HO97.out⟩,⟨ks BK39⟩,⟨bs HB⟩⟩
           ·intro c29 c29b0 c29b1 H;obtain rfl:=si H;have p10:0≤(x7_1:Int):=oa;have q10:x7_1<(a0.size:Int):=oa;have hx10:=bt_at a0 x7_1;replace p10:=eq_true p10;replace q10:=eq_true q10
            go_wp2
            go_ret
            exact ⟨ff,bs HB⟩
    ·intro c8b0 H;have HC32:=am H;clear H
     go_upto_if 56 with (fail)
     go_cut [6] (fun v6 wc=>∃ (kq:Nat) (x6_31:Int),v6=.int .i64 x6_31∧Aside0 (spec_FormRight.j1 kq x5_1 x6_31 a1_0 l1_1=some r)∧Aside0 (kq≤k1)∧Aside0 (Kd.R (Kd.int .u8) 5 wc w.heap.size (fun _=>True) u5 x5_1)∧Aside0 (wc.heap[gb39]? = some (.cells #[.string a1_0,(.slice A1_1 l1_1.length c1_1)] 46 (0,0)))∧Aside0 (Below w.heap.size w wc))
     case first =>
      have H:=HC32.out;clear HC32
      revert H;refine id2 ?_ ?_
      ·intro c33b0 H
       (first|rw [c33b0]|(simp only [i64_w,i32_w];rw [c33b0])|skip)
       have H':=am H;clear H;obtain ⟨Ao34,co34,eo34⟩:=Kd.R_slice HO_5.out;subst eo34
       go_wp2
       go_meet
       case rel=>exact ⟨_,((x5_1.length:Int)),fg,H',⟨by have:=HK1.out;first|omega|exact Nat.le_refl _⟩,⟨rz HO_5.out⟩,⟨ks BK39⟩,⟨bs HB⟩⟩
      ·intro c33b0 H
       (first|rw [c33b0]|(simp only [i64_w,i32_w];rw [c33b0])|skip)
       have H':=am H;clear H
       go_wp2
       go_meet
       case rel=>exact ⟨_,(x6_1),fg,H',⟨by have:=HK1.out;first|omega|exact Nat.le_refl _⟩,⟨rz HO_5.out⟩,⟨ks BK39⟩,⟨bs HB⟩⟩
     case rest =>
      clear HC32
      try clear c3
      try clear c3b0
      try clear c3b1
      try clear c8b0
      obtain ⟨kq,x6_31,rfl,HA,HJ31,HO_5,BK39,HB⟩:=hcut
      cases kq with
      | zero=>exact absurd HA.out (by simp [spec_FormRight.j1])
      | succ kj31 =>
       have H:=HA.out;clear HA;simp only [spec_FormRight.j1] at H;have H':=am H;clear H
       go_wp2
       go_loopg [9] kj31 (fun kq v9 w'=>∃ (x9_3:Int),v9=.int .i64 x9_3∧Aside0 (spec_FormRight.l1 kq x5_1 x6_31 x9_3 a1_0 l1_1=some r)∧Aside0 (kq≤kj31)∧Aside0 (Kd.R (Kd.int .u8) 5 w' w.heap.size (fun _=>True) u5 x5_1)∧Aside0 (w'.heap[gb39]? = some (.cells #[.string a1_0,(.slice A1_1 l1_1.length c1_1)] 46 (0,0)))∧Aside0 (Below w.heap.size w w'))
       case atStart=>exact ⟨(0),fg,H',⟨Nat.le_refl _⟩,⟨rz HO_5.out⟩,⟨ks BK39⟩,⟨bs HB⟩⟩
       case round =>
        clear H'
        try clear c3
        try clear c3b0
        try clear c3b1
        try clear c8b0
        try clear BK39
        obtain ⟨x9_3,rfl,HA,HK3,HO_5,BK39,HB⟩:=hrel
        cases gk with
        | zero=>exact absurd HA.out (by simp [spec_FormRight.l1])
        | succ k3 =>
         have H:=HA.out;clear HA;simp only [spec_FormRight.l1] at H;have HC35:=am H;clear H
         go_upto_region 19 with (fail)
         go_cut [68] (fun v68 wc=>∃ (kq:Nat) (x68_34:Bool),v68=.bool x68_34∧Aside0 (spec_FormRight.j3 kq x5_1 x6_31 x9_3 x68_34 a1_0 l1_1=some r)∧Aside0 (kq≤k3)∧Aside0 (Kd.R (Kd.int .u8) 5 wc w.heap.size (fun _=>True) u5 x5_1)∧Aside0 (wc.heap[gb39]? = some (.cells #[.string a1_0,(.slice A1_1 l1_1.length c1_1)] 46 (0,0)))∧Aside0 (Below w.heap.size w wc))
         case first =>
          have H:=HC35.out;clear HC35
          revert H;refine id2 ?_ ?_
          ·intro c36b0 H
           (first|rw [c36b0]|(simp only [i64_w,i32_w];rw [c36b0])|skip)
           have H':=am H;clear H;have hcz37:=cf2 BK39
           go_wp2
           go_meet
           case rel=>exact ⟨_,(true),fg,H',⟨by have:=HK1.out;have:=HJ31.out;have:=HK3.out;first|omega|exact Nat.le_refl _⟩,⟨rz HO_5.out⟩,⟨ks BK39⟩,⟨bs HB⟩⟩
          ·intro c36b0 H
           (first|rw [c36b0]|(simp only [i64_w,i32_w];rw [c36b0])|skip)
           have H':=am H;clear H;have hcz38:=cf2 BK39
           go_wp2
           go_meet
           case rel=>exact ⟨_,(decide (x9_3<x6_31)),fg,H',⟨by have:=HK1.out;have:=HJ31.out;have:=HK3.out;first|omega|exact Nat.le_refl _⟩,⟨rz HO_5.out⟩,⟨ks BK39⟩,⟨bs HB⟩⟩
         case rest =>
          clear HC35
          try clear c3
          try clear c3b0
          try clear c3b1
          try clear c8b0
          obtain ⟨kq,x68_34,rfl,HA,HJ34,HO_5,BK39,HB⟩:=hcut
          cases kq with
          | zero=>exact absurd HA.out (by simp [spec_FormRight.j3])
          | succ kj34 =>
           have H:=HA.out;clear HA;simp only [spec_FormRight.j3] at H
           obtain rfl|rfl:=bt x68_34
           ·replace H:=itT H
            revert H;refine ip2 ?_ ?_
            ·intro c40 H;have c40b0:decide ((l1_1.length:Int)≤x9_3)=true:=decide_eq_true c40;clear c40;obtain rfl:=si H
             try go_wp2
             replace HO_5:=am (Kd.R_drew HO_5.out);replace BK39:=am (blk_drew BK39.out);replace HB:=am (below_drew1 HB.out);refine sta 24 (hb2 BK39) (fun hHeld=>?_);refine with_tabW spec_FormRight.tab21 spec_FormRight.bits21 (fun HT_ HW_=>?_)
             generalize wc.drew=w41 at HO_5 BK39 HB hHeld ⊢
             refine pz2 0 ?_;refine ta 2 ?_;refine pz8 3 ?_;refine pz8 11 ?_;refine pz4 19 ?_;refine pz1 23 ?_;refine done_ (done_of HT_.out (by kernel_rfl)) ?_
             try go_wp2
             go_ret
             exact ⟨ff,bs HB⟩
            ·intro c40 H;have c40b0:decide ((l1_1.length:Int)≤x9_3)=false:=decide_eq_false c40;clear c40
             revert H;refine ip2 ?_ ?_
             ·intro c42 H;have c42b0:decide ((x5_1.length:Int)≤x9_3)=true:=decide_eq_true c42;clear c42;obtain rfl:=si H
              try go_wp2
              replace HO_5:=am (Kd.R_drew HO_5.out);replace BK39:=am (blk_drew BK39.out);replace HB:=am (below_drew1 HB.out);obtain ⟨Ao44,co44,eo44⟩:=Kd.R_slice HO_5.out
              (first|subst eo44|(injection eo44 with f1_ f2_ f3_;have f4_:=f1_.symm;have f5_:=f3_.symm;clear f1_ f2_ f3_;subst f4_;subst f5_))
              refine sta 24 (hb2 BK39) (fun hHeld=>?_);refine with_tabW spec_FormRight.tab21 spec_FormRight.bits21 (fun HT_ HW_=>?_)
              generalize wc.drew=w43 at HO_5 BK39 HB hHeld ⊢
              refine pz2 0 ?_;refine ta 2 ?_;refine pz8 3 ?_;refine pz8 11 ?_;refine pz4 19 ?_;refine pz1 23 ?_;refine done_ (done_of HT_.out (by kernel_rfl)) ?_
              try go_wp2
              go_ret
              exact ⟨ff,bs HB⟩
             ·intro c42 H;have c42b0:decide ((x5_1.length:Int)≤x9_3)=false:=decide_eq_false c42;clear c42
              revert H;refine id1 ?_
              intro c45b0 H
              revert H;refine id1 ?_
              intro c46b0 H
              revert H;refine id1 ?_
              intro c47b0 H;replace H:=bo H;obtain ⟨t98,A48,H⟩:=H
              obtain rfl|rfl:=bt t98
              ·replace H:=itT H;have H':=am H;clear H
               try go_wp2
               replace HO_5:=am (Kd.R_drew HO_5.out);replace BK39:=am (blk_drew BK39.out);replace HB:=am (below_drew1 HB.out);obtain ⟨Ao51,co51,eo51⟩:=Kd.R_slice HO_5.out
               (first|subst eo51|(injection eo51 with f1_ f2_ f3_;have f4_:=f1_.symm;have f5_:=f3_.symm;clear f1_ f2_ f3_;subst f4_;subst f5_))
               have p57:0≤(x9_3:Int):=oa;have q57:x9_3<(x5_1.length:Int):=oa;obtain ⟨ad57,e57,hx57_0⟩:=Kd.at_int (Kd.R_reads' HO_5.out).2.2 x9_3 p57 q57
               cases e57
               replace p57:=eq_true p57;replace q57:=eq_true q57;have p49:0≤(x9_3:Int):=oa;have q49:x9_3<(l1_1.length:Int):=oa;obtain ⟨ad49,A49_0,c49_0,e49,hx49_0,hl49_0,hi49_0⟩:=at_T77 HR1_1.out x9_3 p49 q49;have hw49_0:=hx49_0
               cases e49
               replace hx49_0:=cb HB hx49_0;have HR49_0:=am hi49_0;have HC49_0:=am hl49_0;clear hi49_0 hl49_0;replace p49:=eq_true p49;replace q49:=eq_true q49;refine sta 24 (hb2a BK39 (hca hx57_0 (hc (cb HB hw49_0)))) (fun hHeld=>?_);refine with_tabW spec_FormRight.tab21 spec_FormRight.bits21 (fun HT_ HW_=>?_)
               generalize wc.drew=w50 at HO_5 BK39 HB HR49_0 hx57_0 hx49_0 hHeld ⊢
               refine pz2 0 ?_;refine ta 2 ?_;refine pz8 3 ?_;refine pz4 11 ?_;refine pz1 16 ?_;refine pz1 18 ?_;refine ta 15 ?_;refine ta 17 ?_;refine pz1 19 ?_;refine ta 20 ?_;refine oA 21 92 HT_ (fun K hK=>?_);refine gA Tryz.func91 #[.int .u8 (rd x5_1 x9_3),.agg #[.slice A49_0 ((rd_T77 l1_1 x9_3).f0).length c49_0]] ?_;(with_reducible refine (spec_l04Element.calls kj34 (rd x5_1 x9_3) _ _ ((rd_T77 l1_1 x9_3).f0) true _ ?side1 ?side2 A48.out).mono ?_)
               (case side1=>exact sd (Kd.C_below HR49_0.out HB.out))
               (case side2=>exact HC49_0.out)
               rintro e w52 ⟨rfl,hb⟩;have HS2_:=(hb.cell (World.block_lt_of_cell? _ _ (hHeld.2.2.1))).trans (hHeld.2.2.1);refine ⟨_,rfl,?_⟩;replace HO_5:=am (Kd.R_below (rs HO_5) hb);replace BK39:=bb BK39 hb;replace HB:=bq HB hb;(try clear hb);(try clear hb2);(try clear hk);(try clear hi);refine hK.out _ _ (qb2a BK39 ⟨HS2_,((cb HB hw49_0).trans rfl)⟩) (fun hHeld=>?_);clear hK K;refine nA 92 ?_;refine pz2 22 ?_;refine done_ (done_of HT_.out (by kernel_rfl)) ?_
               try go_wp2
               go_roundg kj34
               case measure=>have:=HK1.out;have:=HJ31.out;have:=HK3.out;have:=HJ34.out;omega
               case rel=>exact ⟨(wrap64 (x9_3+1)),fg,H',⟨by have:=HK1.out;have:=HJ31.out;have:=HK3.out;have:=HJ34.out;omega⟩,⟨rz HO_5.out⟩,⟨ks BK39⟩,⟨bs HB⟩⟩
              ·replace H:=itF H;obtain rfl:=si H
               try go_wp2
               replace HO_5:=am (Kd.R_drew HO_5.out);replace BK39:=am (blk_drew BK39.out);replace HB:=am (below_drew1 HB.out);obtain ⟨Ao54,co54,eo54⟩:=Kd.R_slice HO_5.out
               (first|subst eo54|(injection eo54 with f1_ f2_ f3_;have f4_:=f1_.symm;have f5_:=f3_.symm;clear f1_ f2_ f3_;subst f4_;subst f5_))
               have p57:0≤(x9_3:Int):=oa;have q57:x9_3<(x5_1.length:Int):=oa;obtain ⟨ad57,e57,hx57_0⟩:=Kd.at_int (Kd.R_reads' HO_5.out).2.2 x9_3 p57 q57
               cases e57
               replace p57:=eq_true p57;replace q57:=eq_true q57;have p49:0≤(x9_3:Int):=oa;have q49:x9_3<(l1_1.length:Int):=oa;obtain ⟨ad49,A49_0,c49_0,e49,hx49_0,hl49_0,hi49_0⟩:=at_T77 HR1_1.out x9_3 p49 q49;have hw49_0:=hx49_0
               cases e49
               replace hx49_0:=cb HB hx49_0;have HR49_0:=am hi49_0;have HC49_0:=am hl49_0;clear hi49_0 hl49_0;replace p49:=eq_true p49;replace q49:=eq_true q49;refine sta 24 (hb2a BK39 (hca hx57_0 (hc (cb HB hw49_0)))) (fun hHeld=>?_);refine with_tabW spec_FormRight.tab21 spec_FormRight.bits21 (fun HT_ HW_=>?_)
               generalize wc.drew=w53 at HO_5 BK39 HB HR49_0 hx57_0 hx49_0 hHeld ⊢
               refine pz2 0 ?_;refine ta 2 ?_;refine pz8 3 ?_;refine pz4 11 ?_;refine pz1 16 ?_;refine pz1 18 ?_;refine ta 15 ?_;refine ta 17 ?_;refine pz1 19 ?_;refine ta 20 ?_;refine oA 21 92 HT_ (fun K hK=>?_);refine gA Tryz.func91 #[.int .u8 (rd x5_1 x9_3),.agg #[.slice A49_0 ((rd_T77 l1_1 x9_3).f0).length c49_0]] ?_;(with_reducible refine (spec_l04Element.calls kj34 (rd x5_1 x9_3) _ _ ((rd_T77 l1_1 x9_3).f0) false _ ?side1 ?side2 A48.out).mono ?_)
               (case side1=>exact sd (Kd.C_below HR49_0.out HB.out))
               (case side2=>exact HC49_0.out)
               rintro e w55 ⟨rfl,hb⟩;have HS2_:=(hb.cell (World.block_lt_of_cell? _ _ (hHeld.2.2.1))).trans (hHeld.2.2.1);refine ⟨_,rfl,?_⟩;replace HO_5:=am (Kd.R_below (rs HO_5) hb);replace BK39:=bb BK39 hb;replace HB:=bq HB hb;(try clear hb);(try clear hb2);(try clear hk);(try clear hi);refine hK.out _ _ (qb2a BK39 ⟨HS2_,((cb HB hw49_0).trans rfl)⟩) (fun hHeld=>?_);clear hK K;refine nA 92 ?_;refine pz2 22 ?_;refine done_ (done_of HT_.out (by kernel_rfl)) ?_
               try go_wp2
               go_ret
               exact ⟨ff,bs HB⟩
           ·replace H:=itF H;obtain rfl:=si H
            go_wp2
            go_ret
            exact ⟨ff,bs HB⟩
def spec_TableCheck.T11:Bool × List (List Nat × List Nat):=(true,[([],[]),([],[]),([],[]),([1,2],[1,2]),([3],[3]),([4],[4]),([0,5],[0,5]),([6],[6]),([7],[7]),([7],[7]),([9,7],[7,9]),([8,10,7],[7,8,10]),([7,11],[7,11]),([12,7],[12]),([13],[13]),([13],[13]),([14,15,13],[13,14,15]),([16,13],[13,16]),([17,13],[13,17]),([13],[13]),([13],[13]),([19,20,13],[13,19,20]),([21,13],[13,21]),([22,13],[13,22]),([18,23,13],[13,18,23]),([13,24],[13,24])])
def spec_TableCheck.B11:List Nat:=[0,0,0,6,14,30,63,127,255,255,767,2047,4095,8191,16383,16383,65535,131071,262143,16383,16383,1589247,3686399,7880703,16777215,33554431]
theorem spec_TableCheck.tab11:rtab .any (opsOf Tryz.f54 11)=spec_TableCheck.T11:=by kernel_rfl
theorem spec_TableCheck.bits11:waitsOk spec_TableCheck.T11.2 spec_TableCheck.B11=true:=by kernel_rfl
def spec_TableCheck.T12:Bool × List (List Nat × List Nat):=(true,[([],[]),([],[]),([0,1],[0,1]),([2],[2]),([3],[3]),([],[]),([],[]),([5,6],[5,6]),([7],[7]),([4,8],[4,8]),([9,9,0,1,2,3,4,5,6,7,8,9],[9])])
def spec_TableCheck.B12:List Nat:=[0,0,3,7,15,0,0,96,224,511,1023]
theorem spec_TableCheck.tab12:rtab .any (opsOf Tryz.f54 12)=spec_TableCheck.T12:=by kernel_rfl
theorem spec_TableCheck.bits12:waitsOk spec_TableCheck.T12.2 spec_TableCheck.B12=true:=by kernel_rfl
def spec_TableCheck.T21:Bool × List (List Nat × List Nat):=(true,[([],[]),([],[]),([0,1],[0,1]),([2],[2]),([3],[3]),([],[]),([],[]),([6],[6]),([7],[7]),([5,8],[5,8]),([9],[9]),([10],[10]),([4,11],[4,11])])
def spec_TableCheck.B21:List Nat:=[0,0,3,7,15,0,0,64,192,480,992,2016,4095]
theorem spec_TableCheck.tab21:rtab .any (opsOf Tryz.f54 21)=spec_TableCheck.T21:=by kernel_rfl
theorem spec_TableCheck.bits21:waitsOk spec_TableCheck.T21.2 spec_TableCheck.B21=true:=by kernel_rfl
theorem spec_TableCheck.calls (k:Nat) (a0:Int) (A1:Option Addr) (c1:Nat) (l1:List (S46)) (r1:Int) (r2:Int) (r3:Int) (w:World) (hr1:Kd.C k46 w A1 l1.length l1) (hc1:l1.length≤c1) (H:spec_TableCheck.f k a0 l1=some (r1,r2,r3)) :
  Calls Tryz.prog 54 #[.int .i64 a0,.slice A1 l1.length c1] w fun e w'=>e=.returned (.agg #[.int .i64 r1,.int .i64 r2,.int .i64 r3])∧Below w.heap.size w w':=by
 have hu67:=Tryz.underlying67;have hu46:=Tryz.underlying46;have HR1:=am hr1;have HC1:=am hc1;clear hr1 hc1;have HB:=am (Below.refl w.heap.size w);unfold spec_TableCheck.f at H
 revert H;refine ip2 ?_ ?_
 ·intro c3 H;have c3b0:decide (400<(l1.length:Int))=true:=decide_eq_true c3;have c3b1:decide (400<l1.length)=true:=decide_eq_true (by omega);clear c3;replace H:=sj3 H;obtain ⟨rfl,rfl,rfl⟩:=H
  go_in
  go_wp2_with (first|((with_reducible refine gate_dst (N:=4) rfl ?_);(try (refine gate_guard (by rfl) ?_;dsimp only));refine bz 4 (cs:=#[.int .i64 0,.int .i64 0,.int .i64 0]) (t:=67) HB ?_;clear HB;intro gb68 hg w4 BK68 GW68 hb HB;clear hb hg;have hcz5:=cf3 BK68))
  refine bodyPost_ret (results_cell_row rfl _ _ gb68 67 #[.int .i64 0,.int .i64 0,.int .i64 2] (0,0) _ rfl (kp BK68) Tryz.underlying67 rfl (by kernel_rfl)) rfl ?_
  exact ⟨ff,bs HB⟩
 ·intro c3 H;have c3b0:decide (400<(l1.length:Int))=false:=decide_eq_false c3;have c3b1:decide (400<l1.length)=false:=decide_eq_false (by omega);clear c3;replace H:=bo H;obtain ⟨t72,A6,H⟩:=H
  go_in
  try go_wp2_with (first|((with_reducible refine gate_dst (N:=4) rfl ?_);(try (refine gate_guard (by rfl) ?_;dsimp only));refine bz 4 (cs:=#[.int .i64 0,.int .i64 0,.int .i64 0]) (t:=67) HB ?_;clear HB;intro gb68 hg w7 BK68 GW68 hb HB;clear hb hg))
  go_at_call 78;(with_reducible refine (spec_TableOf.calls k a0 t72 _ A6.out).mono ?_);rintro e w8 ⟨v82,rfl,ho0,hb⟩;have HO81:=am (Kd.R_lower ho0 (below_size (bs HB)));replace BK68:=bb BK68 hb;replace HB:=bq HB hb;(try clear hb);(try clear hb2);(try clear hk);(try clear hi);(try clear ho0)
  revert H;refine ie2 ?_ ?_
  ·intro c9b0 c9b1 H;replace H:=sj3 H;obtain ⟨rfl,rfl,rfl⟩:=H;obtain ⟨Ao10,co10,eo10⟩:=Kd.R_slice HO81.out;subst eo10;have hcz11:=cf3 BK68
   go_wp2
   refine bodyPost_ret (results_cell_row rfl _ _ gb68 67 #[.int .i64 0,.int .i64 0,.int .i64 1] (0,0) _ rfl (kp BK68) Tryz.underlying67 rfl (by kernel_rfl)) rfl ?_
   exact ⟨ff,bs HB⟩
  ·intro c9 c9b0 c9b1 H
   have c9b2:¬ (t72=[]):=fun h_=>c9 (by rw [h_];rfl)
   have H':=am H;clear H;obtain ⟨Ao12,co12,eo12⟩:=Kd.R_slice HO81.out;subst eo12
   go_wp2
   go_loopg [6,7] k (fun kq v6 v7 w'=>∃ (x6_1:Int) (x7_1:Int) (x75_1:Int) (x76_1:Int) (x77_1:Int),v6=.int .i64 x6_1∧v7=.int .i64 x7_1∧Aside0 (spec_TableCheck.l0 kq l1 t72 x6_1 x7_1=some (r1,r2,r3))∧Aside0 (kq≤k)∧Aside0 (Kd.R k87 87 w' w.heap.size (fun _=>True) (.slice Ao12 t72.length co12) t72)∧Aside0 (w'.heap[gb68]? = some (.cells #[.int .i64 x75_1,.int .i64 x76_1,.int .i64 x77_1] 67 (0,0)))∧Aside0 (Below w.heap.size w w'))
   case atStart=>exact ⟨(0),(0),(0),(0),(0),fg,fg,H',⟨Nat.le_refl _⟩,⟨rz HO81.out⟩,⟨ks BK68⟩,⟨bs HB⟩⟩
   case round =>
    clear H'
    try clear c1
    try clear c3
    try clear c3b0
    try clear c3b1
    try clear c9
    try clear c9b0
    try clear c9b1
    try clear c9b2
    try clear BK68
    obtain ⟨x6_1,x7_1,x75_1,x76_1,x77_1,rfl,rfl,HA,HK1,HO_5,BK68,HB⟩:=hrel
    cases gk with
    | zero=>exact absurd HA.out (by simp [spec_TableCheck.l0])
    | succ k1 =>
     have H:=HA.out;clear HA;simp only [spec_TableCheck.l0] at H
     revert H;refine id2 ?_ ?_
     ·intro c13b0 H;have H':=am H;clear H
      go_wp2
      go_loopg [6,8] k1 (fun kq v6 v8 w'=>∃ (x6_2:Int) (x8_2:Int) (x75_2:Int) (x76_2:Int) (x77_2:Int),v6=.int .i64 x6_2∧v8=.int .i64 x8_2∧Aside0 (spec_TableCheck.l1 kq l1 t72 x6_2 x7_1 x8_2=some (r1,r2,r3))∧Aside0 (kq≤k1)∧Aside0 (Kd.R k87 87 w' w.heap.size (fun _=>True) (.slice Ao12 t72.length co12) t72)∧Aside0 (w'.heap[gb68]? = some (.cells #[.int .i64 x75_2,.int .i64 x76_2,.int .i64 x77_2] 67 (0,0)))∧Aside0 (Below w.heap.size w w'))
      case atStart=>exact ⟨(x6_1),(0),(x75_1),(x76_1),(x77_1),fg,fg,H',⟨Nat.le_refl _⟩,⟨rz HO_5.out⟩,⟨ks BK68⟩,⟨bs HB⟩⟩
      case round =>
       clear H'
       try clear c1
       try clear c3
       try clear c3b0
       try clear c3b1
       try clear c9
       try clear c9b0
       try clear c9b1
       try clear c9b2
       try clear c13b0
       try clear BK68
       obtain ⟨x6_2,x8_2,x75_2,x76_2,x77_2,rfl,rfl,HA,HK2,HO_5,BK68,HB⟩:=hrel
       cases gk with
       | zero=>exact absurd HA.out (by simp [spec_TableCheck.l1])
       | succ k2 =>
        have H:=HA.out;clear HA;simp only [spec_TableCheck.l1] at H;have HC14:=am H;clear H
        go_upto_region 11 with (fail)
        go_cut [52] (fun v52 wc=>∃ (kq:Nat) (x52_13:Bool),v52=.bool x52_13∧Aside0 (spec_TableCheck.j2 kq l1 t72 x6_2 x7_1 x8_2 x52_13=some (r1,r2,r3))∧Aside0 (kq≤k2)∧Aside0 (Kd.R k87 87 wc w.heap.size (fun _=>True) (.slice Ao12 t72.length co12) t72)∧Aside0 (wc.heap[gb68]? = some (.cells #[.int .i64 x75_2,.int .i64 x76_2,.int .i64 x77_2] 67 (0,0)))∧Aside0 (Below w.heap.size w wc))
        case first =>
         have H:=HC14.out;clear HC14
         revert H;refine id1 ?_
         intro c15b0 H
         (first|rw [c15b0]|(simp only [i64_w,i32_w];rw [c15b0])|skip)
         revert H;refine id1 ?_
         intro c16b0 H
         revert H;refine id2 ?_ ?_
         ·intro c17b0 H
          revert H;refine id2 ?_ ?_
          ·intro c18b0 H
           revert H;refine id1 ?_
           intro c19b0 H;have H':=am H;clear H
           try go_wp2
           replace HO_5:=am (Kd.R_drew HO_5.out);replace BK68:=am (blk_drew BK68.out);replace HB:=am (below_drew1 HB.out);have p66:0≤(x7_1:Int):=oa;have q66:x7_1<(t72.length:Int):=oa;obtain ⟨ad66,e66,hx66_0,hx66_1,hx66_2,hx66_3⟩:=at_T87 (Kd.R_reads' HO_5.out).2.2 x7_1 p66 q66
           cases e66
           replace p66:=eq_true p66;replace q66:=eq_true q66;have p71:0≤(x6_2:Int):=oa;have q71:x6_2<(l1.length:Int):=oa;obtain ⟨ad71,A71_1,c71_1,e71,hx71_0,hx71_1,hl71_1,hi71_1⟩:=at_T46 HR1.out x6_2 p71 q71;have hw71_1:=hx71_1;have hw71_0:=hx71_0
           cases e71
           replace hx71_0:=cb HB hx71_0;replace hx71_1:=cb HB hx71_1;have HR71_1:=am hi71_1;have HC71_1:=am hl71_1;clear hi71_1 hl71_1;replace p71:=eq_true p71;replace q71:=eq_true q71;have p74:0≤(x7_1:Int):=oa;have q74:x7_1<(t72.length:Int):=oa;obtain ⟨ad74,e74,hx74_0,hx74_1,hx74_2,hx74_3⟩:=at_T87 (Kd.R_reads' HO_5.out).2.2 x7_1 p74 q74;obtain rfl:ad66=ad74:=(by injection e74);replace p74:=eq_true p74;replace q74:=eq_true q74;refine sta 26 (hca hx66_0 (hca hx66_1 (hca hx66_2 (hca hx66_3 (hca (cb HB hw71_0) (hca (cb HB hw71_1) (hca hx74_0 (hca hx74_1 (hca hx74_2 (hc hx74_3)))))))))) (fun hHeld=>?_);refine with_tabW spec_TableCheck.tab11 spec_TableCheck.bits11 (fun HT_ HW_=>?_)
           generalize wr.drew=w20 at HO_5 BK68 HB HR71_1 hx66_0 hx66_1 hx66_2 hx66_3 hx71_0 hx71_1 hx74_0 hx74_1 hx74_2 hx74_3 hHeld ⊢
           refine pz4 0 ?_;refine pz1 4 ?_;refine ta 5 ?_;refine pz8 6 ?_;refine pz4 14 ?_;refine pz4 19 ?_;refine ta 18 ?_;refine ta 23 ?_;refine pz2 24 ?_;refine done_ (done_of HT_.out (by kernel_rfl)) ?_
           try go_wp2
           go_meet
           case rel=>exact ⟨_,((((rd_T46 l1 x6_2).f0).toList == ((rd_T87 t72 x7_1).f0).toList)),fg,H',⟨by have:=HK1.out;have:=HK2.out;first|omega|exact Nat.le_refl _⟩,⟨rz HO_5.out⟩,⟨ks BK68⟩,⟨bs HB⟩⟩
          ·intro c18b0 H;have H':=am H;clear H
           try go_wp2
           replace HO_5:=am (Kd.R_drew HO_5.out);replace BK68:=am (blk_drew BK68.out);replace HB:=am (below_drew1 HB.out);have p66:0≤(x7_1:Int):=oa;have q66:x7_1<(t72.length:Int):=oa;obtain ⟨ad66,e66,hx66_0,hx66_1,hx66_2,hx66_3⟩:=at_T87 (Kd.R_reads' HO_5.out).2.2 x7_1 p66 q66
           cases e66
           replace p66:=eq_true p66;replace q66:=eq_true q66;refine sta 26 (hca hx66_0 (hca hx66_1 (hca hx66_2 (hc hx66_3)))) (fun hHeld=>?_);refine with_tabW spec_TableCheck.tab11 spec_TableCheck.bits11 (fun HT_ HW_=>?_)
           generalize wr.drew=w21 at HO_5 BK68 HB hx66_0 hx66_1 hx66_2 hx66_3 hHeld ⊢
           refine pz4 0 ?_;refine pz1 4 ?_;refine ta 5 ?_;refine pz8 6 ?_;refine pz8 14 ?_;refine pz4 22 ?_;refine done_ (done_of HT_.out (by kernel_rfl)) ?_
           try go_wp2
           go_meet
           case rel=>exact ⟨_,(false),fg,H',⟨by have:=HK1.out;have:=HK2.out;first|omega|exact Nat.le_refl _⟩,⟨rz HO_5.out⟩,⟨ks BK68⟩,⟨bs HB⟩⟩
         ·intro c17b0 H;have H':=am H;clear H
          try go_wp2
          replace HO_5:=am (Kd.R_drew HO_5.out);replace BK68:=am (blk_drew BK68.out);replace HB:=am (below_drew1 HB.out);have p66:0≤(x7_1:Int):=oa;have q66:x7_1<(t72.length:Int):=oa;obtain ⟨ad66,e66,hx66_0,hx66_1,hx66_2,hx66_3⟩:=at_T87 (Kd.R_reads' HO_5.out).2.2 x7_1 p66 q66
          cases e66
          replace p66:=eq_true p66;replace q66:=eq_true q66;refine sta 26 (hca hx66_0 (hca hx66_1 (hca hx66_2 (hc hx66_3)))) (fun hHeld=>?_);refine with_tabW spec_TableCheck.tab11 spec_TableCheck.bits11 (fun HT_ HW_=>?_)
          generalize wr.drew=w22 at HO_5 BK68 HB hx66_0 hx66_1 hx66_2 hx66_3 hHeld ⊢
          refine pz4 0 ?_;refine pz1 4 ?_;refine ta 5 ?_;refine pz8 6 ?_;refine pz8 14 ?_;refine pz4 22 ?_;refine done_ (done_of HT_.out (by kernel_rfl)) ?_
          try go_wp2
          go_meet
          case rel=>exact ⟨_,(false),fg,H',⟨by have:=HK1.out;have:=HK2.out;first|omega|exact Nat.le_refl _⟩,⟨rz HO_5.out⟩,⟨ks BK68⟩,⟨bs HB⟩⟩
        case rest =>
         clear HC14
         try clear c1
         try clear c3
         obtain ⟨kq,x52_13,rfl,HA,HJ13,HO_5,BK68,HB⟩:=hcut
         cases kq with
         | zero=>exact absurd HA.out (by simp [spec_TableCheck.j2])
         | succ kj13 =>
          have H:=HA.out;clear HA;simp only [spec_TableCheck.j2] at H
          obtain rfl|rfl:=bt x52_13
          ·replace H:=itT H
           revert H;refine id1 ?_
           intro c24b0 H
           revert H;refine id1 ?_
           intro c25b0 H
           revert H;refine id1 ?_
           intro c26b0 H
           revert H;refine id1 ?_
           intro c27b0 H;replace H:=bo H;obtain ⟨t80,A28,H⟩:=H
           revert H;refine ip2 ?_ ?_
           ·intro c29 H;have c29b0:decide (0≤t80)=true:=decide_eq_true c29;clear c29;replace H:=sj3 H;obtain ⟨rfl,rfl,rfl⟩:=H
            try go_wp2
            replace HO_5:=am (Kd.R_drew HO_5.out);replace BK68:=am (blk_drew BK68.out);replace HB:=am (below_drew1 HB.out);have p69:0≤(x7_1:Int):=oa;have q69:x7_1<(t72.length:Int):=oa;obtain ⟨ad69,e69,hx69_0,hx69_1,hx69_2,hx69_3⟩:=at_T87 (Kd.R_reads' HO_5.out).2.2 x7_1 p69 q69
            cases e69
            replace p69:=eq_true p69;replace q69:=eq_true q69;have p63:0≤(x6_2:Int):=oa;have q63:x6_2<(l1.length:Int):=oa;obtain ⟨ad63,A63_1,c63_1,e63,hx63_0,hx63_1,hl63_1,hi63_1⟩:=at_T46 HR1.out x6_2 p63 q63;have hw63_1:=hx63_1;have hw63_0:=hx63_0
            cases e63
            replace hx63_0:=cb HB hx63_0;replace hx63_1:=cb HB hx63_1;have HR63_1:=am hi63_1;have HC63_1:=am hl63_1;clear hi63_1 hl63_1;replace p63:=eq_true p63;replace q63:=eq_true q63;refine sta 11 (hca hx69_0 (hca hx69_1 (hca hx69_2 (hca hx69_3 (hca (cb HB hw63_0) (hc (cb HB hw63_1))))))) (fun hHeld=>?_);refine with_tabW spec_TableCheck.tab12 spec_TableCheck.bits12 (fun HT_ HW_=>?_)
            generalize wc.drew=w30 at HO_5 BK68 HB HR63_1 hx69_0 hx69_1 hx69_2 hx69_3 hx63_0 hx63_1 hHeld ⊢
            refine pz4 0 ?_;refine pz3 5 ?_;refine ta 4 ?_;refine ta 8 ?_;refine oA 9 62 HT_ (fun K hK=>?_);refine gA Tryz.func79 #[.string ((rd_T87 t72 x7_1).f3),.agg #[.string ((rd_T46 l1 x6_2).f0),.slice A63_1 ((rd_T46 l1 x6_2).f1).length c63_1]] ?_;(with_reducible refine (spec_FormRight.calls kj13 ((rd_T87 t72 x7_1).f3) ((rd_T46 l1 x6_2).f0) _ _ ((rd_T46 l1 x6_2).f1) t80 _ ?side1 ?side2 A28.out).mono ?_)
            (case side1=>exact sd (Kd.C_below HR63_1.out HB.out))
            (case side2=>exact HC63_1.out)
            rintro e w31 ⟨rfl,hb⟩;have HS0_:=(hb.cell (World.block_lt_of_cell? _ _ (hHeld.1))).trans (hHeld.1);have HS1_:=(hb.cell (World.block_lt_of_cell? _ _ (hHeld.2.1))).trans (hHeld.2.1);have HS2_:=(hb.cell (World.block_lt_of_cell? _ _ (hHeld.2.2.1))).trans (hHeld.2.2.1);have HS3_:=(hb.cell (World.block_lt_of_cell? _ _ (hHeld.2.2.2.1))).trans (hHeld.2.2.2.1);refine ⟨_,rfl,?_⟩;replace HO_5:=am (Kd.R_below (rs HO_5) hb);replace BK68:=bb BK68 hb;replace HB:=bq HB hb;(try clear hb);(try clear hb2);(try clear hk);(try clear hi);refine hK.out _ _ ⟨HS0_,HS1_,HS2_,HS3_,((cb HB hw63_0).trans rfl),((cb HB hw63_1).trans rfl)⟩ (fun hHeld=>?_);clear hK K;refine nA 62 ?_;refine pz1 10 ?_;refine done_ (done_of HT_.out (by kernel_rfl)) ?_;have hcz32:=cf3 BK68
            try go_wp2
            refine bodyPost_ret (results_cell_row rfl _ _ gb68 67 #[.int .i64 x6_2,.int .i64 t80,.int .i64 3] (0,0) _ rfl (kp BK68) Tryz.underlying67 rfl (by kernel_rfl)) rfl ?_
            exact ⟨ff,bs HB⟩
           ·intro c29 H;have c29b0:decide (0≤t80)=false:=decide_eq_false c29;clear c29;have H':=am H;clear H
            try go_wp2
            replace HO_5:=am (Kd.R_drew HO_5.out);replace BK68:=am (blk_drew BK68.out);replace HB:=am (below_drew1 HB.out);have p69:0≤(x7_1:Int):=oa;have q69:x7_1<(t72.length:Int):=oa;obtain ⟨ad69,e69,hx69_0,hx69_1,hx69_2,hx69_3⟩:=at_T87 (Kd.R_reads' HO_5.out).2.2 x7_1 p69 q69
            cases e69
            replace p69:=eq_true p69;replace q69:=eq_true q69;have p63:0≤(x6_2:Int):=oa;have q63:x6_2<(l1.length:Int):=oa;obtain ⟨ad63,A63_1,c63_1,e63,hx63_0,hx63_1,hl63_1,hi63_1⟩:=at_T46 HR1.out x6_2 p63 q63;have hw63_1:=hx63_1;have hw63_0:=hx63_0
            cases e63
            replace hx63_0:=cb HB hx63_0;replace hx63_1:=cb HB hx63_1;have HR63_1:=am hi63_1;have HC63_1:=am hl63_1;clear hi63_1 hl63_1;replace p63:=eq_true p63;replace q63:=eq_true q63;refine sta 11 (hca hx69_0 (hca hx69_1 (hca hx69_2 (hca hx69_3 (hca (cb HB hw63_0) (hc (cb HB hw63_1))))))) (fun hHeld=>?_);refine with_tabW spec_TableCheck.tab12 spec_TableCheck.bits12 (fun HT_ HW_=>?_)
            generalize wc.drew=w33 at HO_5 BK68 HB HR63_1 hx69_0 hx69_1 hx69_2 hx69_3 hx63_0 hx63_1 hHeld ⊢
            refine pz4 0 ?_;refine pz3 5 ?_;refine ta 4 ?_;refine ta 8 ?_;refine oA 9 62 HT_ (fun K hK=>?_);refine gA Tryz.func79 #[.string ((rd_T87 t72 x7_1).f3),.agg #[.string ((rd_T46 l1 x6_2).f0),.slice A63_1 ((rd_T46 l1 x6_2).f1).length c63_1]] ?_;(with_reducible refine (spec_FormRight.calls kj13 ((rd_T87 t72 x7_1).f3) ((rd_T46 l1 x6_2).f0) _ _ ((rd_T46 l1 x6_2).f1) t80 _ ?side1 ?side2 A28.out).mono ?_)
            (case side1=>exact sd (Kd.C_below HR63_1.out HB.out))
            (case side2=>exact HC63_1.out)
            rintro e w34 ⟨rfl,hb⟩;have HS0_:=(hb.cell (World.block_lt_of_cell? _ _ (hHeld.1))).trans (hHeld.1);have HS1_:=(hb.cell (World.block_lt_of_cell? _ _ (hHeld.2.1))).trans (hHeld.2.1);have HS2_:=(hb.cell (World.block_lt_of_cell? _ _ (hHeld.2.2.1))).trans (hHeld.2.2.1);have HS3_:=(hb.cell (World.block_lt_of_cell? _ _ (hHeld.2.2.2.1))).trans (hHeld.2.2.2.1);refine ⟨_,rfl,?_⟩;replace HO_5:=am (Kd.R_below (rs HO_5) hb);replace BK68:=bb BK68 hb;replace HB:=bq HB hb;(try clear hb);(try clear hb2);(try clear hk);(try clear hi);refine hK.out _ _ ⟨HS0_,HS1_,HS2_,HS3_,((cb HB hw63_0).trans rfl),((cb HB hw63_1).trans rfl)⟩ (fun hHeld=>?_);clear hK K;refine nA 62 ?_;refine pz1 10 ?_;refine done_ (done_of HT_.out (by kernel_rfl)) ?_
            try go_wp2
            go_roundg kj13
            case measure=>have:=HK1.out;have:=HK2.out;have:=HJ13.out;omega
            case rel=>exact ⟨(wrap64 (x6_2+1)),(wrap64 (x8_2+1)),(x75_2),(x76_2),(x77_2),fg,fg,H',⟨by have:=HK1.out;have:=HK2.out;have:=HJ13.out;omega⟩,⟨rz HO_5.out⟩,⟨ks BK68⟩,⟨bs HB⟩⟩
          ·replace H:=itF H
           revert H;refine id1 ?_
           intro c35b0 H
           revert H;refine id1 ?_
           intro c36b0 H
           revert H;refine id2 ?_ ?_
           ·intro c37b0 H;replace H:=sj3 H;obtain ⟨rfl,rfl,rfl⟩:=H;have p73:0≤(x7_1:Int):=oa;have q73:x7_1<(t72.length:Int):=oa;obtain ⟨ad73,e73,hx73_0,hx73_1,hx73_2,hx73_3⟩:=at_T87 (Kd.R_reads' HO_5.out).2.2 x7_1 p73 q73
            cases e73
            replace p73:=eq_true p73;replace q73:=eq_true q73;have hcz38:=cf3 BK68
            go_wp2
            refine bodyPost_ret (results_cell_row rfl _ _ gb68 67 #[.int .i64 x6_2,.int .i64 0,.int .i64 4] (0,0) _ rfl (kp BK68) Tryz.underlying67 rfl (by kernel_rfl)) rfl ?_
            exact ⟨ff,bs HB⟩
           ·intro c37b0 H;have H':=am H;clear H;have p73:0≤(x7_1:Int):=oa;have q73:x7_1<(t72.length:Int):=oa;obtain ⟨ad73,e73,hx73_0,hx73_1,hx73_2,hx73_3⟩:=at_T87 (Kd.R_reads' HO_5.out).2.2 x7_1 p73 q73
            cases e73
            replace p73:=eq_true p73;replace q73:=eq_true q73
            go_wp2
            go_roundg kj13
            case measure=>have:=HK1.out;have:=HK2.out;have:=HJ13.out;omega
            case rel=>exact ⟨(x6_2),(wrap64 (x7_1+1)),(x75_2),(x76_2),(x77_2),fg,fg,H',⟨by have:=HK1.out;have:=HK2.out;have:=HJ13.out;omega⟩,⟨rz HO_5.out⟩,⟨ks BK68⟩,⟨bs HB⟩⟩
     ·intro c13b0 H
      revert H;refine id2 ?_ ?_
      ·intro c39b0 H
       revert H;refine id1 ?_
       intro c40b0 H;obtain ⟨ji41,hji41⟩:∃ j_:Int,(wrap64 ((t72.length:Int) - 1))=j_:=⟨_,rfl⟩
       replace H:(if 0≤(ji41) then (if (ji41)<(t72.length:Int) then (if ((rd_T46 l1 x6_1).f0).toList=((rd_T87 t72 (ji41)).f0).toList then (some (x6_1,0,7)) else (some (x6_1,0,3))) else (none)) else (none))=some (r1,r2,r3):=by first|(rw [hji41] at H;exact H)|(simp only [hji41] at H ⊢;exact H)
       have hji41w:(IntKind.i64.wrap ((t72.length:Int) - 1))=ji41:=(i64_w _).trans hji41
       revert H;refine id1 ?_
       intro c42b0 H
       revert H;refine id1 ?_
       intro c43b0 H
       revert H;refine ie2 ?_ ?_
       ·intro c44b0 c44b1 H;replace H:=sj3 H;obtain ⟨rfl,rfl,rfl⟩:=H
        try go_wp2
        replace HO_5:=am (Kd.R_drew HO_5.out);replace BK68:=am (blk_drew BK68.out);replace HB:=am (below_drew1 HB.out);have p65:0≤(x6_1:Int):=oa;have q65:x6_1<(l1.length:Int):=oa;obtain ⟨ad65,A65_1,c65_1,e65,hx65_0,hx65_1,hl65_1,hi65_1⟩:=at_T46 HR1.out x6_1 p65 q65;have hw65_1:=hx65_1;have hw65_0:=hx65_0
        cases e65
        replace hx65_0:=cb HB hx65_0;replace hx65_1:=cb HB hx65_1;have HR65_1:=am hi65_1;have HC65_1:=am hl65_1;clear hi65_1 hl65_1;replace p65:=eq_true p65;replace q65:=eq_true q65;have p70:0≤((ji41):Int):=oa;have q70:(ji41)<(t72.length:Int):=oa;obtain ⟨ad70,e70,hx70_0,hx70_1,hx70_2,hx70_3⟩:=at_T87 (Kd.R_reads' HO_5.out).2.2 (ji41) p70 q70
        cases e70
        replace p70:=eq_true p70;replace q70:=eq_true q70;refine sta 13 (hca (cb HB hw65_0) (hca (cb HB hw65_1) (hca hx70_0 (hca hx70_1 (hca hx70_2 (hc hx70_3)))))) (fun hHeld=>?_);refine with_tabW spec_TableCheck.tab21 spec_TableCheck.bits21 (fun HT_ HW_=>?_)
        generalize wr.drew=w45 at HO_5 BK68 HB HR65_1 hx65_0 hx65_1 hx70_0 hx70_1 hx70_2 hx70_3 hHeld ⊢
        refine pz4 0 ?_;refine pz4 5 ?_;refine pz2 9 ?_;refine ta 4 ?_;refine ta 11 ?_;refine pz1 12 ?_;refine done_ (done_of HT_.out (by kernel_rfl)) ?_;have hcz46:=cf3 BK68
        try go_wp2
        refine bodyPost_ret (results_cell_row rfl _ _ gb68 67 #[.int .i64 x6_1,.int .i64 0,.int .i64 7] (0,0) _ rfl (kp BK68) Tryz.underlying67 rfl (by kernel_rfl)) rfl ?_
        exact ⟨by first|rfl|(simp [errW_none,errW_some] <;> rfl)|(simp only [← hji41];first|rfl|(simp [errW_none,errW_some] <;> rfl))|(simp [*,errW_none,errW_some] <;> rfl),bs HB⟩
       ·intro c44 c44b0 c44b1 H;replace H:=sj3 H;obtain ⟨rfl,rfl,rfl⟩:=H
        try go_wp2
        replace HO_5:=am (Kd.R_drew HO_5.out);replace BK68:=am (blk_drew BK68.out);replace HB:=am (below_drew1 HB.out);have p65:0≤(x6_1:Int):=oa;have q65:x6_1<(l1.length:Int):=oa;obtain ⟨ad65,A65_1,c65_1,e65,hx65_0,hx65_1,hl65_1,hi65_1⟩:=at_T46 HR1.out x6_1 p65 q65;have hw65_1:=hx65_1;have hw65_0:=hx65_0
        cases e65
        replace hx65_0:=cb HB hx65_0;replace hx65_1:=cb HB hx65_1;have HR65_1:=am hi65_1;have HC65_1:=am hl65_1;clear hi65_1 hl65_1;replace p65:=eq_true p65;replace q65:=eq_true q65;have p70:0≤((ji41):Int):=oa;have q70:(ji41)<(t72.length:Int):=oa;obtain ⟨ad70,e70,hx70_0,hx70_1,hx70_2,hx70_3⟩:=at_T87 (Kd.R_reads' HO_5.out).2.2 (ji41) p70 q70
        cases e70
        replace p70:=eq_true p70;replace q70:=eq_true q70;refine sta 13 (hca (cb HB hw65_0) (hca (cb HB hw65_1) (hca hx70_0 (hca hx70_1 (hca hx70_2 (hc hx70_3)))))) (fun hHeld=>?_);refine with_tabW spec_TableCheck.tab21 spec_TableCheck.bits21 (fun HT_ HW_=>?_)
        generalize wr.drew=w47 at HO_5 BK68 HB HR65_1 hx65_0 hx65_1 hx70_0 hx70_1 hx70_2 hx70_3 hHeld ⊢
        refine pz4 0 ?_;refine pz4 5 ?_;refine pz2 9 ?_;refine ta 4 ?_;refine ta 11 ?_;refine pz1 12 ?_;refine done_ (done_of HT_.out (by kernel_rfl)) ?_;have hcz48:=cf3 BK68
        try go_wp2
        refine bodyPost_ret (results_cell_row rfl _ _ gb68 67 #[.int .i64 x6_1,.int .i64 0,.int .i64 3] (0,0) _ rfl (kp BK68) Tryz.underlying67 rfl (by kernel_rfl)) rfl ?_
        exact ⟨by first|rfl|(simp [errW_none,errW_some] <;> rfl)|(simp only [← hji41];first|rfl|(simp [errW_none,errW_some] <;> rfl))|(simp [*,errW_none,errW_some] <;> rfl),bs HB⟩
      ·intro c39b0 H;replace H:=sj3 H;obtain ⟨rfl,rfl,rfl⟩:=H;have hcz49:=cf3 BK68
       go_wp2
       refine bodyPost_ret (results_cell_row rfl _ _ gb68 67 #[.int .i64 0,.int .i64 0,.int .i64 0] (0,0) _ rfl (kp BK68) Tryz.underlying67 rfl (by kernel_rfl)) rfl ?_
       exact ⟨ff,bs HB⟩
theorem spec_PartOf.calls (a0_0:ByteArray) (A0_1:Option Addr) (c0_1:Nat) (l0_1:List (S77)) (a1:Int) (a2:Int) (r:ByteArray) (w:World) (hr0_1:Kd.C k77 w A0_1 l0_1.length l0_1) (hc0_1:l0_1.length≤c0_1) (H:spec_PartOf.f a0_0 l0_1 a1 a2=some r) :
  Calls Tryz.prog 55 #[.agg #[.string a0_0,.slice A0_1 l0_1.length c0_1],.int .i64 a1,.int .i64 a2] w fun e w'=>e=.returned (.string r)∧Below w.heap.size w w':=by
 have hu46:=Tryz.underlying46;have HR0_1:=am hr0_1;have HC0_1:=am hc0_1;clear hr0_1 hc0_1;have HB:=am (Below.refl w.heap.size w);unfold spec_PartOf.f at H
 revert H;refine id2 ?_ ?_
 ·intro c4b0 H;obtain rfl:=si H
  go_in
  go_wp2_with (first|((with_reducible refine gate_dst (N:=3) rfl ?_);(try (refine gate_guard (by rfl) ?_;dsimp only));refine bz 3 (cs:=#[.string a0_0,.slice A0_1 l0_1.length c0_1]) (t:=46) HB ?_;clear HB;intro gb23 hg w5 BK23 GW23 hb HB;clear hb hg))
  go_ret
  exact ⟨ff,bs HB⟩
 ·intro c4b0 H
  revert H;refine ip2 ?_ ?_
  ·intro c6 H;have c6b0:decide ((l0_1.length:Int)≤a1)=true:=decide_eq_true c6;clear c6;obtain rfl:=si H
   go_in
   go_wp2_with (first|((with_reducible refine gate_dst (N:=3) rfl ?_);(try (refine gate_guard (by rfl) ?_;dsimp only));refine bz 3 (cs:=#[.string a0_0,.slice A0_1 l0_1.length c0_1]) (t:=46) HB ?_;clear HB;intro gb23 hg w7 BK23 GW23 hb HB;clear hb hg;have hcz8:=cf2 BK23))
   go_ret
   exact ⟨ff,bs HB⟩
  ·intro c6 H;have c6b0:decide ((l0_1.length:Int)≤a1)=false:=decide_eq_false c6;clear c6
   revert H;refine id2 ?_ ?_
   ·intro c9b0 H;obtain rfl:=si H
    go_in
    go_wp2_with (first|((with_reducible refine gate_dst (N:=3) rfl ?_);(try (refine gate_guard (by rfl) ?_;dsimp only));refine bz 3 (cs:=#[.string a0_0,.slice A0_1 l0_1.length c0_1]) (t:=46) HB ?_;clear HB;intro gb23 hg w10 BK23 GW23 hb HB;clear hb hg;have hcz11:=cf2 BK23))
    go_ret
    exact ⟨ff,bs HB⟩
   ·intro c9b0 H
    by_cases c12:0≤a1
    ·rw [if_pos c12] at H;have c12b0:decide (0≤a1)=true:=decide_eq_true c12;clear c12
     revert H;refine id1 ?_
     intro c13b0 H
     revert H;refine ip2 ?_ ?_
     ·intro c14 H;have c14b0:decide ((((rd_T77 l0_1 a1).f0).length:Int)≤a2)=true:=decide_eq_true c14;clear c14;obtain rfl:=si H
      go_in
      go_wp2_with (first|((with_reducible refine gate_dst (N:=3) rfl ?_);(try (refine gate_guard (by rfl) ?_;dsimp only));refine bz 3 (cs:=#[.string a0_0,.slice A0_1 l0_1.length c0_1]) (t:=46) HB ?_;clear HB;intro gb23 hg w15 BK23 GW23 hb HB;clear hb hg;have hcz16:=cf2 BK23;have p21:0≤(a1:Int):=oa;have q21:a1<(l0_1.length:Int):=oa;obtain ⟨ad21,A21_0,c21_0,e21,hx21_0,hl21_0,hi21_0⟩:=at_T77 HR0_1.out a1 p21 q21;cases e21;replace hx21_0:=cb HB hx21_0;have HR21_0:=am hi21_0;have HC21_0:=am hl21_0;clear hi21_0 hl21_0;replace p21:=eq_true p21;replace q21:=eq_true q21))
      go_ret
      exact ⟨ff,bs HB⟩
     ·intro c14 H;have c14b0:decide ((((rd_T77 l0_1 a1).f0).length:Int)≤a2)=false:=decide_eq_false c14;clear c14
      revert H;refine id1 ?_
      intro c17b0 H
      revert H;refine id1 ?_
      intro c18b0 H;obtain rfl:=si H
      go_in
      go_wp2_with (first|((with_reducible refine gate_dst (N:=3) rfl ?_);(try (refine gate_guard (by rfl) ?_;dsimp only));refine bz 3 (cs:=#[.string a0_0,.slice A0_1 l0_1.length c0_1]) (t:=46) HB ?_;clear HB;intro gb23 hg w19 BK23 GW23 hb HB;clear hb hg;have hcz20:=cf2 BK23;have p21:0≤(a1:Int):=oa;have q21:a1<(l0_1.length:Int):=oa;obtain ⟨ad21,A21_0,c21_0,e21,hx21_0,hl21_0,hi21_0⟩:=at_T77 HR0_1.out a1 p21 q21;cases e21;replace hx21_0:=cb HB hx21_0;have HR21_0:=am hi21_0;have HC21_0:=am hl21_0;clear hi21_0 hl21_0;replace p21:=eq_true p21;replace q21:=eq_true q21;have p22:0≤(a1:Int):=oa;have q22:a1<(l0_1.length:Int):=oa;obtain ⟨ad22,A22_0,c22_0,e22,hx22_0,hl22_0,hi22_0⟩:=at_T77 HR0_1.out a1 p22 q22;obtain rfl:ad21=ad22:=(by injection e22);replace hx22_0:=cb HB hx22_0;have HR22_0:=am hi22_0;have HC22_0:=am hl22_0;clear hi22_0 hl22_0;replace p22:=eq_true p22;replace q22:=eq_true q22;have ea_:=Option.some.inj (hx21_0.symm.trans hx22_0);injection ea_ with ea_ en_ ec_;subst ea_;subst ec_;clear en_;have p24:0≤(a2:Int):=oa;have q24:a2<(((rd_T77 l0_1 a1).f0).length:Int):=oa;obtain ⟨ad24,e24,hx24_0⟩:=Kd.at_string HR22_0.out a2 p24 q24;cases e24;replace hx24_0:=cb HB hx24_0;replace p24:=eq_true p24;replace q24:=eq_true q24))
      go_ret
      exact ⟨ff,bs HB⟩
    ·rw [if_neg c12] at H
     exact absurd H (by simp)
theorem spec_l05Num.calls (k:Nat) (a0_0:ByteArray) (A0_1:Option Addr) (c0_1:Nat) (l0_1:List (S77)) (a1:Int) (r:Int) (w:World) (hr0_1:Kd.C k77 w A0_1 l0_1.length l0_1) (hc0_1:l0_1.length≤c0_1) (H:spec_l05Num.f k a0_0 l0_1 a1=some r) :
  Calls Tryz.prog 56 #[.agg #[.string a0_0,.slice A0_1 l0_1.length c0_1],.int .i64 a1] w fun e w'=>e=.returned (.int .i64 r)∧Below w.heap.size w w':=by
 have hu46:=Tryz.underlying46;have HR0_1:=am hr0_1;have HC0_1:=am hc0_1;clear hr0_1 hc0_1;have HB:=am (Below.refl w.heap.size w);unfold spec_l05Num.f at H;replace H:=bo H;obtain ⟨t12,A3,H⟩:=H;replace H:=bo H;obtain ⟨⟨t13,t14⟩,A4,H⟩:=H;(try dsimp only at H);obtain rfl:=si H
 go_in
 go_wp2_with (first|((with_reducible refine gate_dst (N:=2) rfl ?_);refine bz 2 (cs:=#[.string a0_0,.slice A0_1 l0_1.length c0_1]) (t:=46) HB ?_;clear HB;intro gb9 hg w5 BK9 GW9 hb HB;clear hb hg;have hcz6_0:w5.cell? ⟨gb9,0,none⟩=some (.string a0_0):=(blk_cell BK9.out 0).trans rfl;have hcz6_1:w5.cell? ⟨gb9,1,none⟩=some (.slice A0_1 l0_1.length c0_1):=(blk_cell BK9.out 1).trans rfl;have hfz6_0:=blk_frozen BK9.out 0;have hfz6_1:=blk_frozen BK9.out 1)|((first|((with_reducible refine gate_callee (f:=55) rfl ?_);refine goesL_ (some 10) rfl rfl Tryz.func55 (by kernel_rfl) rfl #[.agg #[.string a0_0,.slice A0_1 l0_1.length c0_1],.int .i64 a1,.int .i64 0] rfl (by (try simp only [List.map_toArray,List.map_cons,List.map_nil]);first|done|rfl|(simp only [List.length_drop,List.length_take];rfl)) ?_;(with_reducible refine (spec_PartOf.calls a0_0 _ _ l0_1 a1 0 t12 _ (Kd.C_below HR0_1.out (bs HB)) HC0_1.out A3.out).mono ?_);rintro e w7 ⟨rfl,hb⟩;refine ⟨_,rfl,?_⟩)|(go_at_call 55;(with_reducible refine (spec_PartOf.calls a0_0 _ _ l0_1 a1 0 t12 _ (Kd.C_below HR0_1.out (bs HB)) HC0_1.out A3.out).mono ?_);rintro e w7 ⟨rfl,hb⟩));replace BK9:=bb BK9 hb;replace HB:=bq HB hb;(try clear hb);(try clear hb2);(try clear hk);(try clear hi))|((first|((with_reducible refine gate_callee (f:=80) rfl ?_);refine goesL_ (some 11) rfl rfl Tryz.func80 (by kernel_rfl) rfl #[.string t12] rfl (by (try simp only [List.map_toArray,List.map_cons,List.map_nil]);first|done|rfl|(simp only [List.length_drop,List.length_take];rfl)) ?_;(with_reducible refine (spec_l01Num.calls k t12 t13 t14 _ A4.out).mono ?_);rintro e w8 ⟨rfl,hb⟩;refine ⟨_,rfl,?_⟩)|(go_at_call 80;(with_reducible refine (spec_l01Num.calls k t12 t13 t14 _ A4.out).mono ?_);rintro e w8 ⟨rfl,hb⟩));replace BK9:=bb BK9 hb;replace HB:=bq HB hb;(try clear hb);(try clear hb2);(try clear hk);(try clear hi)))
 go_ret
 exact ⟨ff,bs HB⟩
end Go.Proofs.YtaememmnhmebcaaGreatDoor.QB
