-- Merged by a program of this session (wip/tool/pack.py) out of its own texts for this claim.
import Derived.Test.YtjbdljhjplidmaaDoorKFnTables0
import Derived.Test.YtjbdljhjplidmaaDoorKFnTables1
import Derived.Test.YtjbdljhjplidmaaDoorKFnTables2
import Derived.Test.YtjbdljhjplidmaaDoorKFnTables3
import Derived.Test.YtjbdljhjplidmaaDoorKFnTables4
import Derived.Test.YtjbdljhjplidmaaDoorKFnTables6
namespace Go.Proofs.YtjbdljhjplidmaaDoor.QF
open Go.RowKit Go.Proofs.YtjbdljhjplidmaaDoorW.PrintWords Go.Proofs.YtjbdljhjplidmaaDoorW.PrintLast Go.Proofs.YtjbdljhjplidmaaDoorW.PrintMore
attribute [local go_sem] max2_int min2_int max_two min_two max_three min_three max_four min_four   -- for this text's walks alone
set_option linter.unusedVariables false
set_option linter.unusedSimpArgs false
def spec_FormRight.T21 : Bool × List (List Nat × List Nat) := (true, [([], []), ([], []), ([1], [1]), ([2], [2]), ([0, 3], [0, 3]), ([4], [4]), ([5], [5]), ([5], [5]), ([7, 5], [5, 7]), ([6, 8, 5], [5, 6, 8]), ([5, 9], [5, 9]), ([10, 5], [10]), ([11], [11]), ([11], [11]), ([12, 13, 11], [11, 12, 13]), ([14, 11], [11, 14]), ([11], [11]), ([16, 11], [11, 16]), ([11], [11]), ([17, 18, 11], [11, 17, 18]), ([19, 11], [11, 19]), ([15, 20, 11, 11], [11, 15, 20]), ([21, 11], [11, 21]), ([11, 22], [11, 22])])
def spec_FormRight.B21 : List Nat := [0, 0, 2, 6, 15, 31, 63, 63, 191, 511, 1023, 2047, 4095, 4095, 16383, 32767, 4095, 69631, 4095, 462847, 987135, 2097151, 4194303, 8388607]
theorem spec_FormRight.tab21 : rtab .any (opsOf Tryd.f12 21) = spec_FormRight.T21 := by kernel_rfl
theorem spec_FormRight.bits21 : waitsOk spec_FormRight.T21.2 spec_FormRight.B21 = true := by kernel_rfl
set_option maxHeartbeats 8000000 in
set_option maxRecDepth 100000 in
theorem spec_FormRight.calls (k:Nat) (a0:ByteArray) (a1_0:ByteArray) (A1_1:Option Addr) (c1_1:Nat) (l1_1:List (S65)) (r:Int) (w:World) (hr1_1:Kd.C k65 w A1_1 l1_1.length l1_1) (hc1_1:l1_1.length≤c1_1) (h:spec_FormRight.f k a0 a1_0 l1_1=some r) :
  Calls Tryd.prog 12 #[.string a0,.agg #[.string a1_0,.slice A1_1 l1_1.length c1_1]] w fun e w'=>e=.returned (.int .i64 r)∧Below w.heap.size w w':=by
 have hu36:=Tryd.underlying36;have hu65:=Tryd.underlying65;have HR1_1:=am hr1_1;have HC1_1:=am hc1_1;clear hr1_1 hc1_1;have HB:=am (Below.refl w.heap.size w);have H:(if (a0.size:Int)>20000 then (some 0) else (spec_FormRight.l0 k a0 (([]:List Int)) (-1) 0 a1_0 l1_1))=some r:=h;clear h
 by_cases c3:(a0.size:Int)>20000
 ·rw [if_pos c3] at H;have c3b0:decide (20000<(a0.size:Int))=true:=decide_eq_true c3;have c3b1:decide (20000<a0.size)=true:=decide_eq_true (by omega);clear c3;obtain rfl:=Option.some.inj H
  go_enter Tryd.func12,Tryd.ntmps12
  go_wp2_with (first|((with_reducible refine gate_dst (N:=3) rfl ?_);(try (refine gate_guard (by rfl) ?_;dsimp only));refine bx 3 (cs:=#[.string a1_0,.slice A1_1 l1_1.length c1_1]) (t:=36) ?_;intro gb184 hg w4 hbox hb;have BK184:=am (hbox);have GW184:=am ((gs hg (bs HB)));have GE184:=am ((gs hg (bs HB)));replace HB:=am (below_step (bs HB) hb);clear hb hbox hg))
  go_ret
  exact ⟨ff,bs HB⟩
 ·rw [if_neg c3] at H;have c3b0:decide (20000<(a0.size:Int))=false:=decide_eq_false c3;have c3b1:decide (20000<a0.size)=false:=decide_eq_false (by omega);clear c3;obtain ⟨y185,hy185⟩:∃ y_:List Int,y_=(([]:List Int)):=⟨_,rfl⟩
  replace H:(spec_FormRight.l0 k a0 y185 (-1) 0 a1_0 l1_1)=some r:=by first|(rw [hy185];with_reducible exact H)|(have H2_:=(Option.bind_some _ _).symm.trans H;rw [hy185];with_reducible exact H2_)|(have H2_:=(Option.bind_some _ _).symm.trans H;with_reducible exact H2_)|with_reducible exact H|(rw [hy185];exact H)|exact H
  have Ny185:=am hy185;clear hy185;have H':=am H;clear H
  go_enter Tryd.func12,Tryd.ntmps12
  go_wp2_with (first|((with_reducible refine gate_dst (N:=3) rfl ?_);(try (refine gate_guard (by rfl) ?_;dsimp only));refine bx 3 (cs:=#[.string a1_0,.slice A1_1 l1_1.length c1_1]) (t:=36) ?_;intro gb184 hg w5 hbox hb;have BK184:=am (hbox);have GW184:=am ((gs hg (bs HB)));have GE184:=am ((gs hg (bs HB)));replace HB:=am (below_step (bs HB) hb);clear hb hbox hg)|((with_reducible refine gate_dst (N:=13) rfl ?_);(try (refine gate_guard (by rfl) ?_;dsimp only));refine Kd.R_lit (Kd.int .u8) _ 5 ?hg (N:=13) ?hd (xs:=([]:List Int)) (inner:=[]) (ok:=fun _=>True) (okp:=fun _=>True) ?hr ?hp (fun _ hk=>hk) trivial (Below.refl _ _) (Nat.le_refl _) (by simp) ?_;(case hd=>rfl);(case hg=>rfl);(case hr=>first|(go_simp;done)|(go_simp;rfl));(case hp=>exact (Reps.none _ _));intro v186 w6 ho7 hb hg_ hnew_;clear hg_ hnew_;(first|rw [← Ny185.out] at ho7|(simp only [Int.reduceToNat] at ho7;rw [← Ny185.out] at ho7));have HO187:=am (Kd.R_lower ho7 (below_size (bs HB)));replace BK184:=am (blk_below (ks BK184) hb);replace HB:=am (below_step (bs HB) hb);clear hb ho7))
  go_loopg [5,6,7] k (fun kq v5 v6 v7 w'=>∃ (x5_1:List Int) (x6_1:Int) (x7_1:Int),v6=.int .i64 x6_1∧v7=.int .i64 x7_1∧Aside0 (spec_FormRight.l0 kq a0 x5_1 x6_1 x7_1 a1_0 l1_1=some r)∧Aside0 (kq≤k)∧Aside0 (Kd.R (Kd.int .u8) 5 w' w.heap.size (fun _=>True) v5 x5_1)∧Aside0 (w'.heap[gb184]? = some (.cells #[.string a1_0,(.slice A1_1 l1_1.length c1_1)] 36 (0,0)))∧Aside0 (Below w.heap.size w w'))
  case atStart=>exact ⟨(y185),((-1)),(0),fg,fg,H',⟨Nat.le_refl _⟩,⟨by (with_reducible repeat (first|apply Kd.R_alloc|apply Kd.R_drewN|apply Kd.R_drew));exact HO187.out⟩,⟨ks BK184⟩,⟨bs HB⟩⟩
  case round =>
   clear H'
   try clear c1
   try clear p2
   try clear c3
   try clear c3b0
   try clear c3b1
   obtain ⟨x5_1,x6_1,x7_1,rfl,rfl,HA,HK1,HO_5,BK184,HB⟩:=hrel
   cases gk with
   | zero=>exact absurd HA.out (by simp [spec_FormRight.l0])
   | succ k1 =>
    have H:=HA.out;clear HA;simp only [spec_FormRight.l0] at H
    by_cases c8:x7_1<(a0.size:Int)
    ·rw [if_pos c8] at H;have c8b0:decide (x7_1<(a0.size:Int))=true:=decide_eq_true c8;clear c8
     by_cases c9:0≤x7_1
     ·rw [if_pos c9] at H;have c9b0:decide (0≤x7_1)=true:=decide_eq_true c9;clear c9
      by_cases c11:(bt a0 x7_1)=63
      ·rw [if_pos c11] at H;have c11b0:((bt a0 x7_1) == 63)=true:=beq_iff_eq.mpr c11;have c11b1:((bt a0 x7_1) != 63)=false:=bne_eq_false_iff_eq.mpr c11;clear c11
       by_cases c12:x6_1≥0
       ·rw [if_pos c12] at H;have c12b0:decide (0≤x6_1)=true:=decide_eq_true c12;clear c12;obtain rfl:=Option.some.inj H;have p10:0≤(x7_1:Int):=oa;have q10:x7_1<(a0.size:Int):=oa;have hx10:=bt_at a0 x7_1;replace p10:=eq_true p10;replace q10:=eq_true q10
        go_wp2
        go_ret
        exact ⟨ff,bs HB⟩
       ·rw [if_neg c12] at H;have c12b0:decide (0≤x6_1)=false:=decide_eq_false c12;clear c12;have H':=am H;clear H;have p10:0≤(x7_1:Int):=oa;have q10:x7_1<(a0.size:Int):=oa;have hx10:=bt_at a0 x7_1;replace p10:=eq_true p10;replace q10:=eq_true q10;obtain ⟨Ao13,co13,eo13⟩:=Kd.R_slice HO_5.out;subst eo13
        go_wp2
        go_roundg k1
        case measure=>have:=HK1.out;omega
        case rel=>exact ⟨(x5_1),((x5_1.length:Int)),(wrap64 (x7_1+1)),fg,fg,H',⟨by have:=HK1.out;omega⟩,⟨by (with_reducible repeat (first|apply Kd.R_alloc|apply Kd.R_drewN|apply Kd.R_drew));exact HO_5.out⟩,⟨ks BK184⟩,⟨bs HB⟩⟩
      ·rw [if_neg c11] at H;have c11b0:((bt a0 x7_1) == 63)=false:=beq_eq_false_iff_ne.mpr c11;have c11b1:((bt a0 x7_1) != 63)=true:=bne_iff_ne.mpr c11
       by_cases c14:(bt a0 x7_1)=114
       ·rw [if_pos c14] at H;have c14b0:((bt a0 x7_1) == 114)=true:=beq_iff_eq.mpr c14;have c14b1:((bt a0 x7_1) != 114)=false:=bne_eq_false_iff_eq.mpr c14;clear c14
        by_cases c15:x5_1.length<140737488355328
        ·rw [if_pos c15] at H;have LMc15:=am c15;clear c15;obtain ⟨y188,hy188⟩:∃ y_:List Int,y_=(x5_1++[bt a0 x7_1]):=⟨_,rfl⟩
         replace H:(spec_FormRight.l0 k1 a0 y188 x6_1 (wrap64 (x7_1+1)) a1_0 l1_1)=some r:=by first|(rw [hy188];with_reducible exact H)|(have H2_:=(Option.bind_some _ _).symm.trans H;rw [hy188];with_reducible exact H2_)|(have H2_:=(Option.bind_some _ _).symm.trans H;with_reducible exact H2_)|with_reducible exact H|(rw [hy188];exact H)|exact H
         have Ny188:=am hy188;clear hy188;have H':=am H;clear H;have p10:0≤(x7_1:Int):=oa;have q10:x7_1<(a0.size:Int):=oa;have hx10:=bt_at a0 x7_1;replace p10:=eq_true p10;replace q10:=eq_true q10
         go_wp2_with (first|((with_reducible refine gate_builtin (b:=.append) (xs:=#[.tmp 51,.tmp 53]) rfl ?_);(try (refine gate_guard (by rfl) ?_;dsimp only));at_builtin;refine Kd.R_append (Kd.int .u8) (w0:=w) w.heap.size rfl (.tmp 51) (.tmp 53) 50 5 (.int .u8 0) 1 rfl Tryd.underlying50 info5 rfl (by decide) (by omega) u5 x5_1 (bt a0 x7_1) [.int .u8 (bt a0 x7_1)] (fun _=>True) (fun _=>False) rfl rfl ?aP (fun _ hk=>hk.elim) ?aF ?aO ?aB ?aS ?aL ?_;(case aP=>exact rfl);(case aB=>exact (bs HB));(case aF=>exact (fun _ _=>trivial));(case aO=>exact (rs HO_5));(case aS=>exact (below_size (bs HB)));(case aL=>have:=LMc15.out;omega);intro v189 w16 ho hb hg hat;rw [← Ny188.out] at ho;have n0_:=am (blk_grown (ks BK184) hg (Kd.R_ne HO_5.out BK184.out (by decide)));have n1_:=am (hb);have n2_:=am (ho);clear BK184;clear HB;clear HO_5;have BK184:=n0_;have HB:=n1_;have HO190:=n2_;clear n0_ n1_ n2_;clear ho hb hg hat))
         go_roundg k1
         case measure=>have:=HK1.out;omega
         case rel=>exact ⟨(y188),(x6_1),(wrap64 (x7_1+1)),fg,fg,H',⟨by have:=HK1.out;omega⟩,⟨by (with_reducible repeat (first|apply Kd.R_alloc|apply Kd.R_drewN|apply Kd.R_drew));exact HO190.out⟩,⟨ks BK184⟩,⟨bs HB⟩⟩
        ·rw [if_neg c15] at H
         exact absurd H (by simp)
       ·rw [if_neg c14] at H;have c14b0:((bt a0 x7_1) == 114)=false:=beq_eq_false_iff_ne.mpr c14;have c14b1:((bt a0 x7_1) != 114)=true:=bne_iff_ne.mpr c14
        by_cases c17:(bt a0 x7_1)=110
        ·rw [if_pos c17] at H;have c17b0:((bt a0 x7_1) == 110)=true:=beq_iff_eq.mpr c17;have c17b1:((bt a0 x7_1) != 110)=false:=bne_eq_false_iff_eq.mpr c17;clear c17
         by_cases c18:x5_1.length<140737488355328
         ·rw [if_pos c18] at H;have LMc18:=am c18;clear c18;obtain ⟨y191,hy191⟩:∃ y_:List Int,y_=(x5_1++[bt a0 x7_1]):=⟨_,rfl⟩
          replace H:(spec_FormRight.l0 k1 a0 y191 x6_1 (wrap64 (x7_1+1)) a1_0 l1_1)=some r:=by first|(rw [hy191];with_reducible exact H)|(have H2_:=(Option.bind_some _ _).symm.trans H;rw [hy191];with_reducible exact H2_)|(have H2_:=(Option.bind_some _ _).symm.trans H;with_reducible exact H2_)|with_reducible exact H|(rw [hy191];exact H)|exact H
          have Ny191:=am hy191;clear hy191;have H':=am H;clear H;have p10:0≤(x7_1:Int):=oa;have q10:x7_1<(a0.size:Int):=oa;have hx10:=bt_at a0 x7_1;replace p10:=eq_true p10;replace q10:=eq_true q10
          go_wp2_with (first|((with_reducible refine gate_builtin (b:=.append) (xs:=#[.tmp 51,.tmp 53]) rfl ?_);(try (refine gate_guard (by rfl) ?_;dsimp only));at_builtin;refine Kd.R_append (Kd.int .u8) (w0:=w) w.heap.size rfl (.tmp 51) (.tmp 53) 50 5 (.int .u8 0) 1 rfl Tryd.underlying50 info5 rfl (by decide) (by omega) u5 x5_1 (bt a0 x7_1) [.int .u8 (bt a0 x7_1)] (fun _=>True) (fun _=>False) rfl rfl ?aP (fun _ hk=>hk.elim) ?aF ?aO ?aB ?aS ?aL ?_;(case aP=>exact rfl);(case aB=>exact (bs HB));(case aF=>exact (fun _ _=>trivial));(case aO=>exact (rs HO_5));(case aS=>exact (below_size (bs HB)));(case aL=>have:=LMc18.out;omega);intro v192 w19 ho hb hg hat;rw [← Ny191.out] at ho;have n0_:=am (blk_grown (ks BK184) hg (Kd.R_ne HO_5.out BK184.out (by decide)));have n1_:=am (hb);have n2_:=am (ho);clear BK184;clear HB;clear HO_5;have BK184:=n0_;have HB:=n1_;have HO193:=n2_;clear n0_ n1_ n2_;clear ho hb hg hat))
          go_roundg k1
          case measure=>have:=HK1.out;omega
          case rel=>exact ⟨(y191),(x6_1),(wrap64 (x7_1+1)),fg,fg,H',⟨by have:=HK1.out;omega⟩,⟨by (with_reducible repeat (first|apply Kd.R_alloc|apply Kd.R_drewN|apply Kd.R_drew));exact HO193.out⟩,⟨ks BK184⟩,⟨bs HB⟩⟩
         ·rw [if_neg c18] at H
          exact absurd H (by simp)
        ·rw [if_neg c17] at H;have c17b0:((bt a0 x7_1) == 110)=false:=beq_eq_false_iff_ne.mpr c17;have c17b1:((bt a0 x7_1) != 110)=true:=bne_iff_ne.mpr c17
         by_cases c20:(bt a0 x7_1)=113
         ·rw [if_pos c20] at H;have c20b0:((bt a0 x7_1) == 113)=true:=beq_iff_eq.mpr c20;have c20b1:((bt a0 x7_1) != 113)=false:=bne_eq_false_iff_eq.mpr c20;clear c20
          by_cases c21:x5_1.length<140737488355328
          ·rw [if_pos c21] at H;have LMc21:=am c21;clear c21;obtain ⟨y194,hy194⟩:∃ y_:List Int,y_=(x5_1++[bt a0 x7_1]):=⟨_,rfl⟩
           replace H:(spec_FormRight.l0 k1 a0 y194 x6_1 (wrap64 (x7_1+1)) a1_0 l1_1)=some r:=by first|(rw [hy194];with_reducible exact H)|(have H2_:=(Option.bind_some _ _).symm.trans H;rw [hy194];with_reducible exact H2_)|(have H2_:=(Option.bind_some _ _).symm.trans H;with_reducible exact H2_)|with_reducible exact H|(rw [hy194];exact H)|exact H
           have Ny194:=am hy194;clear hy194;have H':=am H;clear H;have p10:0≤(x7_1:Int):=oa;have q10:x7_1<(a0.size:Int):=oa;have hx10:=bt_at a0 x7_1;replace p10:=eq_true p10;replace q10:=eq_true q10
           go_wp2_with (first|((with_reducible refine gate_builtin (b:=.append) (xs:=#[.tmp 51,.tmp 53]) rfl ?_);(try (refine gate_guard (by rfl) ?_;dsimp only));at_builtin;refine Kd.R_append (Kd.int .u8) (w0:=w) w.heap.size rfl (.tmp 51) (.tmp 53) 50 5 (.int .u8 0) 1 rfl Tryd.underlying50 info5 rfl (by decide) (by omega) u5 x5_1 (bt a0 x7_1) [.int .u8 (bt a0 x7_1)] (fun _=>True) (fun _=>False) rfl rfl ?aP (fun _ hk=>hk.elim) ?aF ?aO ?aB ?aS ?aL ?_;(case aP=>exact rfl);(case aB=>exact (bs HB));(case aF=>exact (fun _ _=>trivial));(case aO=>exact (rs HO_5));(case aS=>exact (below_size (bs HB)));(case aL=>have:=LMc21.out;omega);intro v195 w22 ho hb hg hat;rw [← Ny194.out] at ho;have n0_:=am (blk_grown (ks BK184) hg (Kd.R_ne HO_5.out BK184.out (by decide)));have n1_:=am (hb);have n2_:=am (ho);clear BK184;clear HB;clear HO_5;have BK184:=n0_;have HB:=n1_;have HO196:=n2_;clear n0_ n1_ n2_;clear ho hb hg hat))
           go_roundg k1
           case measure=>have:=HK1.out;omega
           case rel=>exact ⟨(y194),(x6_1),(wrap64 (x7_1+1)),fg,fg,H',⟨by have:=HK1.out;omega⟩,⟨by (with_reducible repeat (first|apply Kd.R_alloc|apply Kd.R_drewN|apply Kd.R_drew));exact HO196.out⟩,⟨ks BK184⟩,⟨bs HB⟩⟩
          ·rw [if_neg c21] at H
           exact absurd H (by simp)
         ·rw [if_neg c20] at H;have c20b0:((bt a0 x7_1) == 113)=false:=beq_eq_false_iff_ne.mpr c20;have c20b1:((bt a0 x7_1) != 113)=true:=bne_iff_ne.mpr c20
          by_cases c23:(bt a0 x7_1)=122
          ·rw [if_pos c23] at H;have c23b0:((bt a0 x7_1) == 122)=true:=beq_iff_eq.mpr c23;have c23b1:((bt a0 x7_1) != 122)=false:=bne_eq_false_iff_eq.mpr c23;clear c23
           by_cases c24:x5_1.length<140737488355328
           ·rw [if_pos c24] at H;have LMc24:=am c24;clear c24;obtain ⟨y197,hy197⟩:∃ y_:List Int,y_=(x5_1++[bt a0 x7_1]):=⟨_,rfl⟩
            replace H:(spec_FormRight.l0 k1 a0 y197 x6_1 (wrap64 (x7_1+1)) a1_0 l1_1)=some r:=by first|(rw [hy197];with_reducible exact H)|(have H2_:=(Option.bind_some _ _).symm.trans H;rw [hy197];with_reducible exact H2_)|(have H2_:=(Option.bind_some _ _).symm.trans H;with_reducible exact H2_)|with_reducible exact H|(rw [hy197];exact H)|exact H
            have Ny197:=am hy197;clear hy197;have H':=am H;clear H;have p10:0≤(x7_1:Int):=oa;have q10:x7_1<(a0.size:Int):=oa;have hx10:=bt_at a0 x7_1;replace p10:=eq_true p10;replace q10:=eq_true q10
            go_wp2_with (first|((with_reducible refine gate_builtin (b:=.append) (xs:=#[.tmp 51,.tmp 53]) rfl ?_);(try (refine gate_guard (by rfl) ?_;dsimp only));at_builtin;refine Kd.R_append (Kd.int .u8) (w0:=w) w.heap.size rfl (.tmp 51) (.tmp 53) 50 5 (.int .u8 0) 1 rfl Tryd.underlying50 info5 rfl (by decide) (by omega) u5 x5_1 (bt a0 x7_1) [.int .u8 (bt a0 x7_1)] (fun _=>True) (fun _=>False) rfl rfl ?aP (fun _ hk=>hk.elim) ?aF ?aO ?aB ?aS ?aL ?_;(case aP=>exact rfl);(case aB=>exact (bs HB));(case aF=>exact (fun _ _=>trivial));(case aO=>exact (rs HO_5));(case aS=>exact (below_size (bs HB)));(case aL=>have:=LMc24.out;omega);intro v198 w25 ho hb hg hat;rw [← Ny197.out] at ho;have n0_:=am (blk_grown (ks BK184) hg (Kd.R_ne HO_5.out BK184.out (by decide)));have n1_:=am (hb);have n2_:=am (ho);clear BK184;clear HB;clear HO_5;have BK184:=n0_;have HB:=n1_;have HO199:=n2_;clear n0_ n1_ n2_;clear ho hb hg hat))
            go_roundg k1
            case measure=>have:=HK1.out;omega
            case rel=>exact ⟨(y197),(x6_1),(wrap64 (x7_1+1)),fg,fg,H',⟨by have:=HK1.out;omega⟩,⟨by (with_reducible repeat (first|apply Kd.R_alloc|apply Kd.R_drewN|apply Kd.R_drew));exact HO199.out⟩,⟨ks BK184⟩,⟨bs HB⟩⟩
           ·rw [if_neg c24] at H
            exact absurd H (by simp)
          ·rw [if_neg c23] at H;have c23b0:((bt a0 x7_1) == 122)=false:=beq_eq_false_iff_ne.mpr c23;have c23b1:((bt a0 x7_1) != 122)=true:=bne_iff_ne.mpr c23
           by_cases c26:(bt a0 x7_1)=100
           ·rw [if_pos c26] at H;have c26b0:((bt a0 x7_1) == 100)=true:=beq_iff_eq.mpr c26;have c26b1:((bt a0 x7_1) != 100)=false:=bne_eq_false_iff_eq.mpr c26;clear c26
            by_cases c27:x5_1.length<140737488355328
            ·rw [if_pos c27] at H;have LMc27:=am c27;clear c27;obtain ⟨y200,hy200⟩:∃ y_:List Int,y_=(x5_1++[bt a0 x7_1]):=⟨_,rfl⟩
             replace H:(spec_FormRight.l0 k1 a0 y200 x6_1 (wrap64 (x7_1+1)) a1_0 l1_1)=some r:=by first|(rw [hy200];with_reducible exact H)|(have H2_:=(Option.bind_some _ _).symm.trans H;rw [hy200];with_reducible exact H2_)|(have H2_:=(Option.bind_some _ _).symm.trans H;with_reducible exact H2_)|with_reducible exact H|(rw [hy200];exact H)|exact H
             have Ny200:=am hy200;clear hy200;have H':=am H;clear H;have p10:0≤(x7_1:Int):=oa;have q10:x7_1<(a0.size:Int):=oa;have hx10:=bt_at a0 x7_1;replace p10:=eq_true p10;replace q10:=eq_true q10
             go_wp2_with (first|((with_reducible refine gate_builtin (b:=.append) (xs:=#[.tmp 51,.tmp 53]) rfl ?_);(try (refine gate_guard (by rfl) ?_;dsimp only));at_builtin;refine Kd.R_append (Kd.int .u8) (w0:=w) w.heap.size rfl (.tmp 51) (.tmp 53) 50 5 (.int .u8 0) 1 rfl Tryd.underlying50 info5 rfl (by decide) (by omega) u5 x5_1 (bt a0 x7_1) [.int .u8 (bt a0 x7_1)] (fun _=>True) (fun _=>False) rfl rfl ?aP (fun _ hk=>hk.elim) ?aF ?aO ?aB ?aS ?aL ?_;(case aP=>exact rfl);(case aB=>exact (bs HB));(case aF=>exact (fun _ _=>trivial));(case aO=>exact (rs HO_5));(case aS=>exact (below_size (bs HB)));(case aL=>have:=LMc27.out;omega);intro v201 w28 ho hb hg hat;rw [← Ny200.out] at ho;have n0_:=am (blk_grown (ks BK184) hg (Kd.R_ne HO_5.out BK184.out (by decide)));have n1_:=am (hb);have n2_:=am (ho);clear BK184;clear HB;clear HO_5;have BK184:=n0_;have HB:=n1_;have HO202:=n2_;clear n0_ n1_ n2_;clear ho hb hg hat))
             go_roundg k1
             case measure=>have:=HK1.out;omega
             case rel=>exact ⟨(y200),(x6_1),(wrap64 (x7_1+1)),fg,fg,H',⟨by have:=HK1.out;omega⟩,⟨by (with_reducible repeat (first|apply Kd.R_alloc|apply Kd.R_drewN|apply Kd.R_drew));exact HO202.out⟩,⟨ks BK184⟩,⟨bs HB⟩⟩
            ·rw [if_neg c27] at H
             exact absurd H (by simp)
           ·rw [if_neg c26] at H;have c26b0:((bt a0 x7_1) == 100)=false:=beq_eq_false_iff_ne.mpr c26;have c26b1:((bt a0 x7_1) != 100)=true:=bne_iff_ne.mpr c26
            by_cases c29:(bt a0 x7_1)=116
            ·rw [if_pos c29] at H;have c29b0:((bt a0 x7_1) == 116)=true:=beq_iff_eq.mpr c29;have c29b1:((bt a0 x7_1) != 116)=false:=bne_eq_false_iff_eq.mpr c29;clear c29
             by_cases c30:x5_1.length<140737488355328
             ·rw [if_pos c30] at H;have LMc30:=am c30;clear c30;obtain ⟨y203,hy203⟩:∃ y_:List Int,y_=(x5_1++[bt a0 x7_1]):=⟨_,rfl⟩
              replace H:(spec_FormRight.l0 k1 a0 y203 x6_1 (wrap64 (x7_1+1)) a1_0 l1_1)=some r:=by first|(rw [hy203];with_reducible exact H)|(have H2_:=(Option.bind_some _ _).symm.trans H;rw [hy203];with_reducible exact H2_)|(have H2_:=(Option.bind_some _ _).symm.trans H;with_reducible exact H2_)|with_reducible exact H|(rw [hy203];exact H)|exact H
              have Ny203:=am hy203;clear hy203;have H':=am H;clear H;have p10:0≤(x7_1:Int):=oa;have q10:x7_1<(a0.size:Int):=oa;have hx10:=bt_at a0 x7_1;replace p10:=eq_true p10;replace q10:=eq_true q10
              go_wp2_with (first|((with_reducible refine gate_builtin (b:=.append) (xs:=#[.tmp 51,.tmp 53]) rfl ?_);(try (refine gate_guard (by rfl) ?_;dsimp only));at_builtin;refine Kd.R_append (Kd.int .u8) (w0:=w) w.heap.size rfl (.tmp 51) (.tmp 53) 50 5 (.int .u8 0) 1 rfl Tryd.underlying50 info5 rfl (by decide) (by omega) u5 x5_1 (bt a0 x7_1) [.int .u8 (bt a0 x7_1)] (fun _=>True) (fun _=>False) rfl rfl ?aP (fun _ hk=>hk.elim) ?aF ?aO ?aB ?aS ?aL ?_;(case aP=>exact rfl);(case aB=>exact (bs HB));(case aF=>exact (fun _ _=>trivial));(case aO=>exact (rs HO_5));(case aS=>exact (below_size (bs HB)));(case aL=>have:=LMc30.out;omega);intro v204 w31 ho hb hg hat;rw [← Ny203.out] at ho;have n0_:=am (blk_grown (ks BK184) hg (Kd.R_ne HO_5.out BK184.out (by decide)));have n1_:=am (hb);have n2_:=am (ho);clear BK184;clear HB;clear HO_5;have BK184:=n0_;have HB:=n1_;have HO205:=n2_;clear n0_ n1_ n2_;clear ho hb hg hat))
              go_roundg k1
              case measure=>have:=HK1.out;omega
              case rel=>exact ⟨(y203),(x6_1),(wrap64 (x7_1+1)),fg,fg,H',⟨by have:=HK1.out;omega⟩,⟨by (with_reducible repeat (first|apply Kd.R_alloc|apply Kd.R_drewN|apply Kd.R_drew));exact HO205.out⟩,⟨ks BK184⟩,⟨bs HB⟩⟩
             ·rw [if_neg c30] at H
              exact absurd H (by simp)
            ·rw [if_neg c29] at H;have c29b0:((bt a0 x7_1) == 116)=false:=beq_eq_false_iff_ne.mpr c29;have c29b1:((bt a0 x7_1) != 116)=true:=bne_iff_ne.mpr c29;obtain rfl:=Option.some.inj H;have p10:0≤(x7_1:Int):=oa;have q10:x7_1<(a0.size:Int):=oa;have hx10:=bt_at a0 x7_1;replace p10:=eq_true p10;replace q10:=eq_true q10
             go_wp2
             go_ret
             exact ⟨ff,bs HB⟩
     ·rw [if_neg c9] at H
      exact absurd H (by simp)
    ·rw [if_neg c8] at H;have c8b0:decide (x7_1<(a0.size:Int))=false:=decide_eq_false c8;clear c8;have HC32:=am H;clear H
     go_upto_if 56 with (fail)
     go_cut [6] (fun v6 wc=>∃ (kq:Nat) (x6_31:Int),v6=.int .i64 x6_31∧Aside0 (spec_FormRight.j1 kq x5_1 x6_31 a1_0 l1_1=some r)∧Aside0 (kq≤k1)∧Aside0 (Kd.R (Kd.int .u8) 5 wc w.heap.size (fun _=>True) u5 x5_1)∧Aside0 (wc.heap[gb184]? = some (.cells #[.string a1_0,(.slice A1_1 l1_1.length c1_1)] 36 (0,0)))∧Aside0 (Below w.heap.size w wc))
     case first =>
      have H:=HC32.out;clear HC32
      by_cases c33:x6_1<0
      ·rw [if_pos c33] at H;have c33b0:decide (x6_1<0)=true:=decide_eq_true c33;clear c33
       (first|rw [c33b0]|(simp only [i64_w,i32_w];rw [c33b0])|skip)
       have H':=am H;clear H;obtain ⟨Ao34,co34,eo34⟩:=Kd.R_slice HO_5.out;subst eo34
       go_wp2
       go_meet
       case rel=>exact ⟨_,((x5_1.length:Int)),fg,H',⟨by have:=HK1.out;first|omega|exact Nat.le_refl _⟩,⟨by (with_reducible repeat (first|apply Kd.R_alloc|apply Kd.R_drewN|apply Kd.R_drew));exact HO_5.out⟩,⟨ks BK184⟩,⟨bs HB⟩⟩
      ·rw [if_neg c33] at H;have c33b0:decide (x6_1<0)=false:=decide_eq_false c33;clear c33
       (first|rw [c33b0]|(simp only [i64_w,i32_w];rw [c33b0])|skip)
       have H':=am H;clear H
       go_wp2
       go_meet
       case rel=>exact ⟨_,(x6_1),fg,H',⟨by have:=HK1.out;first|omega|exact Nat.le_refl _⟩,⟨by (with_reducible repeat (first|apply Kd.R_alloc|apply Kd.R_drewN|apply Kd.R_drew));exact HO_5.out⟩,⟨ks BK184⟩,⟨bs HB⟩⟩
     case rest =>
      clear HC32
      try clear c1
      try clear p1
      try clear q1
      try clear hx1
      try clear c2
      try clear p2
      try clear c3
      try clear c3b0
      try clear c3b1
      try clear p6
      try clear c8
      try clear c8b0
      try clear c9
      try clear c9b0
      try clear p10
      try clear q10
      try clear hx10
      try clear c11
      try clear c11b0
      try clear c11b1
      try clear c12
      try clear c12b0
      try clear c14
      try clear c14b0
      try clear c14b1
      try clear c15
      try clear c17
      try clear c17b0
      try clear c17b1
      try clear c18
      try clear c20
      try clear c20b0
      try clear c20b1
      try clear c21
      try clear c23
      try clear c23b0
      try clear c23b1
      try clear c24
      try clear c26
      try clear c26b0
      try clear c26b1
      try clear c27
      try clear c29
      try clear c29b0
      try clear c29b1
      try clear c30
      try clear c33
      try clear c33b0
      try clear p10
      try clear p2
      try clear q10
      obtain ⟨kq,x6_31,rfl,HA,HJ31,HO_5,BK184,HB⟩:=hcut
      cases kq with
      | zero=>exact absurd HA.out (by simp [spec_FormRight.j1])
      | succ kj31 =>
       have H:=HA.out;clear HA;simp only [spec_FormRight.j1] at H;have H':=am H;clear H
       go_wp2
       go_loopg [9] kj31 (fun kq v9 w'=>∃ (x9_3:Int),v9=.int .i64 x9_3∧Aside0 (spec_FormRight.l1 kq x5_1 x6_31 x9_3 a1_0 l1_1=some r)∧Aside0 (kq≤kj31)∧Aside0 (Kd.R (Kd.int .u8) 5 w' w.heap.size (fun _=>True) u5 x5_1)∧Aside0 (w'.heap[gb184]? = some (.cells #[.string a1_0,(.slice A1_1 l1_1.length c1_1)] 36 (0,0)))∧Aside0 (Below w.heap.size w w'))
       case atStart=>exact ⟨(0),fg,H',⟨Nat.le_refl _⟩,⟨by (with_reducible repeat (first|apply Kd.R_alloc|apply Kd.R_drewN|apply Kd.R_drew));exact HO_5.out⟩,⟨ks BK184⟩,⟨bs HB⟩⟩
       case round =>
        clear H'
        try clear c1
        try clear p1
        try clear q1
        try clear hx1
        try clear c2
        try clear p2
        try clear c3
        try clear c3b0
        try clear c3b1
        try clear p6
        try clear c8
        try clear c8b0
        try clear c9
        try clear c9b0
        try clear p10
        try clear q10
        try clear hx10
        try clear c11
        try clear c11b0
        try clear c11b1
        try clear c12
        try clear c12b0
        try clear c14
        try clear c14b0
        try clear c14b1
        try clear c15
        try clear c17
        try clear c17b0
        try clear c17b1
        try clear c18
        try clear c20
        try clear c20b0
        try clear c20b1
        try clear c21
        try clear c23
        try clear c23b0
        try clear c23b1
        try clear c24
        try clear c26
        try clear c26b0
        try clear c26b1
        try clear c27
        try clear c29
        try clear c29b0
        try clear c29b1
        try clear c30
        try clear c33
        try clear c33b0
        try clear p1
        try clear p10
        try clear p2
        try clear p6
        try clear q1
        try clear q10
        obtain ⟨x9_3,rfl,HA,HK3,HO_5,BK184,HB⟩:=hrel
        cases gk with
        | zero=>exact absurd HA.out (by simp [spec_FormRight.l1])
        | succ k3 =>
         have H:=HA.out;clear HA;simp only [spec_FormRight.l1] at H;have HC35:=am H;clear H
         go_upto_region 19 with (fail)
         go_cut [68] (fun v68 wc=>∃ (kq:Nat) (x68_34:Bool),v68=.bool x68_34∧Aside0 (spec_FormRight.j3 kq x5_1 x6_31 x9_3 x68_34 a1_0 l1_1=some r)∧Aside0 (kq≤k3)∧Aside0 (Kd.R (Kd.int .u8) 5 wc w.heap.size (fun _=>True) u5 x5_1)∧Aside0 (wc.heap[gb184]? = some (.cells #[.string a1_0,(.slice A1_1 l1_1.length c1_1)] 36 (0,0)))∧Aside0 (Below w.heap.size w wc))
         case first =>
          have H:=HC35.out;clear HC35
          by_cases c36:x9_3<(l1_1.length:Int)
          ·rw [if_pos c36] at H;have c36b0:decide (x9_3<(l1_1.length:Int))=true:=decide_eq_true c36;clear c36
           (first|rw [c36b0]|(simp only [i64_w,i32_w];rw [c36b0])|skip)
           have H':=am H;clear H;obtain ⟨hcz37_0,hcz37_1,hfz37_0,hfz37_1⟩:=cf2 BK184
           go_wp2
           go_meet
           case rel=>exact ⟨_,(true),fg,H',⟨by have:=HK1.out;have:=HJ31.out;have:=HK3.out;first|omega|exact Nat.le_refl _⟩,⟨by (with_reducible repeat (first|apply Kd.R_alloc|apply Kd.R_drewN|apply Kd.R_drew));exact HO_5.out⟩,⟨ks BK184⟩,⟨bs HB⟩⟩
          ·rw [if_neg c36] at H;have c36b0:decide (x9_3<(l1_1.length:Int))=false:=decide_eq_false c36;clear c36
           (first|rw [c36b0]|(simp only [i64_w,i32_w];rw [c36b0])|skip)
           have H':=am H;clear H;obtain ⟨hcz38_0,hcz38_1,hfz38_0,hfz38_1⟩:=cf2 BK184
           go_wp2
           go_meet
           case rel=>exact ⟨_,(decide (x9_3<x6_31)),fg,H',⟨by have:=HK1.out;have:=HJ31.out;have:=HK3.out;first|omega|exact Nat.le_refl _⟩,⟨by (with_reducible repeat (first|apply Kd.R_alloc|apply Kd.R_drewN|apply Kd.R_drew));exact HO_5.out⟩,⟨ks BK184⟩,⟨bs HB⟩⟩
         case rest =>
          clear HC35
          try clear c1
          try clear p1
          try clear q1
          try clear hx1
          try clear c2
          try clear p2
          try clear c3
          try clear c3b0
          try clear c3b1
          try clear p6
          try clear c8
          try clear c8b0
          try clear c9
          try clear c9b0
          try clear p10
          try clear q10
          try clear hx10
          try clear c11
          try clear c11b0
          try clear c11b1
          try clear c12
          try clear c12b0
          try clear c14
          try clear c14b0
          try clear c14b1
          try clear c15
          try clear c17
          try clear c17b0
          try clear c17b1
          try clear c18
          try clear c20
          try clear c20b0
          try clear c20b1
          try clear c21
          try clear c23
          try clear c23b0
          try clear c23b1
          try clear c24
          try clear c26
          try clear c26b0
          try clear c26b1
          try clear c27
          try clear c29
          try clear c29b0
          try clear c29b1
          try clear c30
          try clear c33
          try clear c33b0
          try clear c36
          try clear c36b0
          try clear hcz37_0
          try clear hcz37_1
          try clear hcz38_0
          try clear hcz38_1
          try clear hfz37_0
          try clear hfz37_1
          try clear hfz38_0
          try clear hfz38_1
          try clear p1
          try clear p10
          try clear p2
          try clear p6
          try clear q1
          try clear q10
          obtain ⟨kq,x68_34,rfl,HA,HJ34,HO_5,BK184,HB⟩:=hcut
          cases kq with
          | zero=>exact absurd HA.out (by simp [spec_FormRight.j3])
          | succ kj34 =>
           have H:=HA.out;clear HA;simp only [spec_FormRight.j3] at H
           by_cases c39:x68_34=true
           ·subst c39
            have H1:(if x9_3≥(l1_1.length:Int) then (some x9_3) else (if x9_3≥(x5_1.length:Int) then (some x9_3) else (if 0≤x9_3 then (if x9_3<(x5_1.length:Int) then (if x9_3<(l1_1.length:Int) then ((spec_l04Element.f kj34 (rd x5_1 x9_3) ((rd_T65 l1_1 x9_3).f0)).bind fun t208=>(if t208=true then (spec_FormRight.l1 kj34 x5_1 x6_31 (wrap64 (x9_3+1)) a1_0 l1_1) else (some x9_3))) else (none)) else (none)) else (none))))=some r:=by rw [if_pos rfl] at H;exact H
            clear H;have H:=H1;clear H1
            by_cases c40:x9_3≥(l1_1.length:Int)
            ·rw [if_pos c40] at H;have c40b0:decide ((l1_1.length:Int)≤x9_3)=true:=decide_eq_true c40;clear c40;obtain rfl:=Option.some.inj H
             try go_wp2
             replace HO_5:=am (Kd.R_drew HO_5.out);replace BK184:=am (blk_drew BK184.out);replace HB:=am (below_drew1 HB.out);refine start_ (n:=24) (S:=fun w'=>qk2 w' gb184 (.string a1_0) (.slice A1_1 l1_1.length c1_1)) (ds:=[]) _ (by kernel_rfl) rfl rfl (qb2 BK184) (fun hHeld=>?_);refine with_tabW spec_FormRight.tab21 spec_FormRight.bits21 (fun HT_ HW_=>?_)
             generalize wc.drew=w41 at HO_5 BK184 HB hHeld ⊢
             refine pA 0 71 HT_ ?_;refine pA 1 72 HT_ ?_;refine tA 2 73 HT_ HW_ hHeld ?_;refine pA 3 74 HT_ ?_;refine pA 4 75 HT_ ?_;refine pA 5 76 HT_ ?_;refine pB 6 77 HT_ ?_;refine pB 7 78 HT_ ?_;refine pB 8 79 HT_ ?_;refine pB 9 80 HT_ ?_;refine pA 10 81 HT_ ?_;refine pA 11 82 HT_ ?_;refine pB 12 83 HT_ ?_;refine pB 13 84 HT_ ?_;refine pB 14 85 HT_ ?_;refine pB 15 86 HT_ ?_;refine pB 16 87 HT_ ?_;refine pB 17 88 HT_ ?_;refine pB 18 89 HT_ ?_;refine pB 19 90 HT_ ?_;refine pB 20 91 HT_ ?_;refine pB 21 92 HT_ ?_;refine pB 22 93 HT_ ?_;refine pA 23 94 HT_ ?_;refine done_ (done_of HT_.out (by kernel_rfl)) ?_
             try go_wp2
             go_ret
             exact ⟨ff,bs HB⟩
            ·rw [if_neg c40] at H;have c40b0:decide ((l1_1.length:Int)≤x9_3)=false:=decide_eq_false c40;clear c40
             by_cases c42:x9_3≥(x5_1.length:Int)
             ·rw [if_pos c42] at H;have c42b0:decide ((x5_1.length:Int)≤x9_3)=true:=decide_eq_true c42;clear c42;obtain rfl:=Option.some.inj H
              try go_wp2
              replace HO_5:=am (Kd.R_drew HO_5.out);replace BK184:=am (blk_drew BK184.out);replace HB:=am (below_drew1 HB.out);obtain ⟨Ao44,co44,eo44⟩:=Kd.R_slice HO_5.out
              (first|subst eo44|(injection eo44 with f1_ f2_ f3_;have f4_:=f1_.symm;have f5_:=f3_.symm;clear f1_ f2_ f3_;subst f4_;subst f5_))
              refine start_ (n:=24) (S:=fun w'=>qk2 w' gb184 (.string a1_0) (.slice A1_1 l1_1.length c1_1)) (ds:=[]) _ (by kernel_rfl) rfl rfl (qb2 BK184) (fun hHeld=>?_);refine with_tabW spec_FormRight.tab21 spec_FormRight.bits21 (fun HT_ HW_=>?_)
              generalize wc.drew=w43 at HO_5 BK184 HB hHeld ⊢
              refine pA 0 71 HT_ ?_;refine pA 1 72 HT_ ?_;refine tA 2 73 HT_ HW_ hHeld ?_;refine pA 3 74 HT_ ?_;refine pA 4 75 HT_ ?_;refine pA 5 76 HT_ ?_;refine pA 6 77 HT_ ?_;refine pA 7 78 HT_ ?_;refine pA 8 79 HT_ ?_;refine pA 9 80 HT_ ?_;refine pA 10 81 HT_ ?_;refine pA 11 82 HT_ ?_;refine pB 12 83 HT_ ?_;refine pB 13 84 HT_ ?_;refine pB 14 85 HT_ ?_;refine pB 15 86 HT_ ?_;refine pB 16 87 HT_ ?_;refine pB 17 88 HT_ ?_;refine pB 18 89 HT_ ?_;refine pB 19 90 HT_ ?_;refine pB 20 91 HT_ ?_;refine pB 21 92 HT_ ?_;refine pB 22 93 HT_ ?_;refine pA 23 94 HT_ ?_;refine done_ (done_of HT_.out (by kernel_rfl)) ?_
              try go_wp2
              go_ret
              exact ⟨ff,bs HB⟩
             ·rw [if_neg c42] at H;have c42b0:decide ((x5_1.length:Int)≤x9_3)=false:=decide_eq_false c42;clear c42
              by_cases c45:0≤x9_3
              ·rw [if_pos c45] at H;have c45b0:decide (0≤x9_3)=true:=decide_eq_true c45;clear c45
               by_cases c46:x9_3<(x5_1.length:Int)
               ·rw [if_pos c46] at H;have c46b0:decide (x9_3<(x5_1.length:Int))=true:=decide_eq_true c46;clear c46
                by_cases c47:x9_3<(l1_1.length:Int)
                ·rw [if_pos c47] at H;have c47b0:decide (x9_3<(l1_1.length:Int))=true:=decide_eq_true c47;clear c47;replace H:=Option.bind_eq_some_iff.mp H;obtain ⟨t208,A480,H⟩:=H;replace H:(if t208=true then (spec_FormRight.l1 kj34 x5_1 x6_31 (wrap64 (x9_3+1)) a1_0 l1_1) else (some x9_3))=some r:=H;have A48:=am A480;clear A480
                 by_cases c49:t208=true
                 ·subst c49
                  have H1:(spec_FormRight.l1 kj34 x5_1 x6_31 (wrap64 (x9_3+1)) a1_0 l1_1)=some r:=by rw [if_pos rfl] at H;exact H
                  clear H;have H:=H1;clear H1;have H':=am H;clear H
                  try go_wp2
                  replace HO_5:=am (Kd.R_drew HO_5.out);replace BK184:=am (blk_drew BK184.out);replace HB:=am (below_drew1 HB.out);obtain ⟨Ao51,co51,eo51⟩:=Kd.R_slice HO_5.out
                  (first|subst eo51|(injection eo51 with f1_ f2_ f3_;have f4_:=f1_.symm;have f5_:=f3_.symm;clear f1_ f2_ f3_;subst f4_;subst f5_))
                  have p206:0≤(x9_3:Int):=oa;have q206:x9_3<(x5_1.length:Int):=oa;obtain ⟨ad206,e206,hx206_0⟩:=Kd.at_int (Kd.R_reads' HO_5.out).2.2 x9_3 p206 q206
                  cases e206
                  replace p206:=eq_true p206;replace q206:=eq_true q206;have p207:0≤(x9_3:Int):=oa;have q207:x9_3<(l1_1.length:Int):=oa;obtain ⟨ad207,A207_0,c207_0,e207,hx207_0,hl207_0,hi207_0⟩:=at_T65 HR1_1.out x9_3 p207 q207;have hw207_0:=hx207_0
                  cases e207
                  replace hx207_0:=cb HB hx207_0;have HR207_0:=am hi207_0;have HC207_0:=am hl207_0;clear hi207_0 hl207_0;replace p207:=eq_true p207;replace q207:=eq_true q207;refine start_ (n:=24) (S:=fun w'=>qk2a w' gb184 (.string a1_0) (.slice (some ad207) l1_1.length c1_1) (w'.cell? (ad206.add (x9_3).toNat)=some (.int .u8 (rd x5_1 x9_3))∧w'.cell? (ad207.add (x9_3).toNat)=some (.slice A207_0 ((rd_T65 l1_1 x9_3).f0).length c207_0))) (ds:=[]) _ (by kernel_rfl) rfl rfl (qb2a BK184 ⟨hx206_0,((cb HB hw207_0).trans rfl)⟩) (fun hHeld=>?_);refine with_tabW spec_FormRight.tab21 spec_FormRight.bits21 (fun HT_ HW_=>?_)
                  generalize wc.drew=w50 at HO_5 BK184 HB HR207_0 hx206_0 hx207_0 hHeld ⊢
                  refine pA 0 71 HT_ ?_;refine pA 1 72 HT_ ?_;refine tA 2 73 HT_ HW_ hHeld ?_;refine pA 3 74 HT_ ?_;refine pA 4 75 HT_ ?_;refine pA 5 76 HT_ ?_;refine pA 6 77 HT_ ?_;refine pA 7 78 HT_ ?_;refine pA 8 79 HT_ ?_;refine pA 9 80 HT_ ?_;refine pA 10 81 HT_ ?_;refine pA 11 82 HT_ ?_;refine pA 12 83 HT_ ?_;refine pA 13 84 HT_ ?_;refine pA 14 85 HT_ ?_;refine pA 16 87 HT_ ?_;refine pA 18 89 HT_ ?_;refine tA 15 86 HT_ HW_ hHeld ?_;refine tA 17 88 HT_ HW_ hHeld ?_;refine pA 19 90 HT_ ?_;refine tA 20 91 HT_ HW_ hHeld ?_;refine oA 21 92 HT_ (fun K hK=>?_);refine gA Tryd.func30 #[.int .u8 (rd x5_1 x9_3),.agg #[.slice A207_0 ((rd_T65 l1_1 x9_3).f0).length c207_0]] ?_;(with_reducible refine (spec_l04Element.calls kj34 (rd x5_1 x9_3) _ _ ((rd_T65 l1_1 x9_3).f0) true _ ?side1 ?side2 A48.out).mono ?_)
                  (case side1=>repeat (first|exact (Kd.C_below HR207_0.out HB.out)|(with_reducible refine Kd.C_alloc ?_ _)|(with_reducible refine Kd.C_drewN ?_ _)|(with_reducible refine Kd.C_drew ?_)))
                  (case side2=>exact HC207_0.out)
                  rintro e w52 ⟨rfl,hb⟩;have HS2_:=(hb.cell (World.block_lt_of_cell? _ _ (hHeld.2.2.1))).trans (hHeld.2.2.1);refine ⟨_,rfl,?_⟩;replace HO_5:=am (Kd.R_below (rs HO_5) hb);replace BK184:=am (blk_below (ks BK184) hb);replace HB:=am (below_step (bs HB) hb);(try clear hb);(try clear hb2);(try clear hk);(try clear hi);refine hK.out _ _ (qb2a BK184 ⟨HS2_,((cb HB hw207_0).trans rfl)⟩) (fun hHeld=>?_);clear hK K;refine nA 92 ?_;refine pA 22 93 HT_ ?_;refine pA 23 94 HT_ ?_;refine done_ (done_of HT_.out (by kernel_rfl)) ?_
                  try go_wp2
                  go_roundg kj34
                  case measure=>have:=HK1.out;have:=HJ31.out;have:=HK3.out;have:=HJ34.out;omega
                  case rel=>exact ⟨(wrap64 (x9_3+1)),fg,H',⟨by have:=HK1.out;have:=HJ31.out;have:=HK3.out;have:=HJ34.out;omega⟩,⟨by (with_reducible repeat (first|apply Kd.R_alloc|apply Kd.R_drewN|apply Kd.R_drew));exact HO_5.out⟩,⟨ks BK184⟩,⟨bs HB⟩⟩
                 ·replace c49:=Bool.eq_false_iff.mpr c49;subst c49
                  have H1:(some x9_3)=some r:=by rw [if_neg (show ¬ (false=true) by decide)] at H;exact H
                  clear H;have H:=H1;clear H1;obtain rfl:=Option.some.inj H
                  try go_wp2
                  replace HO_5:=am (Kd.R_drew HO_5.out);replace BK184:=am (blk_drew BK184.out);replace HB:=am (below_drew1 HB.out);obtain ⟨Ao54,co54,eo54⟩:=Kd.R_slice HO_5.out
                  (first|subst eo54|(injection eo54 with f1_ f2_ f3_;have f4_:=f1_.symm;have f5_:=f3_.symm;clear f1_ f2_ f3_;subst f4_;subst f5_))
                  have p206:0≤(x9_3:Int):=oa;have q206:x9_3<(x5_1.length:Int):=oa;obtain ⟨ad206,e206,hx206_0⟩:=Kd.at_int (Kd.R_reads' HO_5.out).2.2 x9_3 p206 q206
                  cases e206
                  replace p206:=eq_true p206;replace q206:=eq_true q206;have p207:0≤(x9_3:Int):=oa;have q207:x9_3<(l1_1.length:Int):=oa;obtain ⟨ad207,A207_0,c207_0,e207,hx207_0,hl207_0,hi207_0⟩:=at_T65 HR1_1.out x9_3 p207 q207;have hw207_0:=hx207_0
                  cases e207
                  replace hx207_0:=cb HB hx207_0;have HR207_0:=am hi207_0;have HC207_0:=am hl207_0;clear hi207_0 hl207_0;replace p207:=eq_true p207;replace q207:=eq_true q207;refine start_ (n:=24) (S:=fun w'=>qk2a w' gb184 (.string a1_0) (.slice (some ad207) l1_1.length c1_1) (w'.cell? (ad206.add (x9_3).toNat)=some (.int .u8 (rd x5_1 x9_3))∧w'.cell? (ad207.add (x9_3).toNat)=some (.slice A207_0 ((rd_T65 l1_1 x9_3).f0).length c207_0))) (ds:=[]) _ (by kernel_rfl) rfl rfl (qb2a BK184 ⟨hx206_0,((cb HB hw207_0).trans rfl)⟩) (fun hHeld=>?_);refine with_tabW spec_FormRight.tab21 spec_FormRight.bits21 (fun HT_ HW_=>?_)
                  generalize wc.drew=w53 at HO_5 BK184 HB HR207_0 hx206_0 hx207_0 hHeld ⊢
                  refine pA 0 71 HT_ ?_;refine pA 1 72 HT_ ?_;refine tA 2 73 HT_ HW_ hHeld ?_;refine pA 3 74 HT_ ?_;refine pA 4 75 HT_ ?_;refine pA 5 76 HT_ ?_;refine pA 6 77 HT_ ?_;refine pA 7 78 HT_ ?_;refine pA 8 79 HT_ ?_;refine pA 9 80 HT_ ?_;refine pA 10 81 HT_ ?_;refine pA 11 82 HT_ ?_;refine pA 12 83 HT_ ?_;refine pA 13 84 HT_ ?_;refine pA 14 85 HT_ ?_;refine pA 16 87 HT_ ?_;refine pA 18 89 HT_ ?_;refine tA 15 86 HT_ HW_ hHeld ?_;refine tA 17 88 HT_ HW_ hHeld ?_;refine pA 19 90 HT_ ?_;refine tA 20 91 HT_ HW_ hHeld ?_;refine oA 21 92 HT_ (fun K hK=>?_);refine gA Tryd.func30 #[.int .u8 (rd x5_1 x9_3),.agg #[.slice A207_0 ((rd_T65 l1_1 x9_3).f0).length c207_0]] ?_;(with_reducible refine (spec_l04Element.calls kj34 (rd x5_1 x9_3) _ _ ((rd_T65 l1_1 x9_3).f0) false _ ?side1 ?side2 A48.out).mono ?_)
                  (case side1=>repeat (first|exact (Kd.C_below HR207_0.out HB.out)|(with_reducible refine Kd.C_alloc ?_ _)|(with_reducible refine Kd.C_drewN ?_ _)|(with_reducible refine Kd.C_drew ?_)))
                  (case side2=>exact HC207_0.out)
                  rintro e w55 ⟨rfl,hb⟩;have HS2_:=(hb.cell (World.block_lt_of_cell? _ _ (hHeld.2.2.1))).trans (hHeld.2.2.1);refine ⟨_,rfl,?_⟩;replace HO_5:=am (Kd.R_below (rs HO_5) hb);replace BK184:=am (blk_below (ks BK184) hb);replace HB:=am (below_step (bs HB) hb);(try clear hb);(try clear hb2);(try clear hk);(try clear hi);refine hK.out _ _ (qb2a BK184 ⟨HS2_,((cb HB hw207_0).trans rfl)⟩) (fun hHeld=>?_);clear hK K;refine nA 92 ?_;refine pA 22 93 HT_ ?_;refine pA 23 94 HT_ ?_;refine done_ (done_of HT_.out (by kernel_rfl)) ?_
                  try go_wp2
                  go_ret
                  exact ⟨ff,bs HB⟩
                ·rw [if_neg c47] at H
                 exact absurd H (by simp)
               ·rw [if_neg c46] at H
                exact absurd H (by simp)
              ·rw [if_neg c45] at H
               exact absurd H (by simp)
           ·replace c39:=Bool.eq_false_iff.mpr c39;subst c39
            have H1:(some (-1))=some r:=by rw [if_neg (show ¬ (false=true) by decide)] at H;exact H
            clear H;have H:=H1;clear H1;obtain rfl:=Option.some.inj H
            go_wp2
            go_ret
            exact ⟨ff,bs HB⟩
end Go.Proofs.YtjbdljhjplidmaaDoor.QF
