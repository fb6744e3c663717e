-- Merged by a program of this session (wip/tool/pack.py) out of its own texts for this claim.
import Derived.Test.YtomoflpgdbjojaaGreatKFnExactGatePartner15
set_option maxHeartbeats 8000000
set_option maxRecDepth 100000
set_option linter.unusedSimpArgs false
set_option linter.unusedVariables false
namespace Go.Proofs.YtomoflpgdbjojaaGreat.QO
open Go.RowKit Go.Proofs.YtomoflpgdbjojaaGreatW.PrintWords Go.Proofs.YtomoflpgdbjojaaGreatW.PrintLast Go.Proofs.YtomoflpgdbjojaaGreatW.PrintMore
attribute [local go_sem] max2_int min2_int max_two min_two max_three min_three max_four min_four   -- for this text's walks alone
def impl_LinesRight.T6:Bool × List (List Nat × List Nat):=(true,[([],[]),([0],[0]),([1],[1]),([2,1],[2]),([3],[3]),([4,3],[3,4]),([5,3,3],[3,5]),([6],[6]),([6],[6]),([8,6],[6,8]),([7,9,6],[6,7,9]),([10,6],[6,10]),([6],[6]),([11,12,6,6],[6,11,12]),([13,6],[6,13]),([6,14,3],[3,6,14]),([3,15],[3,15])])
def impl_LinesRight.B6:List Nat:=[0,1,3,7,15,31,63,127,127,383,1023,2047,127,8191,16383,32767,65535]
theorem impl_LinesRight.tab6:rtab .any (opsOf Tryz.f131 6)=impl_LinesRight.T6:=by kernel_rfl
theorem impl_LinesRight.bits6:waitsOk impl_LinesRight.T6.2 impl_LinesRight.B6=true:=by kernel_rfl
theorem impl_LinesRight.calls (k:Nat) (A0:Option Addr) (c0:Nat) (l0:List (S161)) (r:Bool) (w:World) (hr0:Kd.C k161 w A0 l0.length l0) (hc0:l0.length≤c0) (H:impl_LinesRight.f k l0=some r) :
  Calls Tryz.prog 131 #[.slice A0 l0.length c0] w fun e w'=>e=.returned (.bool r)∧Below w.heap.size w w':=by
 have hu161:=Tryz.underlying161;have HR0:=am hr0;have HC0:=am hc0;clear hr0 hc0;have HB:=am (Below.refl w.heap.size w);unfold impl_LinesRight.f at H
 revert H;refine ip2 ?_ ?_
 ·intro c2 H;have c2b0:decide (200<(l0.length:Int))=true:=decide_eq_true c2;have c2b1:decide (200<l0.length)=true:=decide_eq_true (by omega);clear c2;obtain rfl:=si H
  go_in
  go_wp2
  go_ret
  exact ⟨ff,bs HB⟩
 ·intro c2 H;have c2b0:decide (200<(l0.length:Int))=false:=decide_eq_false c2;have c2b1:decide (200<l0.length)=false:=decide_eq_false (by omega);clear c2;have H':=am H;clear H
  go_in
  go_wp2
  go_loopg [10] k (fun kq v10 w'=>∃ (x10_1:Int),v10=.int .i64 x10_1∧Aside0 (impl_LinesRight.l0 kq l0 l0 (l0.length:Int) x10_1=some r)∧Aside0 (kq≤k)∧Aside0 (Below w.heap.size w w'))
  case atStart=>exact ⟨(0),fg,H',⟨Nat.le_refl _⟩,⟨bs HB⟩⟩
  case round =>
   clear H'
   try clear c2
   try clear c2b0
   try clear c2b1
   obtain ⟨x10_1,rfl,HA,HK1,HB⟩:=hrel
   cases gk with
   | zero=>exact absurd HA.out (by simp [impl_LinesRight.l0])
   | succ k1 =>
    have H:=HA.out;clear HA;simp only [impl_LinesRight.l0] at H
    revert H;refine id2 ?_ ?_
    ·intro c3b0 H
     revert H;refine id1 ?_
     intro c4b0 H
     revert H;refine id1 ?_
     intro c5b0 H;replace H:=bo H;obtain ⟨t40,A6,H⟩:=H
     obtain rfl|rfl:=bt t40
     ·replace H:=itT H
      revert H;refine ip2 ?_ ?_
      ·intro c8 H;have c8b0:decide (0<x10_1)=true:=decide_eq_true c8;clear c8;obtain ⟨ji9,hji9⟩:∃ j_:Int,(wrap64 (x10_1 - 1))=j_:=⟨_,rfl⟩
       replace H:(if 0≤(ji9) then (if (ji9)<(l0.length:Int) then ((impl_lineOrder.f k1 ((rd_T161 l0 (ji9)).f0) ((rd_T161 l0 (ji9)).f1) ((rd_T161 l0 (ji9)).f2) ((rd_T161 l0 (ji9)).f3) ((rd_T161 l0 (ji9)).f4) ((rd_T161 l0 (ji9)).f5) ((rd_T161 l0 (ji9)).f6) ((rd_T161 l0 (ji9)).f7) ((rd_T161 l0 x10_1).f0) ((rd_T161 l0 x10_1).f1) ((rd_T161 l0 x10_1).f2) ((rd_T161 l0 x10_1).f3) ((rd_T161 l0 x10_1).f4) ((rd_T161 l0 x10_1).f5) ((rd_T161 l0 x10_1).f6) ((rd_T161 l0 x10_1).f7)).bind fun t39=>(if t39≥0 then (some false) else (impl_LinesRight.l0 k1 l0 l0 (l0.length:Int) (wrap64 (x10_1+1))))) else (none)) else (none))=some r:=by first|(rw [hji9] at H;exact H)|(simp only [hji9] at H ⊢;exact H)
       (try rw [hji9] at A6)
       have hji9w:(IntKind.i64.wrap (x10_1 - 1))=ji9:=(i64_w _).trans hji9
       revert H;refine id1 ?_
       intro c10b0 H
       revert H;refine id1 ?_
       intro c11b0 H;replace H:=bo H;obtain ⟨t39,A12,H⟩:=H
       revert H;refine ip2 ?_ ?_
       ·intro c13 H;have c13b0:decide (0≤t39)=true:=decide_eq_true c13;clear c13;obtain rfl:=si H;have p38:0≤(x10_1:Int):=oa;have q38:x10_1<(l0.length:Int):=oa;obtain ⟨ad38,e38,hx38_0,hx38_1,hx38_2,hx38_3,hx38_4,hx38_5,hx38_6,hx38_7⟩:=at_T161 HR0.out x10_1 p38 q38
        cases e38
        replace hx38_0:=cb HB hx38_0;replace hx38_1:=cb HB hx38_1;replace hx38_2:=cb HB hx38_2;replace hx38_3:=cb HB hx38_3;replace hx38_4:=cb HB hx38_4;replace hx38_5:=cb HB hx38_5;replace hx38_6:=cb HB hx38_6;replace hx38_7:=cb HB hx38_7;replace p38:=eq_true p38;replace q38:=eq_true q38
        try go_wp2_with (first|((with_reducible refine gate_dst (N:=4) rfl ?_);refine bz 4 (cs:=#[.string (⟨#[]⟩:ByteArray),.string (⟨#[]⟩:ByteArray),.int .i64 0,.string (⟨#[]⟩:ByteArray),.int .i64 0,.int .i64 0,.int .i64 0,.int .i64 0]) (t:=161) HB ?_;clear HB;intro gb37 hg w14 BK37 GW37 hb HB;clear hb hg;have hcz15:=cf8 BK37))
        have n0_:Aside0 (((((((((w14.setCell ⟨gb37,0,none⟩ (.string ((rd_T161 l0 x10_1).f0))).setCell ⟨gb37,1,none⟩ (.string ((rd_T161 l0 x10_1).f1))).setCell ⟨gb37,2,none⟩ (.int .i64 ((rd_T161 l0 x10_1).f2))).setCell ⟨gb37,3,none⟩ (.string ((rd_T161 l0 x10_1).f3))).setCell ⟨gb37,4,none⟩ (.int .i64 ((rd_T161 l0 x10_1).f4))).setCell ⟨gb37,5,none⟩ (.int .i64 ((rd_T161 l0 x10_1).f5))).setCell ⟨gb37,6,none⟩ (.int .i64 ((rd_T161 l0 x10_1).f6))).setCell ⟨gb37,7,none⟩ (.int .i64 ((rd_T161 l0 x10_1).f7))).heap[gb37]? = some (.cells #[.string ((rd_T161 l0 x10_1).f0),.string ((rd_T161 l0 x10_1).f1),.int .i64 ((rd_T161 l0 x10_1).f2),.string ((rd_T161 l0 x10_1).f3),.int .i64 ((rd_T161 l0 x10_1).f4),.int .i64 ((rd_T161 l0 x10_1).f5),.int .i64 ((rd_T161 l0 x10_1).f6),.int .i64 ((rd_T161 l0 x10_1).f7)] 161 (0,0))):=⟨kp BK37⟩;have n1_:Aside0 (Below w.heap.size w ((((((((w14.setCell ⟨gb37,0,none⟩ (.string ((rd_T161 l0 x10_1).f0))).setCell ⟨gb37,1,none⟩ (.string ((rd_T161 l0 x10_1).f1))).setCell ⟨gb37,2,none⟩ (.int .i64 ((rd_T161 l0 x10_1).f2))).setCell ⟨gb37,3,none⟩ (.string ((rd_T161 l0 x10_1).f3))).setCell ⟨gb37,4,none⟩ (.int .i64 ((rd_T161 l0 x10_1).f4))).setCell ⟨gb37,5,none⟩ (.int .i64 ((rd_T161 l0 x10_1).f5))).setCell ⟨gb37,6,none⟩ (.int .i64 ((rd_T161 l0 x10_1).f6))).setCell ⟨gb37,7,none⟩ (.int .i64 ((rd_T161 l0 x10_1).f7)))):=⟨bs HB⟩;(try clear BK37);(try clear HB)
        generalize ((((((((w14.setCell ⟨gb37,0,none⟩ (.string ((rd_T161 l0 x10_1).f0))).setCell ⟨gb37,1,none⟩ (.string ((rd_T161 l0 x10_1).f1))).setCell ⟨gb37,2,none⟩ (.int .i64 ((rd_T161 l0 x10_1).f2))).setCell ⟨gb37,3,none⟩ (.string ((rd_T161 l0 x10_1).f3))).setCell ⟨gb37,4,none⟩ (.int .i64 ((rd_T161 l0 x10_1).f4))).setCell ⟨gb37,5,none⟩ (.int .i64 ((rd_T161 l0 x10_1).f5))).setCell ⟨gb37,6,none⟩ (.int .i64 ((rd_T161 l0 x10_1).f6))).setCell ⟨gb37,7,none⟩ (.int .i64 ((rd_T161 l0 x10_1).f7)))=w16 at n0_ n1_ ⊢
        have BK37:=n0_;have HB:=n1_;clear n0_ n1_;replace BK37:=am (blk_drew BK37.out);replace HB:=am (below_drew1 HB.out);have p36:0≤((ji9):Int):=oa;have q36:(ji9)<(l0.length:Int):=oa;obtain ⟨ad36,e36,hx36_0,hx36_1,hx36_2,hx36_3,hx36_4,hx36_5,hx36_6,hx36_7⟩:=at_T161 HR0.out (ji9) p36 q36;have hw36_7:=hx36_7;have hw36_6:=hx36_6;have hw36_5:=hx36_5;have hw36_4:=hx36_4;have hw36_3:=hx36_3;have hw36_2:=hx36_2;have hw36_1:=hx36_1;have hw36_0:=hx36_0;obtain rfl:ad38=ad36:=(by injection e36);replace hx36_0:=cb HB hx36_0;replace hx36_1:=cb HB hx36_1;replace hx36_2:=cb HB hx36_2;replace hx36_3:=cb HB hx36_3;replace hx36_4:=cb HB hx36_4;replace hx36_5:=cb HB hx36_5;replace hx36_6:=cb HB hx36_6;replace hx36_7:=cb HB hx36_7;replace p36:=eq_true p36;replace q36:=eq_true q36;refine sta 17 (hb8a BK37 (hca (cb HB hw36_0) (hca (cb HB hw36_1) (hca (cb HB hw36_2) (hca (cb HB hw36_3) (hca (cb HB hw36_4) (hca (cb HB hw36_5) (hca (cb HB hw36_6) (hc (cb HB hw36_7)))))))))) (fun hHeld=>?_);refine with_tabW impl_LinesRight.tab6 impl_LinesRight.bits6 (fun HT_ HW_=>?_)
        generalize w16.drew=w17 at BK37 HB hx36_0 hx36_1 hx36_2 hx36_3 hx36_4 hx36_5 hx36_6 hx36_7 hHeld ⊢
        refine ta 0 ?_;refine oA 1 16 HT_ (fun K hK=>?_);refine gA Tryz.func147 #[.agg #[.string ((rd_T161 l0 x10_1).f0),.string ((rd_T161 l0 x10_1).f1),.int .i64 ((rd_T161 l0 x10_1).f2),.string ((rd_T161 l0 x10_1).f3),.int .i64 ((rd_T161 l0 x10_1).f4),.int .i64 ((rd_T161 l0 x10_1).f5),.int .i64 ((rd_T161 l0 x10_1).f6),.int .i64 ((rd_T161 l0 x10_1).f7)]] ?_;(with_reducible refine (impl_LineRight.calls k1 ((rd_T161 l0 x10_1).f0) ((rd_T161 l0 x10_1).f1) ((rd_T161 l0 x10_1).f2) ((rd_T161 l0 x10_1).f3) ((rd_T161 l0 x10_1).f4) ((rd_T161 l0 x10_1).f5) ((rd_T161 l0 x10_1).f6) ((rd_T161 l0 x10_1).f7) true _ A6.out).mono ?_);rintro e w18 ⟨rfl,hb⟩;refine ⟨_,rfl,?_⟩;replace BK37:=bb BK37 hb;replace HB:=bq HB hb;(try clear hb);(try clear hb2);(try clear hk);(try clear hi);refine hK.out _ _ (hb8a BK37 (hca (cb HB hw36_0) (hca (cb HB hw36_1) (hca (cb HB hw36_2) (hca (cb HB hw36_3) (hca (cb HB hw36_4) (hca (cb HB hw36_5) (hca (cb HB hw36_6) (hc (cb HB hw36_7)))))))))).out (fun hHeld=>?_);clear hK K;refine nA 16 ?_;refine pz8 2 ?_;refine pz1 10 ?_;refine ta 11 ?_;refine ta 12 ?_;refine oA 13 28 HT_ (fun K hK=>?_);refine goes_ Tryz.func148 (by kernel_rfl) rfl #[.agg #[.string ((rd_T161 l0 (ji9)).f0),.string ((rd_T161 l0 (ji9)).f1),.int .i64 ((rd_T161 l0 (ji9)).f2),.string ((rd_T161 l0 (ji9)).f3),.int .i64 ((rd_T161 l0 (ji9)).f4),.int .i64 ((rd_T161 l0 (ji9)).f5),.int .i64 ((rd_T161 l0 (ji9)).f6),.int .i64 ((rd_T161 l0 (ji9)).f7)],.agg #[.string ((rd_T161 l0 x10_1).f0),.string ((rd_T161 l0 x10_1).f1),.int .i64 ((rd_T161 l0 x10_1).f2),.string ((rd_T161 l0 x10_1).f3),.int .i64 ((rd_T161 l0 x10_1).f4),.int .i64 ((rd_T161 l0 x10_1).f5),.int .i64 ((rd_T161 l0 x10_1).f6),.int .i64 ((rd_T161 l0 x10_1).f7)]] (by rfl) rfl rfl (by (try simp only [List.map_toArray,List.map_cons,List.map_nil]);first|done|(simp only [hji9];rfl)|rfl|(simp only [List.length_drop,List.length_take];rfl)) ?_;(with_reducible refine (impl_lineOrder.calls k1 ((rd_T161 l0 (ji9)).f0) ((rd_T161 l0 (ji9)).f1) ((rd_T161 l0 (ji9)).f2) ((rd_T161 l0 (ji9)).f3) ((rd_T161 l0 (ji9)).f4) ((rd_T161 l0 (ji9)).f5) ((rd_T161 l0 (ji9)).f6) ((rd_T161 l0 (ji9)).f7) ((rd_T161 l0 x10_1).f0) ((rd_T161 l0 x10_1).f1) ((rd_T161 l0 x10_1).f2) ((rd_T161 l0 x10_1).f3) ((rd_T161 l0 x10_1).f4) ((rd_T161 l0 x10_1).f5) ((rd_T161 l0 x10_1).f6) ((rd_T161 l0 x10_1).f7) t39 _ A12.out).mono ?_);rintro e w19 ⟨rfl,hb⟩;refine ⟨_,rfl,?_⟩;replace BK37:=bb BK37 hb;replace HB:=bq HB hb;(try clear hb);(try clear hb2);(try clear hk);(try clear hi);refine hK.out _ _ (hb8a BK37 (hca (cb HB hw36_0) (hca (cb HB hw36_1) (hca (cb HB hw36_2) (hca (cb HB hw36_3) (hca (cb HB hw36_4) (hca (cb HB hw36_5) (hca (cb HB hw36_6) (hc (cb HB hw36_7)))))))))).out (fun hHeld=>?_);clear hK K;refine nA 28 ?_;refine pz3 14 ?_;refine done_ (done_of HT_.out (by kernel_rfl)) ?_
        try go_wp2
        go_ret
        exact ⟨by first|rfl|(simp [errW_none,errW_some] <;> rfl)|(simp only [← hji9];first|rfl|(simp [errW_none,errW_some] <;> rfl))|(simp [*,errW_none,errW_some] <;> rfl),bs HB⟩
       ·intro c13 H;have c13b0:decide (0≤t39)=false:=decide_eq_false c13;clear c13;have H':=am H;clear H;have p38:0≤(x10_1:Int):=oa;have q38:x10_1<(l0.length:Int):=oa;obtain ⟨ad38,e38,hx38_0,hx38_1,hx38_2,hx38_3,hx38_4,hx38_5,hx38_6,hx38_7⟩:=at_T161 HR0.out x10_1 p38 q38
        cases e38
        replace hx38_0:=cb HB hx38_0;replace hx38_1:=cb HB hx38_1;replace hx38_2:=cb HB hx38_2;replace hx38_3:=cb HB hx38_3;replace hx38_4:=cb HB hx38_4;replace hx38_5:=cb HB hx38_5;replace hx38_6:=cb HB hx38_6;replace hx38_7:=cb HB hx38_7;replace p38:=eq_true p38;replace q38:=eq_true q38
        try go_wp2_with (first|((with_reducible refine gate_dst (N:=4) rfl ?_);refine bz 4 (cs:=#[.string (⟨#[]⟩:ByteArray),.string (⟨#[]⟩:ByteArray),.int .i64 0,.string (⟨#[]⟩:ByteArray),.int .i64 0,.int .i64 0,.int .i64 0,.int .i64 0]) (t:=161) HB ?_;clear HB;intro gb37 hg w20 BK37 GW37 hb HB;clear hb hg;have hcz21:=cf8 BK37))
        have n0_:Aside0 (((((((((w20.setCell ⟨gb37,0,none⟩ (.string ((rd_T161 l0 x10_1).f0))).setCell ⟨gb37,1,none⟩ (.string ((rd_T161 l0 x10_1).f1))).setCell ⟨gb37,2,none⟩ (.int .i64 ((rd_T161 l0 x10_1).f2))).setCell ⟨gb37,3,none⟩ (.string ((rd_T161 l0 x10_1).f3))).setCell ⟨gb37,4,none⟩ (.int .i64 ((rd_T161 l0 x10_1).f4))).setCell ⟨gb37,5,none⟩ (.int .i64 ((rd_T161 l0 x10_1).f5))).setCell ⟨gb37,6,none⟩ (.int .i64 ((rd_T161 l0 x10_1).f6))).setCell ⟨gb37,7,none⟩ (.int .i64 ((rd_T161 l0 x10_1).f7))).heap[gb37]? = some (.cells #[.string ((rd_T161 l0 x10_1).f0),.string ((rd_T161 l0 x10_1).f1),.int .i64 ((rd_T161 l0 x10_1).f2),.string ((rd_T161 l0 x10_1).f3),.int .i64 ((rd_T161 l0 x10_1).f4),.int .i64 ((rd_T161 l0 x10_1).f5),.int .i64 ((rd_T161 l0 x10_1).f6),.int .i64 ((rd_T161 l0 x10_1).f7)] 161 (0,0))):=⟨kp BK37⟩;have n1_:Aside0 (Below w.heap.size w ((((((((w20.setCell ⟨gb37,0,none⟩ (.string ((rd_T161 l0 x10_1).f0))).setCell ⟨gb37,1,none⟩ (.string ((rd_T161 l0 x10_1).f1))).setCell ⟨gb37,2,none⟩ (.int .i64 ((rd_T161 l0 x10_1).f2))).setCell ⟨gb37,3,none⟩ (.string ((rd_T161 l0 x10_1).f3))).setCell ⟨gb37,4,none⟩ (.int .i64 ((rd_T161 l0 x10_1).f4))).setCell ⟨gb37,5,none⟩ (.int .i64 ((rd_T161 l0 x10_1).f5))).setCell ⟨gb37,6,none⟩ (.int .i64 ((rd_T161 l0 x10_1).f6))).setCell ⟨gb37,7,none⟩ (.int .i64 ((rd_T161 l0 x10_1).f7)))):=⟨bs HB⟩;(try clear BK37);(try clear HB)
        generalize ((((((((w20.setCell ⟨gb37,0,none⟩ (.string ((rd_T161 l0 x10_1).f0))).setCell ⟨gb37,1,none⟩ (.string ((rd_T161 l0 x10_1).f1))).setCell ⟨gb37,2,none⟩ (.int .i64 ((rd_T161 l0 x10_1).f2))).setCell ⟨gb37,3,none⟩ (.string ((rd_T161 l0 x10_1).f3))).setCell ⟨gb37,4,none⟩ (.int .i64 ((rd_T161 l0 x10_1).f4))).setCell ⟨gb37,5,none⟩ (.int .i64 ((rd_T161 l0 x10_1).f5))).setCell ⟨gb37,6,none⟩ (.int .i64 ((rd_T161 l0 x10_1).f6))).setCell ⟨gb37,7,none⟩ (.int .i64 ((rd_T161 l0 x10_1).f7)))=w22 at n0_ n1_ ⊢
        have BK37:=n0_;have HB:=n1_;clear n0_ n1_;replace BK37:=am (blk_drew BK37.out);replace HB:=am (below_drew1 HB.out);have p36:0≤((ji9):Int):=oa;have q36:(ji9)<(l0.length:Int):=oa;obtain ⟨ad36,e36,hx36_0,hx36_1,hx36_2,hx36_3,hx36_4,hx36_5,hx36_6,hx36_7⟩:=at_T161 HR0.out (ji9) p36 q36;have hw36_7:=hx36_7;have hw36_6:=hx36_6;have hw36_5:=hx36_5;have hw36_4:=hx36_4;have hw36_3:=hx36_3;have hw36_2:=hx36_2;have hw36_1:=hx36_1;have hw36_0:=hx36_0;obtain rfl:ad38=ad36:=(by injection e36);replace hx36_0:=cb HB hx36_0;replace hx36_1:=cb HB hx36_1;replace hx36_2:=cb HB hx36_2;replace hx36_3:=cb HB hx36_3;replace hx36_4:=cb HB hx36_4;replace hx36_5:=cb HB hx36_5;replace hx36_6:=cb HB hx36_6;replace hx36_7:=cb HB hx36_7;replace p36:=eq_true p36;replace q36:=eq_true q36;refine sta 17 (hb8a BK37 (hca (cb HB hw36_0) (hca (cb HB hw36_1) (hca (cb HB hw36_2) (hca (cb HB hw36_3) (hca (cb HB hw36_4) (hca (cb HB hw36_5) (hca (cb HB hw36_6) (hc (cb HB hw36_7)))))))))) (fun hHeld=>?_);refine with_tabW impl_LinesRight.tab6 impl_LinesRight.bits6 (fun HT_ HW_=>?_)
        generalize w22.drew=w23 at BK37 HB hx36_0 hx36_1 hx36_2 hx36_3 hx36_4 hx36_5 hx36_6 hx36_7 hHeld ⊢
        refine ta 0 ?_;refine oA 1 16 HT_ (fun K hK=>?_);refine gA Tryz.func147 #[.agg #[.string ((rd_T161 l0 x10_1).f0),.string ((rd_T161 l0 x10_1).f1),.int .i64 ((rd_T161 l0 x10_1).f2),.string ((rd_T161 l0 x10_1).f3),.int .i64 ((rd_T161 l0 x10_1).f4),.int .i64 ((rd_T161 l0 x10_1).f5),.int .i64 ((rd_T161 l0 x10_1).f6),.int .i64 ((rd_T161 l0 x10_1).f7)]] ?_;(with_reducible refine (impl_LineRight.calls k1 ((rd_T161 l0 x10_1).f0) ((rd_T161 l0 x10_1).f1) ((rd_T161 l0 x10_1).f2) ((rd_T161 l0 x10_1).f3) ((rd_T161 l0 x10_1).f4) ((rd_T161 l0 x10_1).f5) ((rd_T161 l0 x10_1).f6) ((rd_T161 l0 x10_1).f7) true _ A6.out).mono ?_);rintro e w24 ⟨rfl,hb⟩;refine ⟨_,rfl,?_⟩;replace BK37:=bb BK37 hb;replace HB:=bq HB hb;(try clear hb);(try clear hb2);(try clear hk);(try clear hi);refine hK.out _ _ (hb8a BK37 (hca (cb HB hw36_0) (hca (cb HB hw36_1) (hca (cb HB hw36_2) (hca (cb HB hw36_3) (hca (cb HB hw36_4) (hca (cb HB hw36_5) (hca (cb HB hw36_6) (hc (cb HB hw36_7)))))))))).out (fun hHeld=>?_);clear hK K;refine nA 16 ?_;refine pz8 2 ?_;refine pz1 10 ?_;refine ta 11 ?_;refine ta 12 ?_;refine oA 13 28 HT_ (fun K hK=>?_);refine goes_ Tryz.func148 (by kernel_rfl) rfl #[.agg #[.string ((rd_T161 l0 (ji9)).f0),.string ((rd_T161 l0 (ji9)).f1),.int .i64 ((rd_T161 l0 (ji9)).f2),.string ((rd_T161 l0 (ji9)).f3),.int .i64 ((rd_T161 l0 (ji9)).f4),.int .i64 ((rd_T161 l0 (ji9)).f5),.int .i64 ((rd_T161 l0 (ji9)).f6),.int .i64 ((rd_T161 l0 (ji9)).f7)],.agg #[.string ((rd_T161 l0 x10_1).f0),.string ((rd_T161 l0 x10_1).f1),.int .i64 ((rd_T161 l0 x10_1).f2),.string ((rd_T161 l0 x10_1).f3),.int .i64 ((rd_T161 l0 x10_1).f4),.int .i64 ((rd_T161 l0 x10_1).f5),.int .i64 ((rd_T161 l0 x10_1).f6),.int .i64 ((rd_T161 l0 x10_1).f7)]] (by rfl) rfl rfl (by (try simp only [List.map_toArray,List.map_cons,List.map_nil]);first|done|(simp only [hji9];rfl)|rfl|(simp only [List.length_drop,List.length_take];rfl)) ?_;(with_reducible refine (impl_lineOrder.calls k1 ((rd_T161 l0 (ji9)).f0) ((rd_T161 l0 (ji9)).f1) ((rd_T161 l0 (ji9)).f2) ((rd_T161 l0 (ji9)).f3) ((rd_T161 l0 (ji9)).f4) ((rd_T161 l0 (ji9)).f5) ((rd_T161 l0 (ji9)).f6) ((rd_T161 l0 (ji9)).f7) ((rd_T161 l0 x10_1).f0) ((rd_T161 l0 x10_1).f1) ((rd_T161 l0 x10_1).f2) ((rd_T161 l0 x10_1).f3) ((rd_T161 l0 x10_1).f4) ((rd_T161 l0 x10_1).f5) ((rd_T161 l0 x10_1).f6) ((rd_T161 l0 x10_1).f7) t39 _ A12.out).mono ?_);rintro e w25 ⟨rfl,hb⟩;refine ⟨_,rfl,?_⟩;replace BK37:=bb BK37 hb;replace HB:=bq HB hb;(try clear hb);(try clear hb2);(try clear hk);(try clear hi);refine hK.out _ _ (hb8a BK37 (hca (cb HB hw36_0) (hca (cb HB hw36_1) (hca (cb HB hw36_2) (hca (cb HB hw36_3) (hca (cb HB hw36_4) (hca (cb HB hw36_5) (hca (cb HB hw36_6) (hc (cb HB hw36_7)))))))))).out (fun hHeld=>?_);clear hK K;refine nA 28 ?_;refine pz3 14 ?_;refine done_ (done_of HT_.out (by kernel_rfl)) ?_
        try go_wp2
        go_roundg k1
        case measure=>have:=HK1.out;omega
        case rel=>exact ⟨(wrap64 (x10_1+1)),fg,H',⟨by have:=HK1.out;omega⟩,⟨bs HB⟩⟩
      ·intro c8 H;have c8b0:decide (0<x10_1)=false:=decide_eq_false c8;clear c8;have H':=am H;clear H;have p38:0≤(x10_1:Int):=oa;have q38:x10_1<(l0.length:Int):=oa;obtain ⟨ad38,e38,hx38_0,hx38_1,hx38_2,hx38_3,hx38_4,hx38_5,hx38_6,hx38_7⟩:=at_T161 HR0.out x10_1 p38 q38
       cases e38
       replace hx38_0:=cb HB hx38_0;replace hx38_1:=cb HB hx38_1;replace hx38_2:=cb HB hx38_2;replace hx38_3:=cb HB hx38_3;replace hx38_4:=cb HB hx38_4;replace hx38_5:=cb HB hx38_5;replace hx38_6:=cb HB hx38_6;replace hx38_7:=cb HB hx38_7;replace p38:=eq_true p38;replace q38:=eq_true q38
       try go_wp2_with (first|((with_reducible refine gate_dst (N:=4) rfl ?_);refine bz 4 (cs:=#[.string (⟨#[]⟩:ByteArray),.string (⟨#[]⟩:ByteArray),.int .i64 0,.string (⟨#[]⟩:ByteArray),.int .i64 0,.int .i64 0,.int .i64 0,.int .i64 0]) (t:=161) HB ?_;clear HB;intro gb37 hg w26 BK37 GW37 hb HB;clear hb hg;have hcz27:=cf8 BK37))
       have n0_:Aside0 (((((((((w26.setCell ⟨gb37,0,none⟩ (.string ((rd_T161 l0 x10_1).f0))).setCell ⟨gb37,1,none⟩ (.string ((rd_T161 l0 x10_1).f1))).setCell ⟨gb37,2,none⟩ (.int .i64 ((rd_T161 l0 x10_1).f2))).setCell ⟨gb37,3,none⟩ (.string ((rd_T161 l0 x10_1).f3))).setCell ⟨gb37,4,none⟩ (.int .i64 ((rd_T161 l0 x10_1).f4))).setCell ⟨gb37,5,none⟩ (.int .i64 ((rd_T161 l0 x10_1).f5))).setCell ⟨gb37,6,none⟩ (.int .i64 ((rd_T161 l0 x10_1).f6))).setCell ⟨gb37,7,none⟩ (.int .i64 ((rd_T161 l0 x10_1).f7))).heap[gb37]? = some (.cells #[.string ((rd_T161 l0 x10_1).f0),.string ((rd_T161 l0 x10_1).f1),.int .i64 ((rd_T161 l0 x10_1).f2),.string ((rd_T161 l0 x10_1).f3),.int .i64 ((rd_T161 l0 x10_1).f4),.int .i64 ((rd_T161 l0 x10_1).f5),.int .i64 ((rd_T161 l0 x10_1).f6),.int .i64 ((rd_T161 l0 x10_1).f7)] 161 (0,0))):=⟨kp BK37⟩;have n1_:Aside0 (Below w.heap.size w ((((((((w26.setCell ⟨gb37,0,none⟩ (.string ((rd_T161 l0 x10_1).f0))).setCell ⟨gb37,1,none⟩ (.string ((rd_T161 l0 x10_1).f1))).setCell ⟨gb37,2,none⟩ (.int .i64 ((rd_T161 l0 x10_1).f2))).setCell ⟨gb37,3,none⟩ (.string ((rd_T161 l0 x10_1).f3))).setCell ⟨gb37,4,none⟩ (.int .i64 ((rd_T161 l0 x10_1).f4))).setCell ⟨gb37,5,none⟩ (.int .i64 ((rd_T161 l0 x10_1).f5))).setCell ⟨gb37,6,none⟩ (.int .i64 ((rd_T161 l0 x10_1).f6))).setCell ⟨gb37,7,none⟩ (.int .i64 ((rd_T161 l0 x10_1).f7)))):=⟨bs HB⟩;(try clear BK37);(try clear HB)
       generalize ((((((((w26.setCell ⟨gb37,0,none⟩ (.string ((rd_T161 l0 x10_1).f0))).setCell ⟨gb37,1,none⟩ (.string ((rd_T161 l0 x10_1).f1))).setCell ⟨gb37,2,none⟩ (.int .i64 ((rd_T161 l0 x10_1).f2))).setCell ⟨gb37,3,none⟩ (.string ((rd_T161 l0 x10_1).f3))).setCell ⟨gb37,4,none⟩ (.int .i64 ((rd_T161 l0 x10_1).f4))).setCell ⟨gb37,5,none⟩ (.int .i64 ((rd_T161 l0 x10_1).f5))).setCell ⟨gb37,6,none⟩ (.int .i64 ((rd_T161 l0 x10_1).f6))).setCell ⟨gb37,7,none⟩ (.int .i64 ((rd_T161 l0 x10_1).f7)))=w28 at n0_ n1_ ⊢
       have BK37:=n0_;have HB:=n1_;clear n0_ n1_;replace BK37:=am (blk_drew BK37.out);replace HB:=am (below_drew1 HB.out);refine sta 17 (hb8 BK37) (fun hHeld=>?_);refine with_tabW impl_LinesRight.tab6 impl_LinesRight.bits6 (fun HT_ HW_=>?_)
       generalize w28.drew=w29 at BK37 HB hHeld ⊢
       refine ta 0 ?_;refine oA 1 16 HT_ (fun K hK=>?_);refine gA Tryz.func147 #[.agg #[.string ((rd_T161 l0 x10_1).f0),.string ((rd_T161 l0 x10_1).f1),.int .i64 ((rd_T161 l0 x10_1).f2),.string ((rd_T161 l0 x10_1).f3),.int .i64 ((rd_T161 l0 x10_1).f4),.int .i64 ((rd_T161 l0 x10_1).f5),.int .i64 ((rd_T161 l0 x10_1).f6),.int .i64 ((rd_T161 l0 x10_1).f7)]] ?_;(with_reducible refine (impl_LineRight.calls k1 ((rd_T161 l0 x10_1).f0) ((rd_T161 l0 x10_1).f1) ((rd_T161 l0 x10_1).f2) ((rd_T161 l0 x10_1).f3) ((rd_T161 l0 x10_1).f4) ((rd_T161 l0 x10_1).f5) ((rd_T161 l0 x10_1).f6) ((rd_T161 l0 x10_1).f7) true _ A6.out).mono ?_);rintro e w30 ⟨rfl,hb⟩;refine ⟨_,rfl,?_⟩;replace BK37:=bb BK37 hb;replace HB:=bq HB hb;(try clear hb);(try clear hb2);(try clear hk);(try clear hi);refine hK.out _ _ (hb8 BK37).out (fun hHeld=>?_);clear hK K;refine nA 16 ?_;refine pz8 2 ?_;refine pz4 10 ?_;refine pz3 14 ?_;refine done_ (done_of HT_.out (by kernel_rfl)) ?_
       try go_wp2
       go_roundg k1
       case measure=>have:=HK1.out;omega
       case rel=>exact ⟨(wrap64 (x10_1+1)),fg,H',⟨by have:=HK1.out;omega⟩,⟨bs HB⟩⟩
     ·replace H:=itF H;obtain rfl:=si H;have p38:0≤(x10_1:Int):=oa;have q38:x10_1<(l0.length:Int):=oa;obtain ⟨ad38,e38,hx38_0,hx38_1,hx38_2,hx38_3,hx38_4,hx38_5,hx38_6,hx38_7⟩:=at_T161 HR0.out x10_1 p38 q38
      cases e38
      replace hx38_0:=cb HB hx38_0;replace hx38_1:=cb HB hx38_1;replace hx38_2:=cb HB hx38_2;replace hx38_3:=cb HB hx38_3;replace hx38_4:=cb HB hx38_4;replace hx38_5:=cb HB hx38_5;replace hx38_6:=cb HB hx38_6;replace hx38_7:=cb HB hx38_7;replace p38:=eq_true p38;replace q38:=eq_true q38
      try go_wp2_with (first|((with_reducible refine gate_dst (N:=4) rfl ?_);refine bz 4 (cs:=#[.string (⟨#[]⟩:ByteArray),.string (⟨#[]⟩:ByteArray),.int .i64 0,.string (⟨#[]⟩:ByteArray),.int .i64 0,.int .i64 0,.int .i64 0,.int .i64 0]) (t:=161) HB ?_;clear HB;intro gb37 hg w31 BK37 GW37 hb HB;clear hb hg;have hcz32:=cf8 BK37))
      have n0_:Aside0 (((((((((w31.setCell ⟨gb37,0,none⟩ (.string ((rd_T161 l0 x10_1).f0))).setCell ⟨gb37,1,none⟩ (.string ((rd_T161 l0 x10_1).f1))).setCell ⟨gb37,2,none⟩ (.int .i64 ((rd_T161 l0 x10_1).f2))).setCell ⟨gb37,3,none⟩ (.string ((rd_T161 l0 x10_1).f3))).setCell ⟨gb37,4,none⟩ (.int .i64 ((rd_T161 l0 x10_1).f4))).setCell ⟨gb37,5,none⟩ (.int .i64 ((rd_T161 l0 x10_1).f5))).setCell ⟨gb37,6,none⟩ (.int .i64 ((rd_T161 l0 x10_1).f6))).setCell ⟨gb37,7,none⟩ (.int .i64 ((rd_T161 l0 x10_1).f7))).heap[gb37]? = some (.cells #[.string ((rd_T161 l0 x10_1).f0),.string ((rd_T161 l0 x10_1).f1),.int .i64 ((rd_T161 l0 x10_1).f2),.string ((rd_T161 l0 x10_1).f3),.int .i64 ((rd_T161 l0 x10_1).f4),.int .i64 ((rd_T161 l0 x10_1).f5),.int .i64 ((rd_T161 l0 x10_1).f6),.int .i64 ((rd_T161 l0 x10_1).f7)] 161 (0,0))):=⟨kp BK37⟩;have n1_:Aside0 (Below w.heap.size w ((((((((w31.setCell ⟨gb37,0,none⟩ (.string ((rd_T161 l0 x10_1).f0))).setCell ⟨gb37,1,none⟩ (.string ((rd_T161 l0 x10_1).f1))).setCell ⟨gb37,2,none⟩ (.int .i64 ((rd_T161 l0 x10_1).f2))).setCell ⟨gb37,3,none⟩ (.string ((rd_T161 l0 x10_1).f3))).setCell ⟨gb37,4,none⟩ (.int .i64 ((rd_T161 l0 x10_1).f4))).setCell ⟨gb37,5,none⟩ (.int .i64 ((rd_T161 l0 x10_1).f5))).setCell ⟨gb37,6,none⟩ (.int .i64 ((rd_T161 l0 x10_1).f6))).setCell ⟨gb37,7,none⟩ (.int .i64 ((rd_T161 l0 x10_1).f7)))):=⟨bs HB⟩;(try clear BK37);(try clear HB)
      generalize ((((((((w31.setCell ⟨gb37,0,none⟩ (.string ((rd_T161 l0 x10_1).f0))).setCell ⟨gb37,1,none⟩ (.string ((rd_T161 l0 x10_1).f1))).setCell ⟨gb37,2,none⟩ (.int .i64 ((rd_T161 l0 x10_1).f2))).setCell ⟨gb37,3,none⟩ (.string ((rd_T161 l0 x10_1).f3))).setCell ⟨gb37,4,none⟩ (.int .i64 ((rd_T161 l0 x10_1).f4))).setCell ⟨gb37,5,none⟩ (.int .i64 ((rd_T161 l0 x10_1).f5))).setCell ⟨gb37,6,none⟩ (.int .i64 ((rd_T161 l0 x10_1).f6))).setCell ⟨gb37,7,none⟩ (.int .i64 ((rd_T161 l0 x10_1).f7)))=w33 at n0_ n1_ ⊢
      have BK37:=n0_;have HB:=n1_;clear n0_ n1_;replace BK37:=am (blk_drew BK37.out);replace HB:=am (below_drew1 HB.out);refine sta 17 (hb8 BK37) (fun hHeld=>?_);refine with_tabW impl_LinesRight.tab6 impl_LinesRight.bits6 (fun HT_ HW_=>?_)
      generalize w33.drew=w34 at BK37 HB hHeld ⊢
      refine ta 0 ?_;refine oA 1 16 HT_ (fun K hK=>?_);refine gA Tryz.func147 #[.agg #[.string ((rd_T161 l0 x10_1).f0),.string ((rd_T161 l0 x10_1).f1),.int .i64 ((rd_T161 l0 x10_1).f2),.string ((rd_T161 l0 x10_1).f3),.int .i64 ((rd_T161 l0 x10_1).f4),.int .i64 ((rd_T161 l0 x10_1).f5),.int .i64 ((rd_T161 l0 x10_1).f6),.int .i64 ((rd_T161 l0 x10_1).f7)]] ?_;(with_reducible refine (impl_LineRight.calls k1 ((rd_T161 l0 x10_1).f0) ((rd_T161 l0 x10_1).f1) ((rd_T161 l0 x10_1).f2) ((rd_T161 l0 x10_1).f3) ((rd_T161 l0 x10_1).f4) ((rd_T161 l0 x10_1).f5) ((rd_T161 l0 x10_1).f6) ((rd_T161 l0 x10_1).f7) false _ A6.out).mono ?_);rintro e w35 ⟨rfl,hb⟩;refine ⟨_,rfl,?_⟩;replace BK37:=bb BK37 hb;replace HB:=bq HB hb;(try clear hb);(try clear hb2);(try clear hk);(try clear hi);refine hK.out _ _ (hb8 BK37).out (fun hHeld=>?_);clear hK K;refine nA 16 ?_;refine pz8 2 ?_;refine pz4 10 ?_;refine pz3 14 ?_;refine done_ (done_of HT_.out (by kernel_rfl)) ?_
      try go_wp2
      go_ret
      exact ⟨ff,bs HB⟩
    ·intro c3b0 H;obtain rfl:=si H
     go_wp2
     go_ret
     exact ⟨ff,bs HB⟩
def impl_BookRight.T6:Bool × List (List Nat × List Nat):=(true,[([],[]),([0],[0]),([1],[1]),([2],[2]),([3,2],[3]),([4],[4]),([5,4],[4,5]),([6,4,4],[4,6]),([7,4],[4,7]),([4,8],[4,8]),([9,7],[9]),([10],[10]),([11,10],[10,11]),([12,10,10],[10,12]),([13],[13]),([14,13],[13,14]),([13],[13]),([16,13],[13,16]),([13],[13]),([18,13],[13,18]),([17,19,13],[13,17,19]),([20,13],[13,20]),([21,13],[13,21]),([15,22,13],[13,15,22]),([13,23,10],[10,13,23]),([10,24],[10,24])])
def impl_BookRight.B6:List Nat:=[0,1,3,7,15,31,63,127,255,511,1023,2047,4095,8191,16383,32767,16383,81919,16383,278527,999423,2047999,4145151,8388607,16777215,33554431]
theorem impl_BookRight.tab6:rtab .any (opsOf Tryz.f85 6)=impl_BookRight.T6:=by kernel_rfl
theorem impl_BookRight.bits6:waitsOk impl_BookRight.T6.2 impl_BookRight.B6=true:=by kernel_rfl
theorem impl_BookRight.calls (k:Nat) (A0_0:Option Addr) (c0_0:Nat) (l0_0:List (S152)) (A0_1:Option Addr) (c0_1:Nat) (l0_1:List (S161)) (r:Bool) (w:World) (hr0_0:Kd.C k152 w A0_0 l0_0.length l0_0) (hc0_0:l0_0.length≤c0_0) (hr0_1:Kd.C k161 w A0_1 l0_1.length l0_1) (hc0_1:l0_1.length≤c0_1) (H:impl_BookRight.f k l0_0 l0_1=some r) :
  Calls Tryz.prog 85 #[.agg #[.slice A0_0 l0_0.length c0_0,.slice A0_1 l0_1.length c0_1]] w fun e w'=>e=.returned (.bool r)∧Below w.heap.size w w':=by
 have hu38:=Tryz.underlying38;have hu152:=Tryz.underlying152;have HR0_0:=am hr0_0;have HC0_0:=am hc0_0;clear hr0_0 hc0_0;have HR0_1:=am hr0_1;have HC0_1:=am hc0_1;clear hr0_1 hc0_1;have HB:=am (Below.refl w.heap.size w);unfold impl_BookRight.f at H
 revert H;refine ip2 ?_ ?_
 ·intro c2 H;have c2b0:decide (100<(l0_0.length:Int))=true:=decide_eq_true c2;have c2b1:decide (100<l0_0.length)=true:=decide_eq_true (by omega);clear c2;obtain rfl:=si H
  go_in
  go_wp2_with (first|((with_reducible refine gate_dst (N:=1) rfl ?_);refine bz 1 (cs:=#[.slice A0_0 l0_0.length c0_0,.slice A0_1 l0_1.length c0_1]) (t:=38) HB ?_;clear HB;intro gb48 hg w3 BK48 GW48 hb HB;clear hb hg;have hcz4:=cf2 BK48))
  go_ret
  exact ⟨ff,bs HB⟩
 ·intro c2 H;have c2b0:decide (100<(l0_0.length:Int))=false:=decide_eq_false c2;have c2b1:decide (100<l0_0.length)=false:=decide_eq_false (by omega);clear c2;have H':=am H;clear H
  go_in
  go_wp2_with (first|((with_reducible refine gate_dst (N:=1) rfl ?_);refine bz 1 (cs:=#[.slice A0_0 l0_0.length c0_0,.slice A0_1 l0_1.length c0_1]) (t:=38) HB ?_;clear HB;intro gb48 hg w5 BK48 GW48 hb HB;clear hb hg;have hcz6:=cf2 BK48))
  go_loopg [12] k (fun kq v12 w'=>∃ (x12_1:Int),v12=.int .i64 x12_1∧Aside0 (impl_BookRight.l0 kq l0_0 (l0_0.length:Int) x12_1 l0_0 l0_1=some r)∧Aside0 (kq≤k)∧Aside0 (w'.heap[gb48]? = some (.cells #[(.slice A0_0 l0_0.length c0_0),(.slice A0_1 l0_1.length c0_1)] 38 (0,0)))∧Aside0 (Below w.heap.size w w'))
  case atStart=>exact ⟨(0),fg,H',⟨Nat.le_refl _⟩,⟨ks BK48⟩,⟨bs HB⟩⟩
  case round =>
   clear H'
   try clear c2
   try clear c2b0
   try clear c2b1
   try clear hcz6
   try clear BK48
   obtain ⟨x12_1,rfl,HA,HK1,BK48,HB⟩:=hrel
   cases gk with
   | zero=>exact absurd HA.out (by simp [impl_BookRight.l0])
   | succ k1 =>
    have H:=HA.out;clear HA;simp only [impl_BookRight.l0] at H
    revert H;refine id2 ?_ ?_
    ·intro c7b0 H
     revert H;refine id1 ?_
     intro c8b0 H
     revert H;refine id1 ?_
     intro c9b0 H;replace H:=bo H;obtain ⟨t52,A10,H⟩:=H
     obtain rfl|rfl:=bt t52
     ·replace H:=itT H;replace H:=bo H;obtain ⟨t54,A12,H⟩:=H
      obtain rfl|rfl:=bt t54
      ·replace H:=itT H
       revert H;refine ip2 ?_ ?_
       ·intro c14 H;have c14b0:decide (0<x12_1)=true:=decide_eq_true c14;clear c14;obtain ⟨ji15,hji15⟩:∃ j_:Int,(wrap64 (x12_1 - 1))=j_:=⟨_,rfl⟩
        replace H:(if 0≤(ji15) then (if (ji15)<(l0_0.length:Int) then (if ((Op.bytesLess (((rd_T152 l0_0 (ji15)).f0).toList) (((rd_T152 l0_0 x12_1).f0).toList))=true) then (impl_BookRight.l0 k1 l0_0 (l0_0.length:Int) (wrap64 (x12_1+1)) l0_0 l0_1) else (some false)) else (none)) else (none))=some r:=by first|(rw [hji15] at H;exact H)|(simp only [hji15] at H ⊢;exact H)
        (try rw [hji15] at A10)
        (try rw [hji15] at A12)
        have hji15w:(IntKind.i64.wrap (x12_1 - 1))=ji15:=(i64_w _).trans hji15
        revert H;refine id1 ?_
        intro c16b0 H
        revert H;refine id1 ?_
        intro c17b0 H
        revert H;refine ip2 ?_ ?_
        ·intro c18 H;have c18b0:(Op.bytesLess (((rd_T152 l0_0 (ji15)).f0).toList) (((rd_T152 l0_0 x12_1).f0).toList))=true:=c18;clear c18;have H':=am H;clear H;have p49:0≤(x12_1:Int):=oa;have q49:x12_1<(l0_0.length:Int):=oa;obtain ⟨ad49,e49,hx49_0,hx49_1⟩:=at_T152 HR0_0.out x12_1 p49 q49
         cases e49
         replace hx49_0:=cb HB hx49_0;replace hx49_1:=cb HB hx49_1;replace p49:=eq_true p49;replace q49:=eq_true q49
         try go_wp2_with (first|((with_reducible refine gate_dst (N:=4) rfl ?_);refine bz 4 (cs:=#[.string (⟨#[]⟩:ByteArray),.int .i64 0]) (t:=152) HB ?_;clear HB;intro gb47 hg w19 BK47 GW47 hb HB;have NB48_47:=na hg BK48;have NB47_48:=nc hg BK48;replace BK48:=bb BK48 hb;clear hb hg;have hnb20:=NB47_48.out;have hnc20:=NB48_47.out;have hcz21:=cf2 BK47))
         have n0_:=kz ((w19.setCell ⟨gb47,0,none⟩ (.string ((rd_T152 l0_0 x12_1).f0))).setCell ⟨gb47,1,none⟩ (.int .i64 ((rd_T152 l0_0 x12_1).f1))) BK48;have n1_:Aside0 (((w19.setCell ⟨gb47,0,none⟩ (.string ((rd_T152 l0_0 x12_1).f0))).setCell ⟨gb47,1,none⟩ (.int .i64 ((rd_T152 l0_0 x12_1).f1))).heap[gb47]? = some (.cells #[.string ((rd_T152 l0_0 x12_1).f0),.int .i64 ((rd_T152 l0_0 x12_1).f1)] 152 (0,0))):=⟨kp BK47⟩;have n2_:Aside0 (Below w.heap.size w ((w19.setCell ⟨gb47,0,none⟩ (.string ((rd_T152 l0_0 x12_1).f0))).setCell ⟨gb47,1,none⟩ (.int .i64 ((rd_T152 l0_0 x12_1).f1)))):=⟨bs HB⟩;(try clear BK48);(try clear BK47);(try clear HB)
         generalize ((w19.setCell ⟨gb47,0,none⟩ (.string ((rd_T152 l0_0 x12_1).f0))).setCell ⟨gb47,1,none⟩ (.int .i64 ((rd_T152 l0_0 x12_1).f1)))=w22 at n0_ n1_ n2_ ⊢
         have BK48:=n0_;have BK47:=n1_;have HB:=n2_;clear n0_ n1_ n2_;replace BK48:=am (blk_drew BK48.out);replace BK47:=am (blk_drew BK47.out);replace HB:=am (below_drew1 HB.out);have p50:0≤((ji15):Int):=oa;have q50:(ji15)<(l0_0.length:Int):=oa;obtain ⟨ad50,e50,hx50_0,hx50_1⟩:=at_T152 HR0_0.out (ji15) p50 q50;have hw50_1:=hx50_1;have hw50_0:=hx50_0;obtain rfl:ad49=ad50:=(by injection e50);replace hx50_0:=cb HB hx50_0;replace hx50_1:=cb HB hx50_1;replace p50:=eq_true p50;replace q50:=eq_true q50;refine sta 26 (hb2a BK47 (hb2a BK48 (hca (cb HB hw50_0) (hc (cb HB hw50_1))))) (fun hHeld=>?_);refine with_tabW impl_BookRight.tab6 impl_BookRight.bits6 (fun HT_ HW_=>?_)
         generalize w22.drew=w23 at BK48 BK47 HB hx50_0 hx50_1 hHeld ⊢
         refine pz1 0 ?_;refine ta 1 ?_;refine oA 2 19 HT_ (fun K hK=>?_);refine gA Tryz.func53 #[.string ((rd_T152 l0_0 x12_1).f0)] ?_;(with_reducible refine (impl_isName.calls k1 ((rd_T152 l0_0 x12_1).f0) true _ A10.out).mono ?_);rintro e w' ⟨rfl,⟨nd,rfl⟩⟩;refine ⟨_,rfl,?_⟩;refine hK.out _ _ (hb2a BK47 (hb2a BK48 (hca (cb HB hw50_0) (hc (cb HB hw50_1))))).out (fun hHeld=>?_);clear hK K;refine nA 19 ?_;refine pz3 3 ?_;refine ta 6 ?_;refine oA 7 24 HT_ (fun K hK=>?_);refine gA Tryz.func105 #[.int .i64 ((rd_T152 l0_0 x12_1).f1),.int .i64 0,.int .i64 1000000000] ?_;(with_reducible refine (impl_within.calls ((rd_T152 l0_0 x12_1).f1) 0 1000000000 true _ A12.out).mono ?_);rintro e w' ⟨rfl,⟨nd,rfl⟩⟩;refine ⟨_,rfl,?_⟩;refine hK.out _ _ (hb2a BK47 (hb2a BK48 (hca (cb HB hw50_0) (hc (cb HB hw50_1))))).out (fun hHeld=>?_);clear hK K;refine nA 24 ?_;refine pz4 8 ?_;refine pz3 12 ?_;refine pz1 16 ?_;refine pz2 18 ?_;refine ta 15 ?_;refine ta 17 ?_;refine pz2 20 ?_;refine ta 22 ?_;refine pz3 23 ?_;refine done_ (done_of HT_.out (by kernel_rfl)) ?_
         try go_wp2
         go_roundg k1
         case measure=>have:=HK1.out;omega
         case rel=>exact ⟨(wrap64 (x12_1+1)),fg,H',⟨by have:=HK1.out;omega⟩,⟨ks BK48⟩,⟨bs HB⟩⟩
        ·intro c18 H
         have c18b0:(Op.bytesLess (((rd_T152 l0_0 (ji15)).f0).toList) (((rd_T152 l0_0 x12_1).f0).toList))=false:=by simpa using c18
         clear c18;obtain rfl:=si H;have p49:0≤(x12_1:Int):=oa;have q49:x12_1<(l0_0.length:Int):=oa;obtain ⟨ad49,e49,hx49_0,hx49_1⟩:=at_T152 HR0_0.out x12_1 p49 q49
         cases e49
         replace hx49_0:=cb HB hx49_0;replace hx49_1:=cb HB hx49_1;replace p49:=eq_true p49;replace q49:=eq_true q49
         try go_wp2_with (first|((with_reducible refine gate_dst (N:=4) rfl ?_);refine bz 4 (cs:=#[.string (⟨#[]⟩:ByteArray),.int .i64 0]) (t:=152) HB ?_;clear HB;intro gb47 hg w24 BK47 GW47 hb HB;have NB48_47:=na hg BK48;have NB47_48:=nc hg BK48;replace BK48:=bb BK48 hb;clear hb hg;have hnb25:=NB47_48.out;have hnc25:=NB48_47.out;have hcz26:=cf2 BK47))
         have n0_:=kz ((w24.setCell ⟨gb47,0,none⟩ (.string ((rd_T152 l0_0 x12_1).f0))).setCell ⟨gb47,1,none⟩ (.int .i64 ((rd_T152 l0_0 x12_1).f1))) BK48;have n1_:Aside0 (((w24.setCell ⟨gb47,0,none⟩ (.string ((rd_T152 l0_0 x12_1).f0))).setCell ⟨gb47,1,none⟩ (.int .i64 ((rd_T152 l0_0 x12_1).f1))).heap[gb47]? = some (.cells #[.string ((rd_T152 l0_0 x12_1).f0),.int .i64 ((rd_T152 l0_0 x12_1).f1)] 152 (0,0))):=⟨kp BK47⟩;have n2_:Aside0 (Below w.heap.size w ((w24.setCell ⟨gb47,0,none⟩ (.string ((rd_T152 l0_0 x12_1).f0))).setCell ⟨gb47,1,none⟩ (.int .i64 ((rd_T152 l0_0 x12_1).f1)))):=⟨bs HB⟩;(try clear BK48);(try clear BK47);(try clear HB)
         generalize ((w24.setCell ⟨gb47,0,none⟩ (.string ((rd_T152 l0_0 x12_1).f0))).setCell ⟨gb47,1,none⟩ (.int .i64 ((rd_T152 l0_0 x12_1).f1)))=w27 at n0_ n1_ n2_ ⊢
         have BK48:=n0_;have BK47:=n1_;have HB:=n2_;clear n0_ n1_ n2_;replace BK48:=am (blk_drew BK48.out);replace BK47:=am (blk_drew BK47.out);replace HB:=am (below_drew1 HB.out);have p50:0≤((ji15):Int):=oa;have q50:(ji15)<(l0_0.length:Int):=oa;obtain ⟨ad50,e50,hx50_0,hx50_1⟩:=at_T152 HR0_0.out (ji15) p50 q50;have hw50_1:=hx50_1;have hw50_0:=hx50_0;obtain rfl:ad49=ad50:=(by injection e50);replace hx50_0:=cb HB hx50_0;replace hx50_1:=cb HB hx50_1;replace p50:=eq_true p50;replace q50:=eq_true q50;refine sta 26 (hb2a BK47 (hb2a BK48 (hca (cb HB hw50_0) (hc (cb HB hw50_1))))) (fun hHeld=>?_);refine with_tabW impl_BookRight.tab6 impl_BookRight.bits6 (fun HT_ HW_=>?_)
         generalize w27.drew=w28 at BK48 BK47 HB hx50_0 hx50_1 hHeld ⊢
         refine pz1 0 ?_;refine ta 1 ?_;refine oA 2 19 HT_ (fun K hK=>?_);refine gA Tryz.func53 #[.string ((rd_T152 l0_0 x12_1).f0)] ?_;(with_reducible refine (impl_isName.calls k1 ((rd_T152 l0_0 x12_1).f0) true _ A10.out).mono ?_);rintro e w' ⟨rfl,⟨nd,rfl⟩⟩;refine ⟨_,rfl,?_⟩;refine hK.out _ _ (hb2a BK47 (hb2a BK48 (hca (cb HB hw50_0) (hc (cb HB hw50_1))))).out (fun hHeld=>?_);clear hK K;refine nA 19 ?_;refine pz3 3 ?_;refine ta 6 ?_;refine oA 7 24 HT_ (fun K hK=>?_);refine gA Tryz.func105 #[.int .i64 ((rd_T152 l0_0 x12_1).f1),.int .i64 0,.int .i64 1000000000] ?_;(with_reducible refine (impl_within.calls ((rd_T152 l0_0 x12_1).f1) 0 1000000000 true _ A12.out).mono ?_);rintro e w' ⟨rfl,⟨nd,rfl⟩⟩;refine ⟨_,rfl,?_⟩;refine hK.out _ _ (hb2a BK47 (hb2a BK48 (hca (cb HB hw50_0) (hc (cb HB hw50_1))))).out (fun hHeld=>?_);clear hK K;refine nA 24 ?_;refine pz4 8 ?_;refine pz3 12 ?_;refine pz1 16 ?_;refine pz2 18 ?_;refine ta 15 ?_;refine ta 17 ?_;refine pz2 20 ?_;refine ta 22 ?_;refine pz3 23 ?_;refine done_ (done_of HT_.out (by kernel_rfl)) ?_
         try go_wp2
         go_ret
         exact ⟨by first|rfl|(simp [errW_none,errW_some] <;> rfl)|(simp only [← hji15];first|rfl|(simp [errW_none,errW_some] <;> rfl))|(simp [*,errW_none,errW_some] <;> rfl),bs HB⟩
       ·intro c14 H;have c14b0:decide (0<x12_1)=false:=decide_eq_false c14;clear c14;have H':=am H;clear H;have p49:0≤(x12_1:Int):=oa;have q49:x12_1<(l0_0.length:Int):=oa;obtain ⟨ad49,e49,hx49_0,hx49_1⟩:=at_T152 HR0_0.out x12_1 p49 q49
        cases e49
        replace hx49_0:=cb HB hx49_0;replace hx49_1:=cb HB hx49_1;replace p49:=eq_true p49;replace q49:=eq_true q49
        try go_wp2_with (first|((with_reducible refine gate_dst (N:=4) rfl ?_);refine bz 4 (cs:=#[.string (⟨#[]⟩:ByteArray),.int .i64 0]) (t:=152) HB ?_;clear HB;intro gb47 hg w29 BK47 GW47 hb HB;have NB48_47:=na hg BK48;have NB47_48:=nc hg BK48;replace BK48:=bb BK48 hb;clear hb hg;have hnb30:=NB47_48.out;have hnc30:=NB48_47.out;have hcz31:=cf2 BK47))
        have n0_:=kz ((w29.setCell ⟨gb47,0,none⟩ (.string ((rd_T152 l0_0 x12_1).f0))).setCell ⟨gb47,1,none⟩ (.int .i64 ((rd_T152 l0_0 x12_1).f1))) BK48;have n1_:Aside0 (((w29.setCell ⟨gb47,0,none⟩ (.string ((rd_T152 l0_0 x12_1).f0))).setCell ⟨gb47,1,none⟩ (.int .i64 ((rd_T152 l0_0 x12_1).f1))).heap[gb47]? = some (.cells #[.string ((rd_T152 l0_0 x12_1).f0),.int .i64 ((rd_T152 l0_0 x12_1).f1)] 152 (0,0))):=⟨kp BK47⟩;have n2_:Aside0 (Below w.heap.size w ((w29.setCell ⟨gb47,0,none⟩ (.string ((rd_T152 l0_0 x12_1).f0))).setCell ⟨gb47,1,none⟩ (.int .i64 ((rd_T152 l0_0 x12_1).f1)))):=⟨bs HB⟩;(try clear BK48);(try clear BK47);(try clear HB)
        generalize ((w29.setCell ⟨gb47,0,none⟩ (.string ((rd_T152 l0_0 x12_1).f0))).setCell ⟨gb47,1,none⟩ (.int .i64 ((rd_T152 l0_0 x12_1).f1)))=w32 at n0_ n1_ n2_ ⊢
        have BK48:=n0_;have BK47:=n1_;have HB:=n2_;clear n0_ n1_ n2_;replace BK48:=am (blk_drew BK48.out);replace BK47:=am (blk_drew BK47.out);replace HB:=am (below_drew1 HB.out);refine sta 26 (hb2 BK47) (fun hHeld=>?_);refine with_tabW impl_BookRight.tab6 impl_BookRight.bits6 (fun HT_ HW_=>?_)
        generalize w32.drew=w33 at BK48 BK47 HB hHeld ⊢
        refine pz1 0 ?_;refine ta 1 ?_;refine oA 2 19 HT_ (fun K hK=>?_);refine gA Tryz.func53 #[.string ((rd_T152 l0_0 x12_1).f0)] ?_;(with_reducible refine (impl_isName.calls k1 ((rd_T152 l0_0 x12_1).f0) true _ A10.out).mono ?_);rintro e w' ⟨rfl,⟨nd,rfl⟩⟩;refine ⟨_,rfl,?_⟩;refine hK.out _ _ (hb2 BK47).out (fun hHeld=>?_);clear hK K;refine nA 19 ?_;refine pz3 3 ?_;refine ta 6 ?_;refine oA 7 24 HT_ (fun K hK=>?_);refine gA Tryz.func105 #[.int .i64 ((rd_T152 l0_0 x12_1).f1),.int .i64 0,.int .i64 1000000000] ?_;(with_reducible refine (impl_within.calls ((rd_T152 l0_0 x12_1).f1) 0 1000000000 true _ A12.out).mono ?_);rintro e w' ⟨rfl,⟨nd,rfl⟩⟩;refine ⟨_,rfl,?_⟩;refine hK.out _ _ (hb2 BK47).out (fun hHeld=>?_);clear hK K;refine nA 24 ?_;refine pz8 8 ?_;refine pz8 16 ?_;refine pz2 24 ?_;refine done_ (done_of HT_.out (by kernel_rfl)) ?_
        try go_wp2
        go_roundg k1
        case measure=>have:=HK1.out;omega
        case rel=>exact ⟨(wrap64 (x12_1+1)),fg,H',⟨by have:=HK1.out;omega⟩,⟨ks BK48⟩,⟨bs HB⟩⟩
      ·replace H:=itF H;obtain rfl:=si H;have p49:0≤(x12_1:Int):=oa;have q49:x12_1<(l0_0.length:Int):=oa;obtain ⟨ad49,e49,hx49_0,hx49_1⟩:=at_T152 HR0_0.out x12_1 p49 q49
       cases e49
       replace hx49_0:=cb HB hx49_0;replace hx49_1:=cb HB hx49_1;replace p49:=eq_true p49;replace q49:=eq_true q49
       try go_wp2_with (first|((with_reducible refine gate_dst (N:=4) rfl ?_);refine bz 4 (cs:=#[.string (⟨#[]⟩:ByteArray),.int .i64 0]) (t:=152) HB ?_;clear HB;intro gb47 hg w34 BK47 GW47 hb HB;have NB48_47:=na hg BK48;have NB47_48:=nc hg BK48;replace BK48:=bb BK48 hb;clear hb hg;have hnb35:=NB47_48.out;have hnc35:=NB48_47.out;have hcz36:=cf2 BK47))
       have n0_:=kz ((w34.setCell ⟨gb47,0,none⟩ (.string ((rd_T152 l0_0 x12_1).f0))).setCell ⟨gb47,1,none⟩ (.int .i64 ((rd_T152 l0_0 x12_1).f1))) BK48;have n1_:Aside0 (((w34.setCell ⟨gb47,0,none⟩ (.string ((rd_T152 l0_0 x12_1).f0))).setCell ⟨gb47,1,none⟩ (.int .i64 ((rd_T152 l0_0 x12_1).f1))).heap[gb47]? = some (.cells #[.string ((rd_T152 l0_0 x12_1).f0),.int .i64 ((rd_T152 l0_0 x12_1).f1)] 152 (0,0))):=⟨kp BK47⟩;have n2_:Aside0 (Below w.heap.size w ((w34.setCell ⟨gb47,0,none⟩ (.string ((rd_T152 l0_0 x12_1).f0))).setCell ⟨gb47,1,none⟩ (.int .i64 ((rd_T152 l0_0 x12_1).f1)))):=⟨bs HB⟩;(try clear BK48);(try clear BK47);(try clear HB)
       generalize ((w34.setCell ⟨gb47,0,none⟩ (.string ((rd_T152 l0_0 x12_1).f0))).setCell ⟨gb47,1,none⟩ (.int .i64 ((rd_T152 l0_0 x12_1).f1)))=w37 at n0_ n1_ n2_ ⊢
       have BK48:=n0_;have BK47:=n1_;have HB:=n2_;clear n0_ n1_ n2_;replace BK48:=am (blk_drew BK48.out);replace BK47:=am (blk_drew BK47.out);replace HB:=am (below_drew1 HB.out);refine sta 26 (hb2 BK47) (fun hHeld=>?_);refine with_tabW impl_BookRight.tab6 impl_BookRight.bits6 (fun HT_ HW_=>?_)
       generalize w37.drew=w38 at BK48 BK47 HB hHeld ⊢
       refine pz1 0 ?_;refine ta 1 ?_;refine oA 2 19 HT_ (fun K hK=>?_);refine gA Tryz.func53 #[.string ((rd_T152 l0_0 x12_1).f0)] ?_;(with_reducible refine (impl_isName.calls k1 ((rd_T152 l0_0 x12_1).f0) true _ A10.out).mono ?_);rintro e w' ⟨rfl,⟨nd,rfl⟩⟩;refine ⟨_,rfl,?_⟩;refine hK.out _ _ (hb2 BK47).out (fun hHeld=>?_);clear hK K;refine nA 19 ?_;refine pz3 3 ?_;refine ta 6 ?_;refine oA 7 24 HT_ (fun K hK=>?_);refine gA Tryz.func105 #[.int .i64 ((rd_T152 l0_0 x12_1).f1),.int .i64 0,.int .i64 1000000000] ?_;(with_reducible refine (impl_within.calls ((rd_T152 l0_0 x12_1).f1) 0 1000000000 false _ A12.out).mono ?_);rintro e w' ⟨rfl,⟨nd,rfl⟩⟩;refine ⟨_,rfl,?_⟩;refine hK.out _ _ (hb2 BK47).out (fun hHeld=>?_);clear hK K;refine nA 24 ?_;refine pz8 8 ?_;refine pz8 16 ?_;refine pz2 24 ?_;refine done_ (done_of HT_.out (by kernel_rfl)) ?_
       try go_wp2
       go_ret
       exact ⟨ff,bs HB⟩
     ·replace H:=itF H;obtain rfl:=si H;have p49:0≤(x12_1:Int):=oa;have q49:x12_1<(l0_0.length:Int):=oa;obtain ⟨ad49,e49,hx49_0,hx49_1⟩:=at_T152 HR0_0.out x12_1 p49 q49
      cases e49
      replace hx49_0:=cb HB hx49_0;replace hx49_1:=cb HB hx49_1;replace p49:=eq_true p49;replace q49:=eq_true q49
      try go_wp2_with (first|((with_reducible refine gate_dst (N:=4) rfl ?_);refine bz 4 (cs:=#[.string (⟨#[]⟩:ByteArray),.int .i64 0]) (t:=152) HB ?_;clear HB;intro gb47 hg w39 BK47 GW47 hb HB;have NB48_47:=na hg BK48;have NB47_48:=nc hg BK48;replace BK48:=bb BK48 hb;clear hb hg;have hnb40:=NB47_48.out;have hnc40:=NB48_47.out;have hcz41:=cf2 BK47))
      have n0_:=kz ((w39.setCell ⟨gb47,0,none⟩ (.string ((rd_T152 l0_0 x12_1).f0))).setCell ⟨gb47,1,none⟩ (.int .i64 ((rd_T152 l0_0 x12_1).f1))) BK48;have n1_:Aside0 (((w39.setCell ⟨gb47,0,none⟩ (.string ((rd_T152 l0_0 x12_1).f0))).setCell ⟨gb47,1,none⟩ (.int .i64 ((rd_T152 l0_0 x12_1).f1))).heap[gb47]? = some (.cells #[.string ((rd_T152 l0_0 x12_1).f0),.int .i64 ((rd_T152 l0_0 x12_1).f1)] 152 (0,0))):=⟨kp BK47⟩;have n2_:Aside0 (Below w.heap.size w ((w39.setCell ⟨gb47,0,none⟩ (.string ((rd_T152 l0_0 x12_1).f0))).setCell ⟨gb47,1,none⟩ (.int .i64 ((rd_T152 l0_0 x12_1).f1)))):=⟨bs HB⟩;(try clear BK48);(try clear BK47);(try clear HB)
      generalize ((w39.setCell ⟨gb47,0,none⟩ (.string ((rd_T152 l0_0 x12_1).f0))).setCell ⟨gb47,1,none⟩ (.int .i64 ((rd_T152 l0_0 x12_1).f1)))=w42 at n0_ n1_ n2_ ⊢
      have BK48:=n0_;have BK47:=n1_;have HB:=n2_;clear n0_ n1_ n2_;replace BK48:=am (blk_drew BK48.out);replace BK47:=am (blk_drew BK47.out);replace HB:=am (below_drew1 HB.out);refine sta 26 (hb2 BK47) (fun hHeld=>?_);refine with_tabW impl_BookRight.tab6 impl_BookRight.bits6 (fun HT_ HW_=>?_)
      generalize w42.drew=w43 at BK48 BK47 HB hHeld ⊢
      refine pz1 0 ?_;refine ta 1 ?_;refine oA 2 19 HT_ (fun K hK=>?_);refine gA Tryz.func53 #[.string ((rd_T152 l0_0 x12_1).f0)] ?_;(with_reducible refine (impl_isName.calls k1 ((rd_T152 l0_0 x12_1).f0) false _ A10.out).mono ?_);rintro e w' ⟨rfl,⟨nd,rfl⟩⟩;refine ⟨_,rfl,?_⟩;refine hK.out _ _ (hb2 BK47).out (fun hHeld=>?_);clear hK K;refine nA 19 ?_;refine pz8 3 ?_;refine pz8 11 ?_;refine pz4 19 ?_;refine pz3 23 ?_;refine done_ (done_of HT_.out (by kernel_rfl)) ?_
      try go_wp2
      go_ret
      exact ⟨ff,bs HB⟩
    ·intro c7b0 H;replace H:=bo H;obtain ⟨t51,A44,H⟩:=H;obtain rfl:=si H;have hcz45:=cf2 BK48
     go_wp2_with (first|((first|((with_reducible refine gate_callee (f:=131) rfl ?_);refine goesL_ (some 46) rfl rfl Tryz.func131 (by kernel_rfl) rfl #[.slice A0_1 l0_1.length c0_1] rfl (by (try simp only [List.map_toArray,List.map_cons,List.map_nil]);first|done|rfl|(simp only [List.length_drop,List.length_take];rfl)) ?_;(with_reducible refine (impl_LinesRight.calls k1 _ _ l0_1 t51 _ (Kd.C_below HR0_1.out (bs HB)) HC0_1.out A44.out).mono ?_);rintro e w46 ⟨rfl,hb⟩;refine ⟨_,rfl,?_⟩)|(go_at_call 131;(with_reducible refine (impl_LinesRight.calls k1 _ _ l0_1 t51 _ (Kd.C_below HR0_1.out (bs HB)) HC0_1.out A44.out).mono ?_);rintro e w46 ⟨rfl,hb⟩));replace BK48:=bb BK48 hb;replace HB:=bq HB hb;(try clear hb);(try clear hb2);(try clear hk);(try clear hi)))
     go_ret
     exact ⟨ff,bs HB⟩
theorem impl_isOut.calls (k:Nat) (a0_0:ByteArray) (a0_1:Int) (a0_2:ByteArray) (a0_3:Int) (a0_4:Int) (r:Bool) (w:World) (H:impl_isOut.f k a0_0 a0_1 a0_2 a0_3 a0_4=some r) :
  Calls Tryz.prog 132 #[.agg #[.string a0_0,.int .i64 a0_1,.string a0_2,.int .i64 a0_3,.int .i64 a0_4]] w fun e w'=>e=.returned (.bool r)∧Below w.heap.size w w':=by
 have hu120:=Tryz.underlying120;have HB:=am (Below.refl w.heap.size w);unfold impl_isOut.f at H;replace H:=bo H;obtain ⟨t26,A2,H⟩:=H
 go_in
 try go_wp2_with (first|((with_reducible refine gate_dst (N:=1) rfl ?_);(try (refine gate_guard (by rfl) ?_;dsimp only));refine bz 1 (cs:=#[.string a0_0,.int .i64 a0_1,.string a0_2,.int .i64 a0_3,.int .i64 a0_4]) (t:=120) HB ?_;clear HB;intro gb8 hg w3 BK8 GW8 hb HB;clear hb hg;have hcz4:=cf5 BK8))
 go_at_call 53;(with_reducible refine (impl_isName.calls k a0_0 t26 _ A2.out).mono ?_);rintro e w' ⟨rfl,⟨nd,rfl⟩⟩
 obtain rfl|rfl:=bt t26
 ·replace H:=itT H;replace H:=bo H;obtain ⟨t27,A6,H⟩:=H;have hcz7:=cf5 BK8
  try go_wp2_with (fail)
  go_at_call 126;(with_reducible refine (impl_isControl.calls a0_1 t27 _ A6.out).mono ?_);rintro e w' ⟨rfl,⟨nd,rfl⟩⟩
  obtain rfl|rfl:=bt t27
  ·replace H:=itT H
   revert H;refine in2 ?_ ?_
   ·intro c9b0 c9b1 c9b2 H;obtain rfl:=si H;have hcz10:=cf5 BK8
    go_wp2
    go_ret
    exact ⟨ff,bs HB⟩
   ·intro c9 c9b0 c9b1 c9b2 H;obtain ⟨y16,hy16⟩:∃ y_:List ByteArray,y_=(([a0_2]:List ByteArray)):=⟨_,rfl⟩
    replace H:((impl_longText.f k y16).bind fun t22=>(if t22=true then (some false) else ((impl_within.f a0_3 0 5).bind fun t23=>(if t23=true then ((impl_isDay.f a0_4).bind fun t24=>(some t24)) else (some false)))))=some r:=ye hy16 H
    have Ny16:=am hy16;clear hy16;replace H:=bo H;obtain ⟨t22,A11,H⟩:=H;have hcz12:=cf5 BK8
    try go_wp2_with (first|((with_reducible refine gate_dst (N:=19) rfl ?_);(try (refine gate_guard (by rfl) ?_;dsimp only));refine rl Kd.string 9 (N:=19) (xs:=([a0_2]:List ByteArray)) (inner:=[.string a0_2]) ?hp ?_;(case hp=>exact (Reps.one (show Kd.M Kd.string _ _ _ a0_2 [.string a0_2] from rfl) (Reps.none _ _)));intro v28 w13 ho14 hb hg_ hnew_;clear hg_ hnew_;(first|rw [← Ny16.out] at ho14|(simp only [Int.reduceToNat] at ho14;rw [← Ny16.out] at ho14));have HO25:=am (Kd.R_lower ho14 (below_size (bs HB)));replace BK8:=bb BK8 hb;replace HB:=bq HB hb;clear hb ho14;obtain ⟨Ao15,co15,eo15⟩:=Kd.R_slice HO25.out;subst eo15))
    go_at_call 52;(with_reducible refine (impl_longText.calls k _ _ y16 t22 _ ?side1 ?side2 A11.out).mono ?_);(case side1=>exact sd (Kd.R_reads' HO25.out).2.2);(case side2=>exact (Kd.R_reads' HO25.out).2.1);rintro e w' ⟨rfl,⟨nd,rfl⟩⟩
    obtain rfl|rfl:=bt t22
    ·replace H:=itT H;obtain rfl:=si H
     go_wp2
     go_ret
     exact ⟨ff,bs HB⟩
    ·replace H:=itF H;replace H:=bo H;obtain ⟨t23,A17,H⟩:=H;have hcz18:=cf5 BK8
     try go_wp2_with (fail)
     go_at_call 105;(with_reducible refine (impl_within.calls a0_3 0 5 t23 _ A17.out).mono ?_);rintro e w' ⟨rfl,⟨nd,rfl⟩⟩
     obtain rfl|rfl:=bt t23
     ·replace H:=itT H;replace H:=bo H;obtain ⟨t24,A20,H⟩:=H;obtain rfl:=si H;have hcz21:=cf5 BK8
      go_wp2_with (first|(go_at_call 82;(with_reducible refine (impl_isDay.calls a0_4 t24 _ A20.out).mono ?_);rintro e w' ⟨rfl,⟨nd,rfl⟩⟩))
      go_ret
      exact ⟨ff,bs HB⟩
     ·replace H:=itF H;obtain rfl:=si H
      go_wp2
      go_ret
      exact ⟨ff,bs HB⟩
  ·replace H:=itF H;obtain rfl:=si H
   go_wp2
   go_ret
   exact ⟨ff,bs HB⟩
 ·replace H:=itF H;obtain rfl:=si H
  go_wp2
  go_ret
  exact ⟨ff,bs HB⟩
def impl_outOrder.T1:Bool × List (List Nat × List Nat):=(true,[([],[]),([0],[0]),([],[]),([2],[2]),([1,3],[1,3]),([],[]),([5],[5]),([],[]),([7],[7]),([6,8,4],[6,8]),([4,9],[4,9]),([10,9],[10]),([11,11,0,1,2,3,4,5,6,7,8,9,10,11],[11])])
def impl_outOrder.B1:List Nat:=[0,1,0,4,15,0,32,0,128,511,1023,2047,4095]
theorem impl_outOrder.tab1:rtab .any (opsOf Tryz.f133 1)=impl_outOrder.T1:=by kernel_rfl
theorem impl_outOrder.bits1:waitsOk impl_outOrder.T1.2 impl_outOrder.B1=true:=by kernel_rfl
theorem impl_outOrder.calls (k:Nat) (a0_0:ByteArray) (a0_1:Int) (a0_2:ByteArray) (a0_3:Int) (a0_4:Int) (a1_0:ByteArray) (a1_1:Int) (a1_2:ByteArray) (a1_3:Int) (a1_4:Int) (r:Int) (w:World) (H:impl_outOrder.f k a0_0 a0_1 a0_2 a0_3 a0_4 a1_0 a1_1 a1_2 a1_3 a1_4=some r) :
  Calls Tryz.prog 133 #[.agg #[.string a0_0,.int .i64 a0_1,.string a0_2,.int .i64 a0_3,.int .i64 a0_4],.agg #[.string a1_0,.int .i64 a1_1,.string a1_2,.int .i64 a1_3,.int .i64 a1_4]] w fun e w'=>e=.returned (.int .i64 r)∧Below w.heap.size w w':=by
 have hu120:=Tryz.underlying120;have HB:=am (Below.refl w.heap.size w);unfold impl_outOrder.f at H;replace H:=bo H;obtain ⟨t20,A3,H⟩:=H;replace H:=bo H;obtain ⟨t21,A4,H⟩:=H;obtain ⟨y19,hy19⟩:∃ y_:List Int,y_=(([t20,t21]:List Int)):=⟨_,rfl⟩
 replace H:((cmp_Or_int.f k y19).bind fun t22=>(some t22))=some r:=ye hy19 H
 have Ny19:=am hy19;clear hy19;replace H:=bo H;obtain ⟨t22,A5,H⟩:=H;obtain rfl:=si H
 go_in
 try go_wp2_with (first|((with_reducible refine gate_dst (N:=2) rfl ?_);refine bz 2 (cs:=#[.string a0_0,.int .i64 a0_1,.string a0_2,.int .i64 a0_3,.int .i64 a0_4]) (t:=120) HB ?_;clear HB;intro gb17 hg w6 BK17 GW17 hb HB;clear hb hg)|((with_reducible refine gate_dst (N:=3) rfl ?_);refine bz 3 (cs:=#[.string a1_0,.int .i64 a1_1,.string a1_2,.int .i64 a1_3,.int .i64 a1_4]) (t:=120) HB ?_;clear HB;intro gb18 hg w7 BK18 GW18 hb HB;have NB17_18:=na hg BK17;have NB18_17:=nc hg BK17;replace BK17:=bb BK17 hb;clear hb hg))
 replace BK17:=am (blk_drew BK17.out);replace BK18:=am (blk_drew BK18.out);replace HB:=am (below_drew1 HB.out);refine sta 13 (hb5a BK17 (hb5 BK18)) (fun hHeld=>?_);refine with_tabW impl_outOrder.tab1 impl_outOrder.bits1 (fun HT_ HW_=>?_)
 generalize w7.drew=w8 at BK17 BK18 HB hHeld ⊢
 refine pz1 0 ?_;refine pz1 2 ?_;refine pz1 5 ?_;refine pz1 7 ?_;refine ta 1 ?_;refine ta 3 ?_;refine ta 6 ?_;refine ta 8 ?_;refine oA 4 9 HT_ (fun K hK=>?_);refine gA Tryz.func145 #[.string a0_0,.string a1_0] ?_;(with_reducible refine (cmp_Compare_string.calls a0_0 a1_0 t20 _ A3.out).mono ?_);rintro e w' ⟨rfl,⟨nd,rfl⟩⟩;refine ⟨_,rfl,?_⟩;refine hK.out _ _ (hb5a BK17 (hb5 BK18)).out (fun hHeld=>?_);clear hK K;refine nA 9 ?_;refine oA 9 14 HT_ (fun K hK=>?_);refine gA Tryz.func149 #[.int .i64 a0_1,.int .i64 a1_1] ?_;(with_reducible refine (cmp_Compare_int64.calls a0_1 a1_1 t21 _ A4.out).mono ?_);rintro e w' ⟨rfl,⟨nd,rfl⟩⟩;refine ⟨_,rfl,?_⟩;refine hK.out _ _ (hb5a BK17 (hb5 BK18)).out (fun hHeld=>?_);clear hK K;refine nA 14 ?_;refine oA 10 15 HT_ (fun K hK=>?_);refine Kd.R_lit_step (Kd.int .i64) _ 3 ?hg (N:=15) ?hd (xs:=([t20,t21]:List Int)) (inner:=[.int .i64 t20,.int .i64 t21]) (ok:=fun _=>True) (okp:=fun _=>True) ?hr ?hp (fun _ hk=>hk) trivial (Below.refl _ _) (Nat.le_refl _) (by simp) ?_;(case hd=>rfl);(case hg=>rfl);(case hr=>first|(go_simp;done)|(go_simp;rfl));(case hp=>exact (Reps.one (show Kd.M (Kd.int .i64) _ _ _ t20 [.int .i64 t20] from rfl) (Reps.one (show Kd.M (Kd.int .i64) _ _ _ t21 [.int .i64 t21] from rfl) (Reps.none _ _))));intro v24 w9 ho10 hb hg_ hnew_;clear hg_ hnew_
 (first|rw [← Ny19.out] at ho10|(simp only [Int.reduceToNat] at ho10;rw [← Ny19.out] at ho10))
 have HO23:=am (Kd.R_lower ho10 (below_size (bs HB)));replace BK17:=bb BK17 hb;replace BK18:=bb BK18 hb;replace HB:=bq HB hb;clear hb ho10;obtain ⟨Ao11,co11,eo11⟩:=Kd.R_slice HO23.out
 (first|subst eo11|(injection eo11 with f1_ f2_ f3_;have f4_:=f1_.symm;have f5_:=f3_.symm;clear f1_ f2_ f3_;subst f4_;subst f5_))
 refine hK.out _ _ (hb5a BK17 (hb5 BK18)).out (fun hHeld=>?_);clear hK K;refine nA 15 ?_;refine oA 11 16 HT_ (fun K hK=>?_);refine gA Tryz.func144 #[.slice Ao11 y19.length co11] ?_;(with_reducible refine (cmp_Or_int.calls k _ _ y19 t22 _ ?side1 ?side2 A5.out).mono ?_)
 (case side1=>exact sd (Kd.R_reads' HO23.out).2.2)
 (case side2=>exact (Kd.R_reads' HO23.out).2.1)
 rintro e w' ⟨rfl,⟨nd,rfl⟩⟩;refine ⟨_,rfl,?_⟩;refine hK.out _ _ (hb5a BK17 (hb5 BK18)).out (fun hHeld=>?_);clear hK K;refine nA 16 ?_;refine pz1 12 ?_;refine done_ (done_of HT_.out (by kernel_rfl)) ?_
 try go_wp2
 go_ret
 exact ⟨ff,bs HB⟩
end Go.Proofs.YtomoflpgdbjojaaGreat.QO
