-- Merged by a program of this session (wip/tool/pack.py) out of its own texts for this claim.
import Derived.Test.YtomoflpgdbjojaaGreatKFnExactGatePartner9
set_option maxHeartbeats 8000000
set_option maxRecDepth 100000
set_option linter.unusedSimpArgs false
set_option linter.unusedVariables false
namespace Go.Proofs.YtomoflpgdbjojaaGreat.QO
open Go.RowKit Go.Proofs.YtomoflpgdbjojaaGreatW.PrintWords Go.Proofs.YtomoflpgdbjojaaGreatW.PrintLast Go.Proofs.YtomoflpgdbjojaaGreatW.PrintMore
attribute [local go_sem] max2_int min2_int max_two min_two max_three min_three max_four min_four   -- for this text's walks alone
def spec_OutboxRight.T6:Bool × List (List Nat × List Nat):=(true,[([],[]),([],[]),([0,1],[0,1]),([2],[2]),([3],[3]),([4],[4]),([5,4],[5]),([6],[6]),([7,6],[6,7]),([8,6,6],[6,8]),([9],[9]),([9],[9]),([11,9],[9,11]),([10,12,9],[9,10,12]),([13,9],[9,13]),([9],[9]),([9],[9]),([15,16,9],[9,15,16]),([17,9],[9,17]),([14,18,9,9],[9,14,18]),([19,9],[9,19]),([9,20,6],[6,9,20]),([6,21],[6,21])])
def spec_OutboxRight.B6:List Nat:=[0,0,3,7,15,31,63,127,255,511,1023,1023,3071,8191,16383,1023,1023,99327,230399,524287,1048575,2097151,4194303]
theorem spec_OutboxRight.tab6:rtab .any (opsOf Tryz.f67 6)=spec_OutboxRight.T6:=by kernel_rfl
theorem spec_OutboxRight.bits6:waitsOk spec_OutboxRight.T6.2 spec_OutboxRight.B6=true:=by kernel_rfl
theorem spec_OutboxRight.calls (k:Nat) (A0:Option Addr) (c0:Nat) (l0:List (S120)) (r:Bool) (w:World) (hr0:Kd.C k120 w A0 l0.length l0) (hc0:l0.length≤c0) (H:spec_OutboxRight.f k l0=some r) :
  Calls Tryz.prog 67 #[.slice A0 l0.length c0] w fun e w'=>e=.returned (.bool r)∧Below w.heap.size w w':=by
 have hu120:=Tryz.underlying120;have HR0:=am hr0;have HC0:=am hc0;clear hr0 hc0;have HB:=am (Below.refl w.heap.size w);unfold spec_OutboxRight.f at H
 revert H;refine ip2 ?_ ?_
 ·intro c2 H;have c2b0:decide (60<(l0.length:Int))=true:=decide_eq_true c2;have c2b1:decide (60<l0.length)=true:=decide_eq_true (by omega);clear c2;obtain rfl:=si H
  go_in
  go_wp2
  go_ret
  exact ⟨ff,bs HB⟩
 ·intro c2 H;have c2b0:decide (60<(l0.length:Int))=false:=decide_eq_false c2;have c2b1:decide (60<l0.length)=false:=decide_eq_false (by omega);clear c2;have H':=am H;clear H
  go_in
  go_wp2
  go_loopg [3] k (fun kq v3 w'=>∃ (x3_1:Int),v3=.int .i64 x3_1∧Aside0 (spec_OutboxRight.l0 kq l0 x3_1=some r)∧Aside0 (kq≤k)∧Aside0 (Below w.heap.size w w'))
  case atStart=>exact ⟨(0),fg,H',⟨Nat.le_refl _⟩,⟨bs HB⟩⟩
  case round =>
   clear H'
   try clear c2
   try clear c2b0
   try clear c2b1
   obtain ⟨x3_1,rfl,HA,HK1,HB⟩:=hrel
   cases gk with
   | zero=>exact absurd HA.out (by simp [spec_OutboxRight.l0])
   | succ k1 =>
    have H:=HA.out;clear HA;simp only [spec_OutboxRight.l0] at H
    revert H;refine id2 ?_ ?_
    ·intro c3b0 H
     revert H;refine id1 ?_
     intro c4b0 H;replace H:=bo H;obtain ⟨t40,A5,H⟩:=H
     obtain rfl|rfl:=bt t40
     ·replace H:=itT H
      revert H;refine ip2 ?_ ?_
      ·intro c7 H;have c7b0:decide (0<x3_1)=true:=decide_eq_true c7;clear c7;obtain ⟨ji8,hji8⟩:∃ j_:Int,(wrap64 (x3_1 - 1))=j_:=⟨_,rfl⟩
       replace H:(if 0≤(ji8) then (if (ji8)<(l0.length:Int) then ((spec_l12Before.f ((rd_T120 l0 (ji8)).f0) ((rd_T120 l0 (ji8)).f1) ((rd_T120 l0 (ji8)).f2) ((rd_T120 l0 (ji8)).f3) ((rd_T120 l0 (ji8)).f4) ((rd_T120 l0 x3_1).f0) ((rd_T120 l0 x3_1).f1) ((rd_T120 l0 x3_1).f2) ((rd_T120 l0 x3_1).f3) ((rd_T120 l0 x3_1).f4)).bind fun t39=>(if t39=true then (spec_OutboxRight.l0 k1 l0 (wrap64 (x3_1+1))) else (some false))) else (none)) else (none))=some r:=by first|(rw [hji8] at H;exact H)|(simp only [hji8] at H ⊢;exact H)
       (try rw [hji8] at A5)
       have hji8w:(IntKind.i64.wrap (x3_1 - 1))=ji8:=(i64_w _).trans hji8
       revert H;refine id1 ?_
       intro c9b0 H
       revert H;refine id1 ?_
       intro c10b0 H;replace H:=bo H;obtain ⟨t39,A11,H⟩:=H
       obtain rfl|rfl:=bt t39
       ·replace H:=itT H;have H':=am H;clear H
        try go_wp2
        replace HB:=am (below_drew1 HB.out);have p36:0≤(x3_1:Int):=oa;have q36:x3_1<(l0.length:Int):=oa;obtain ⟨ad36,e36,hx36_0,hx36_1,hx36_2,hx36_3,hx36_4⟩:=at_T120 HR0.out x3_1 p36 q36;have hw36_4:=hx36_4;have hw36_3:=hx36_3;have hw36_2:=hx36_2;have hw36_1:=hx36_1;have hw36_0:=hx36_0
        cases e36
        replace hx36_0:=cb HB hx36_0;replace hx36_1:=cb HB hx36_1;replace hx36_2:=cb HB hx36_2;replace hx36_3:=cb HB hx36_3;replace hx36_4:=cb HB hx36_4;replace p36:=eq_true p36;replace q36:=eq_true q36;have p37:0≤((ji8):Int):=oa;have q37:(ji8)<(l0.length:Int):=oa;obtain ⟨ad37,e37,hx37_0,hx37_1,hx37_2,hx37_3,hx37_4⟩:=at_T120 HR0.out (ji8) p37 q37;have hw37_4:=hx37_4;have hw37_3:=hx37_3;have hw37_2:=hx37_2;have hw37_1:=hx37_1;have hw37_0:=hx37_0;obtain rfl:ad36=ad37:=(by injection e37);replace hx37_0:=cb HB hx37_0;replace hx37_1:=cb HB hx37_1;replace hx37_2:=cb HB hx37_2;replace hx37_3:=cb HB hx37_3;replace hx37_4:=cb HB hx37_4;replace p37:=eq_true p37;replace q37:=eq_true q37;have p38:0≤(x3_1:Int):=oa;have q38:x3_1<(l0.length:Int):=oa;obtain ⟨ad38,e38,hx38_0,hx38_1,hx38_2,hx38_3,hx38_4⟩:=at_T120 HR0.out x3_1 p38 q38;have hw38_4:=hx38_4;have hw38_3:=hx38_3;have hw38_2:=hx38_2;have hw38_1:=hx38_1;have hw38_0:=hx38_0;obtain rfl:ad36=ad38:=(by injection e38);replace hx38_0:=cb HB hx38_0;replace hx38_1:=cb HB hx38_1;replace hx38_2:=cb HB hx38_2;replace hx38_3:=cb HB hx38_3;replace hx38_4:=cb HB hx38_4;replace p38:=eq_true p38;replace q38:=eq_true q38;refine sta 23 (hca (cb HB hw36_0) (hca (cb HB hw36_1) (hca (cb HB hw36_2) (hca (cb HB hw36_3) (hca (cb HB hw36_4) (hca (cb HB hw37_0) (hca (cb HB hw37_1) (hca (cb HB hw37_2) (hca (cb HB hw37_3) (hca (cb HB hw37_4) (hca (cb HB hw38_0) (hca (cb HB hw38_1) (hca (cb HB hw38_2) (hca (cb HB hw38_3) (hc (cb HB hw38_4)))))))))))))))) (fun hHeld=>?_);refine with_tabW spec_OutboxRight.tab6 spec_OutboxRight.bits6 (fun HT_ HW_=>?_)
        generalize wr.drew=w13 at HB hx36_0 hx36_1 hx36_2 hx36_3 hx36_4 hx37_0 hx37_1 hx37_2 hx37_3 hx37_4 hx38_0 hx38_1 hx38_2 hx38_3 hx38_4 hHeld ⊢
        refine pz3 0 ?_;refine ta 3 ?_;refine oA 4 17 HT_ (fun K hK=>?_);refine gA Tryz.func116 #[.agg #[.string ((rd_T120 l0 x3_1).f0),.int .i64 ((rd_T120 l0 x3_1).f1),.string ((rd_T120 l0 x3_1).f2),.int .i64 ((rd_T120 l0 x3_1).f3),.int .i64 ((rd_T120 l0 x3_1).f4)]] ?_;(with_reducible refine (spec_l12Out.calls k1 ((rd_T120 l0 x3_1).f0) ((rd_T120 l0 x3_1).f1) ((rd_T120 l0 x3_1).f2) ((rd_T120 l0 x3_1).f3) ((rd_T120 l0 x3_1).f4) true _ A5.out).mono ?_);rintro e w14 ⟨rfl,hb⟩;refine ⟨_,rfl,?_⟩;replace HB:=bq HB hb;(try clear hb);(try clear hb2);(try clear hk);(try clear hi);refine hK.out _ _ (hca (cb HB hw36_0) (hca (cb HB hw36_1) (hca (cb HB hw36_2) (hca (cb HB hw36_3) (hca (cb HB hw36_4) (hca (cb HB hw37_0) (hca (cb HB hw37_1) (hca (cb HB hw37_2) (hca (cb HB hw37_3) (hca (cb HB hw37_4) (hca (cb HB hw38_0) (hca (cb HB hw38_1) (hca (cb HB hw38_2) (hca (cb HB hw38_3) (hc (cb HB hw38_4)))))))))))))))).out (fun hHeld=>?_);clear hK K;refine nA 17 ?_;refine pz8 5 ?_;refine pz1 13 ?_;refine pz3 15 ?_;refine ta 14 ?_;refine ta 18 ?_;refine oA 19 32 HT_ (fun K hK=>?_);refine goes_ Tryz.func117 (by kernel_rfl) rfl #[.agg #[.string ((rd_T120 l0 (ji8)).f0),.int .i64 ((rd_T120 l0 (ji8)).f1),.string ((rd_T120 l0 (ji8)).f2),.int .i64 ((rd_T120 l0 (ji8)).f3),.int .i64 ((rd_T120 l0 (ji8)).f4)],.agg #[.string ((rd_T120 l0 x3_1).f0),.int .i64 ((rd_T120 l0 x3_1).f1),.string ((rd_T120 l0 x3_1).f2),.int .i64 ((rd_T120 l0 x3_1).f3),.int .i64 ((rd_T120 l0 x3_1).f4)]] (by rfl) rfl rfl (by (try simp only [List.map_toArray,List.map_cons,List.map_nil]);first|done|(simp only [hji8];rfl)|rfl|(simp only [List.length_drop,List.length_take];rfl)) ?_;(with_reducible refine (spec_l12Before.calls ((rd_T120 l0 (ji8)).f0) ((rd_T120 l0 (ji8)).f1) ((rd_T120 l0 (ji8)).f2) ((rd_T120 l0 (ji8)).f3) ((rd_T120 l0 (ji8)).f4) ((rd_T120 l0 x3_1).f0) ((rd_T120 l0 x3_1).f1) ((rd_T120 l0 x3_1).f2) ((rd_T120 l0 x3_1).f3) ((rd_T120 l0 x3_1).f4) true _ A11.out).mono ?_);rintro e w15 ⟨rfl,hb⟩;refine ⟨_,rfl,?_⟩;replace HB:=bq HB hb;(try clear hb);(try clear hb2);(try clear hk);(try clear hi);refine hK.out _ _ (hca (cb HB hw36_0) (hca (cb HB hw36_1) (hca (cb HB hw36_2) (hca (cb HB hw36_3) (hca (cb HB hw36_4) (hca (cb HB hw37_0) (hca (cb HB hw37_1) (hca (cb HB hw37_2) (hca (cb HB hw37_3) (hca (cb HB hw37_4) (hca (cb HB hw38_0) (hca (cb HB hw38_1) (hca (cb HB hw38_2) (hca (cb HB hw38_3) (hc (cb HB hw38_4)))))))))))))))).out (fun hHeld=>?_);clear hK K;refine nA 32 ?_;refine pz3 20 ?_;refine done_ (done_of HT_.out (by kernel_rfl)) ?_
        try go_wp2
        go_roundg k1
        case measure=>have:=HK1.out;omega
        case rel=>exact ⟨(wrap64 (x3_1+1)),fg,H',⟨by have:=HK1.out;omega⟩,⟨bs HB⟩⟩
       ·replace H:=itF H;obtain rfl:=si H
        try go_wp2
        replace HB:=am (below_drew1 HB.out);have p36:0≤(x3_1:Int):=oa;have q36:x3_1<(l0.length:Int):=oa;obtain ⟨ad36,e36,hx36_0,hx36_1,hx36_2,hx36_3,hx36_4⟩:=at_T120 HR0.out x3_1 p36 q36;have hw36_4:=hx36_4;have hw36_3:=hx36_3;have hw36_2:=hx36_2;have hw36_1:=hx36_1;have hw36_0:=hx36_0
        cases e36
        replace hx36_0:=cb HB hx36_0;replace hx36_1:=cb HB hx36_1;replace hx36_2:=cb HB hx36_2;replace hx36_3:=cb HB hx36_3;replace hx36_4:=cb HB hx36_4;replace p36:=eq_true p36;replace q36:=eq_true q36;have p37:0≤((ji8):Int):=oa;have q37:(ji8)<(l0.length:Int):=oa;obtain ⟨ad37,e37,hx37_0,hx37_1,hx37_2,hx37_3,hx37_4⟩:=at_T120 HR0.out (ji8) p37 q37;have hw37_4:=hx37_4;have hw37_3:=hx37_3;have hw37_2:=hx37_2;have hw37_1:=hx37_1;have hw37_0:=hx37_0;obtain rfl:ad36=ad37:=(by injection e37);replace hx37_0:=cb HB hx37_0;replace hx37_1:=cb HB hx37_1;replace hx37_2:=cb HB hx37_2;replace hx37_3:=cb HB hx37_3;replace hx37_4:=cb HB hx37_4;replace p37:=eq_true p37;replace q37:=eq_true q37;have p38:0≤(x3_1:Int):=oa;have q38:x3_1<(l0.length:Int):=oa;obtain ⟨ad38,e38,hx38_0,hx38_1,hx38_2,hx38_3,hx38_4⟩:=at_T120 HR0.out x3_1 p38 q38;have hw38_4:=hx38_4;have hw38_3:=hx38_3;have hw38_2:=hx38_2;have hw38_1:=hx38_1;have hw38_0:=hx38_0;obtain rfl:ad36=ad38:=(by injection e38);replace hx38_0:=cb HB hx38_0;replace hx38_1:=cb HB hx38_1;replace hx38_2:=cb HB hx38_2;replace hx38_3:=cb HB hx38_3;replace hx38_4:=cb HB hx38_4;replace p38:=eq_true p38;replace q38:=eq_true q38;refine sta 23 (hca (cb HB hw36_0) (hca (cb HB hw36_1) (hca (cb HB hw36_2) (hca (cb HB hw36_3) (hca (cb HB hw36_4) (hca (cb HB hw37_0) (hca (cb HB hw37_1) (hca (cb HB hw37_2) (hca (cb HB hw37_3) (hca (cb HB hw37_4) (hca (cb HB hw38_0) (hca (cb HB hw38_1) (hca (cb HB hw38_2) (hca (cb HB hw38_3) (hc (cb HB hw38_4)))))))))))))))) (fun hHeld=>?_);refine with_tabW spec_OutboxRight.tab6 spec_OutboxRight.bits6 (fun HT_ HW_=>?_)
        generalize wr.drew=w16 at HB hx36_0 hx36_1 hx36_2 hx36_3 hx36_4 hx37_0 hx37_1 hx37_2 hx37_3 hx37_4 hx38_0 hx38_1 hx38_2 hx38_3 hx38_4 hHeld ⊢
        refine pz3 0 ?_;refine ta 3 ?_;refine oA 4 17 HT_ (fun K hK=>?_);refine gA Tryz.func116 #[.agg #[.string ((rd_T120 l0 x3_1).f0),.int .i64 ((rd_T120 l0 x3_1).f1),.string ((rd_T120 l0 x3_1).f2),.int .i64 ((rd_T120 l0 x3_1).f3),.int .i64 ((rd_T120 l0 x3_1).f4)]] ?_;(with_reducible refine (spec_l12Out.calls k1 ((rd_T120 l0 x3_1).f0) ((rd_T120 l0 x3_1).f1) ((rd_T120 l0 x3_1).f2) ((rd_T120 l0 x3_1).f3) ((rd_T120 l0 x3_1).f4) true _ A5.out).mono ?_);rintro e w17 ⟨rfl,hb⟩;refine ⟨_,rfl,?_⟩;replace HB:=bq HB hb;(try clear hb);(try clear hb2);(try clear hk);(try clear hi);refine hK.out _ _ (hca (cb HB hw36_0) (hca (cb HB hw36_1) (hca (cb HB hw36_2) (hca (cb HB hw36_3) (hca (cb HB hw36_4) (hca (cb HB hw37_0) (hca (cb HB hw37_1) (hca (cb HB hw37_2) (hca (cb HB hw37_3) (hca (cb HB hw37_4) (hca (cb HB hw38_0) (hca (cb HB hw38_1) (hca (cb HB hw38_2) (hca (cb HB hw38_3) (hc (cb HB hw38_4)))))))))))))))).out (fun hHeld=>?_);clear hK K;refine nA 17 ?_;refine pz8 5 ?_;refine pz1 13 ?_;refine pz3 15 ?_;refine ta 14 ?_;refine ta 18 ?_;refine oA 19 32 HT_ (fun K hK=>?_);refine goes_ Tryz.func117 (by kernel_rfl) rfl #[.agg #[.string ((rd_T120 l0 (ji8)).f0),.int .i64 ((rd_T120 l0 (ji8)).f1),.string ((rd_T120 l0 (ji8)).f2),.int .i64 ((rd_T120 l0 (ji8)).f3),.int .i64 ((rd_T120 l0 (ji8)).f4)],.agg #[.string ((rd_T120 l0 x3_1).f0),.int .i64 ((rd_T120 l0 x3_1).f1),.string ((rd_T120 l0 x3_1).f2),.int .i64 ((rd_T120 l0 x3_1).f3),.int .i64 ((rd_T120 l0 x3_1).f4)]] (by rfl) rfl rfl (by (try simp only [List.map_toArray,List.map_cons,List.map_nil]);first|done|(simp only [hji8];rfl)|rfl|(simp only [List.length_drop,List.length_take];rfl)) ?_;(with_reducible refine (spec_l12Before.calls ((rd_T120 l0 (ji8)).f0) ((rd_T120 l0 (ji8)).f1) ((rd_T120 l0 (ji8)).f2) ((rd_T120 l0 (ji8)).f3) ((rd_T120 l0 (ji8)).f4) ((rd_T120 l0 x3_1).f0) ((rd_T120 l0 x3_1).f1) ((rd_T120 l0 x3_1).f2) ((rd_T120 l0 x3_1).f3) ((rd_T120 l0 x3_1).f4) false _ A11.out).mono ?_);rintro e w18 ⟨rfl,hb⟩;refine ⟨_,rfl,?_⟩;replace HB:=bq HB hb;(try clear hb);(try clear hb2);(try clear hk);(try clear hi);refine hK.out _ _ (hca (cb HB hw36_0) (hca (cb HB hw36_1) (hca (cb HB hw36_2) (hca (cb HB hw36_3) (hca (cb HB hw36_4) (hca (cb HB hw37_0) (hca (cb HB hw37_1) (hca (cb HB hw37_2) (hca (cb HB hw37_3) (hca (cb HB hw37_4) (hca (cb HB hw38_0) (hca (cb HB hw38_1) (hca (cb HB hw38_2) (hca (cb HB hw38_3) (hc (cb HB hw38_4)))))))))))))))).out (fun hHeld=>?_);clear hK K;refine nA 32 ?_;refine pz3 20 ?_;refine done_ (done_of HT_.out (by kernel_rfl)) ?_
        try go_wp2
        go_ret
        exact ⟨by first|rfl|(simp [errW_none,errW_some] <;> rfl)|(simp only [← hji8];first|rfl|(simp [errW_none,errW_some] <;> rfl))|(simp [*,errW_none,errW_some] <;> rfl),bs HB⟩
      ·intro c7 H;have c7b0:decide (0<x3_1)=false:=decide_eq_false c7;clear c7;have H':=am H;clear H
       try go_wp2
       replace HB:=am (below_drew1 HB.out);have p36:0≤(x3_1:Int):=oa;have q36:x3_1<(l0.length:Int):=oa;obtain ⟨ad36,e36,hx36_0,hx36_1,hx36_2,hx36_3,hx36_4⟩:=at_T120 HR0.out x3_1 p36 q36;have hw36_4:=hx36_4;have hw36_3:=hx36_3;have hw36_2:=hx36_2;have hw36_1:=hx36_1;have hw36_0:=hx36_0
       cases e36
       replace hx36_0:=cb HB hx36_0;replace hx36_1:=cb HB hx36_1;replace hx36_2:=cb HB hx36_2;replace hx36_3:=cb HB hx36_3;replace hx36_4:=cb HB hx36_4;replace p36:=eq_true p36;replace q36:=eq_true q36;refine sta 23 (hca (cb HB hw36_0) (hca (cb HB hw36_1) (hca (cb HB hw36_2) (hca (cb HB hw36_3) (hc (cb HB hw36_4)))))) (fun hHeld=>?_);refine with_tabW spec_OutboxRight.tab6 spec_OutboxRight.bits6 (fun HT_ HW_=>?_)
       generalize wr.drew=w19 at HB hx36_0 hx36_1 hx36_2 hx36_3 hx36_4 hHeld ⊢
       refine pz3 0 ?_;refine ta 3 ?_;refine oA 4 17 HT_ (fun K hK=>?_);refine gA Tryz.func116 #[.agg #[.string ((rd_T120 l0 x3_1).f0),.int .i64 ((rd_T120 l0 x3_1).f1),.string ((rd_T120 l0 x3_1).f2),.int .i64 ((rd_T120 l0 x3_1).f3),.int .i64 ((rd_T120 l0 x3_1).f4)]] ?_;(with_reducible refine (spec_l12Out.calls k1 ((rd_T120 l0 x3_1).f0) ((rd_T120 l0 x3_1).f1) ((rd_T120 l0 x3_1).f2) ((rd_T120 l0 x3_1).f3) ((rd_T120 l0 x3_1).f4) true _ A5.out).mono ?_);rintro e w20 ⟨rfl,hb⟩;refine ⟨_,rfl,?_⟩;replace HB:=bq HB hb;(try clear hb);(try clear hb2);(try clear hk);(try clear hi);refine hK.out _ _ (hca (cb HB hw36_0) (hca (cb HB hw36_1) (hca (cb HB hw36_2) (hca (cb HB hw36_3) (hc (cb HB hw36_4)))))).out (fun hHeld=>?_);clear hK K;refine nA 17 ?_;refine pz8 5 ?_;refine pz8 13 ?_;refine pz2 21 ?_;refine done_ (done_of HT_.out (by kernel_rfl)) ?_
       try go_wp2
       go_roundg k1
       case measure=>have:=HK1.out;omega
       case rel=>exact ⟨(wrap64 (x3_1+1)),fg,H',⟨by have:=HK1.out;omega⟩,⟨bs HB⟩⟩
     ·replace H:=itF H;obtain rfl:=si H
      try go_wp2
      replace HB:=am (below_drew1 HB.out);have p36:0≤(x3_1:Int):=oa;have q36:x3_1<(l0.length:Int):=oa;obtain ⟨ad36,e36,hx36_0,hx36_1,hx36_2,hx36_3,hx36_4⟩:=at_T120 HR0.out x3_1 p36 q36;have hw36_4:=hx36_4;have hw36_3:=hx36_3;have hw36_2:=hx36_2;have hw36_1:=hx36_1;have hw36_0:=hx36_0
      cases e36
      replace hx36_0:=cb HB hx36_0;replace hx36_1:=cb HB hx36_1;replace hx36_2:=cb HB hx36_2;replace hx36_3:=cb HB hx36_3;replace hx36_4:=cb HB hx36_4;replace p36:=eq_true p36;replace q36:=eq_true q36;refine sta 23 (hca (cb HB hw36_0) (hca (cb HB hw36_1) (hca (cb HB hw36_2) (hca (cb HB hw36_3) (hc (cb HB hw36_4)))))) (fun hHeld=>?_);refine with_tabW spec_OutboxRight.tab6 spec_OutboxRight.bits6 (fun HT_ HW_=>?_)
      generalize wr.drew=w21 at HB hx36_0 hx36_1 hx36_2 hx36_3 hx36_4 hHeld ⊢
      refine pz3 0 ?_;refine ta 3 ?_;refine oA 4 17 HT_ (fun K hK=>?_);refine gA Tryz.func116 #[.agg #[.string ((rd_T120 l0 x3_1).f0),.int .i64 ((rd_T120 l0 x3_1).f1),.string ((rd_T120 l0 x3_1).f2),.int .i64 ((rd_T120 l0 x3_1).f3),.int .i64 ((rd_T120 l0 x3_1).f4)]] ?_;(with_reducible refine (spec_l12Out.calls k1 ((rd_T120 l0 x3_1).f0) ((rd_T120 l0 x3_1).f1) ((rd_T120 l0 x3_1).f2) ((rd_T120 l0 x3_1).f3) ((rd_T120 l0 x3_1).f4) false _ A5.out).mono ?_);rintro e w22 ⟨rfl,hb⟩;refine ⟨_,rfl,?_⟩;replace HB:=bq HB hb;(try clear hb);(try clear hb2);(try clear hk);(try clear hi);refine hK.out _ _ (hca (cb HB hw36_0) (hca (cb HB hw36_1) (hca (cb HB hw36_2) (hca (cb HB hw36_3) (hc (cb HB hw36_4)))))).out (fun hHeld=>?_);clear hK K;refine nA 17 ?_;refine pz8 5 ?_;refine pz8 13 ?_;refine pz2 21 ?_;refine done_ (done_of HT_.out (by kernel_rfl)) ?_
      try go_wp2
      go_ret
      exact ⟨ff,bs HB⟩
    ·intro c3b0 H;obtain rfl:=si H
     go_wp2
     go_ret
     exact ⟨ff,bs HB⟩
def spec_PartnerRight.T7:Bool × List (List Nat × List Nat):=(true,[([],[]),([0],[0]),([],[]),([2],[2]),([1,3],[1,3]),([4],[4]),([5],[5]),([6,5],[5,6]),([5],[5]),([8,5],[5,8]),([9,5],[5,9]),([7,10,5],[5,7,10]),([5,11],[5,11]),([12,5],[12]),([13],[13]),([14,13],[13,14]),([15,13],[13,15]),([13,16],[13,16]),([17,13],[17]),([18],[18]),([19,18],[18,19]),([20,18,18],[18,20]),([21],[21]),([22,21],[21,22]),([21],[21]),([24,21],[21,24]),([21],[21]),([26,21],[21,26]),([25,27,21],[21,25,27]),([28,21],[21,28]),([29,21],[21,29]),([23,30,21],[21,23,30]),([21,31,18],[18,21,31]),([18,32],[18,32]),([33,21],[33]),([34],[34]),([35,34],[34,35]),([36,34,34],[34,36]),([37,34],[34,37]),([34,38],[34,38]),([39,37],[39]),([40],[40]),([41,40],[40,41]),([42,40],[40,42]),([40,43],[40,43]),([44,40],[44]),([45],[45]),([46,45],[45,46]),([47,45],[45,47]),([45,48],[45,48])])
def spec_PartnerRight.B7:List Nat:=[0,1,0,4,15,31,63,127,63,319,831,2047,4095,8191,16383,32767,65535,131071,262143,524287,1048575,2097151,4194303,8388607,4194303,20971519,4194303,71303167,255852543,524287999,1061158911,2147483647,4294967295,8589934591,17179869183,34359738367,68719476735,137438953471,274877906943,549755813887,1099511627775,2199023255551,4398046511103,8796093022207,17592186044415,35184372088831,70368744177663,140737488355327,281474976710655,562949953421311]
theorem spec_PartnerRight.tab7:rtab .any (opsOf Tryz.f68 7)=spec_PartnerRight.T7:=by kernel_rfl
theorem spec_PartnerRight.bits7:waitsOk spec_PartnerRight.T7.2 spec_PartnerRight.B7=true:=by kernel_rfl
theorem spec_PartnerRight.calls (k:Nat) (a0_0:ByteArray) (a0_1:Int) (a0_2:Int) (A0_3:Option Addr) (c0_3:Nat) (l0_3:List (S155)) (r:Bool) (w:World) (hr0_3:Kd.C k155 w A0_3 l0_3.length l0_3) (hc0_3:l0_3.length≤c0_3) (H:spec_PartnerRight.f k a0_0 a0_1 a0_2 l0_3=some r) :
  Calls Tryz.prog 68 #[.agg #[.string a0_0,.int .i64 a0_1,.int .i64 a0_2,.slice A0_3 l0_3.length c0_3]] w fun e w'=>e=.returned (.bool r)∧Below w.heap.size w w':=by
 have hu83:=Tryz.underlying83;have hu155:=Tryz.underlying155;have HR0_3:=am hr0_3;have HC0_3:=am hc0_3;clear hr0_3 hc0_3;have HB:=am (Below.refl w.heap.size w);unfold spec_PartnerRight.f at H;have HC2:=am H;clear H
 go_in
 go_upto_region 1 with (first|((with_reducible refine gate_dst (N:=1) rfl ?_);(try (refine gate_guard (by rfl) ?_;dsimp only));refine bz 1 (cs:=#[.string a0_0,.int .i64 a0_1,.int .i64 a0_2,.slice A0_3 l0_3.length c0_3]) (t:=83) HB ?_;clear HB;intro gb234 hg w3 BK234 GW234 hb HB;clear hb hg))
 (try simp only [Act.put,List.setIfInBounds_toArray,List.set_cons_zero,List.set_cons_succ])
 go_cut [26] (fun v26 wc=>∃ (kq:Nat) (x26_1:Bool),v26=.bool x26_1∧Aside0 (spec_PartnerRight.j0 kq x26_1 a0_0 a0_1 a0_2 l0_3=some r)∧Aside0 (kq≤k)∧Aside0 (wc.heap[gb234]? = some (.cells #[.string a0_0,.int .i64 a0_1,.int .i64 a0_2,(.slice A0_3 l0_3.length c0_3)] 83 (0,0)))∧Aside0 (Below w.heap.size w wc))
 case first =>
  have H:=HC2.out;clear HC2;replace H:=bo H;obtain ⟨t235,A4,H⟩:=H;have hcz5:=cf4 BK234
  try go_wp2_with (fail)
  go_at_call 48;(with_reducible refine (spec_l01Name.calls k a0_0 t235 _ A4.out).mono ?_);rintro e w' ⟨rfl,⟨nd,rfl⟩⟩
  obtain rfl|rfl:=bt t235
  ·replace H:=itT H;replace H:=bo H;obtain ⟨t236,A7,H⟩:=H;have hcz8:=cf4 BK234
   try go_wp2_with (fail)
   go_at_call 118;(with_reducible refine (spec_l01Control.calls a0_1 t236 _ A7.out).mono ?_);rintro e w' ⟨rfl,⟨nd,rfl⟩⟩
   obtain rfl|rfl:=bt t236
   ·replace H:=itT H;replace H:=bo H;obtain ⟨t237,A10,H⟩:=H;have hcz11:=cf4 BK234
    try go_wp2_with (fail)
    go_at_call 118;(with_reducible refine (spec_l01Control.calls a0_2 t237 _ A10.out).mono ?_);rintro e w' ⟨rfl,⟨nd,rfl⟩⟩
    obtain rfl|rfl:=bt t237
    ·replace H:=itT H;have H':=am H;clear H;have hcz13:=cf4 BK234
     go_wp2
     go_meet
     case rel=>exact ⟨_,(decide ((l0_3.length:Int)>32)),fg,H',⟨fl⟩,⟨ks BK234⟩,⟨bs HB⟩⟩
    ·replace H:=itF H;have H':=am H;clear H
     go_wp2
     go_meet
     case rel=>exact ⟨_,(true),fg,H',⟨fl⟩,⟨ks BK234⟩,⟨bs HB⟩⟩
   ·replace H:=itF H;have H':=am H;clear H
    go_wp2
    go_meet
    case rel=>exact ⟨_,(true),fg,H',⟨fl⟩,⟨ks BK234⟩,⟨bs HB⟩⟩
  ·replace H:=itF H;have H':=am H;clear H
   go_wp2
   go_meet
   case rel=>exact ⟨_,(true),fg,H',⟨fl⟩,⟨ks BK234⟩,⟨bs HB⟩⟩
 case rest =>
  clear HC2
  obtain ⟨kq,x26_1,rfl,HA,HJ1,BK234,HB⟩:=hcut
  cases kq with
  | zero=>exact absurd HA.out (by simp [spec_PartnerRight.j0])
  | succ kj1 =>
   have H:=HA.out;clear HA;simp only [spec_PartnerRight.j0] at H
   obtain rfl|rfl:=bt x26_1
   ·replace H:=itT H;obtain rfl:=si H
    go_wp2
    go_ret
    exact ⟨ff,bs HB⟩
   ·replace H:=itF H;have H':=am H;clear H
    go_wp2
    go_loopg [3] kj1 (fun kq v3 w'=>∃ (x3_2:Int),v3=.int .i64 x3_2∧Aside0 (spec_PartnerRight.l0 kq x3_2 a0_0 a0_1 a0_2 l0_3=some r)∧Aside0 (kq≤kj1)∧Aside0 (w'.heap[gb234]? = some (.cells #[.string a0_0,.int .i64 a0_1,.int .i64 a0_2,(.slice A0_3 l0_3.length c0_3)] 83 (0,0)))∧Aside0 (Below w.heap.size w w'))
    case atStart=>exact ⟨(0),fg,H',⟨Nat.le_refl _⟩,⟨ks BK234⟩,⟨bs HB⟩⟩
    case round =>
     clear H'
     try clear BK234
     obtain ⟨x3_2,rfl,HA,HK2,BK234,HB⟩:=hrel
     cases gk with
     | zero=>exact absurd HA.out (by simp [spec_PartnerRight.l0])
     | succ k2 =>
      have H:=HA.out;clear HA;simp only [spec_PartnerRight.l0] at H
      revert H;refine id2 ?_ ?_
      ·intro c15b0 H
       revert H;refine id1 ?_
       intro c16b0 H
       revert H;refine id2 ?_ ?_
       ·intro c17b0 H;obtain rfl:=si H;have hcz18:=cf4 BK234;have p238:0≤(x3_2:Int):=oa;have q238:x3_2<(l0_3.length:Int):=oa;obtain ⟨ad238,e238,hx238_0,hx238_1,hx238_2⟩:=at_T155 HR0_3.out x3_2 p238 q238
        cases e238
        replace hx238_0:=cb HB hx238_0;replace hx238_1:=cb HB hx238_1;replace hx238_2:=cb HB hx238_2;replace p238:=eq_true p238;replace q238:=eq_true q238
        try go_wp2_with (first|((with_reducible refine gate_dst (N:=4) rfl ?_);(try (refine gate_guard (by rfl) ?_;dsimp only));refine bz 4 (cs:=#[.int .i64 0,.int .i64 0,.int .i64 0]) (t:=155) HB ?_;clear HB;intro gb239 hg w19 BK239 GW239 hb HB;have NB234_239:=na hg BK234;have NB239_234:=nc hg BK234;replace BK234:=bb BK234 hb;clear hb hg;have hnb20:=NB239_234.out;have hnc20:=NB234_239.out;have hcz21:=cf3 BK239))
        have n0_:=kz (((w19.setCell ⟨gb239,0,none⟩ (.int .i64 ((rd_T155 l0_3 x3_2).f0))).setCell ⟨gb239,1,none⟩ (.int .i64 ((rd_T155 l0_3 x3_2).f1))).setCell ⟨gb239,2,none⟩ (.int .i64 ((rd_T155 l0_3 x3_2).f2))) BK234;have n1_:Aside0 ((((w19.setCell ⟨gb239,0,none⟩ (.int .i64 ((rd_T155 l0_3 x3_2).f0))).setCell ⟨gb239,1,none⟩ (.int .i64 ((rd_T155 l0_3 x3_2).f1))).setCell ⟨gb239,2,none⟩ (.int .i64 ((rd_T155 l0_3 x3_2).f2))).heap[gb239]? = some (.cells #[.int .i64 ((rd_T155 l0_3 x3_2).f0),.int .i64 ((rd_T155 l0_3 x3_2).f1),.int .i64 ((rd_T155 l0_3 x3_2).f2)] 155 (0,0))):=⟨kp BK239⟩;have n2_:Aside0 (Below w.heap.size w (((w19.setCell ⟨gb239,0,none⟩ (.int .i64 ((rd_T155 l0_3 x3_2).f0))).setCell ⟨gb239,1,none⟩ (.int .i64 ((rd_T155 l0_3 x3_2).f1))).setCell ⟨gb239,2,none⟩ (.int .i64 ((rd_T155 l0_3 x3_2).f2)))):=⟨bs HB⟩;(try clear BK234);(try clear BK239);(try clear HB)
        generalize (((w19.setCell ⟨gb239,0,none⟩ (.int .i64 ((rd_T155 l0_3 x3_2).f0))).setCell ⟨gb239,1,none⟩ (.int .i64 ((rd_T155 l0_3 x3_2).f1))).setCell ⟨gb239,2,none⟩ (.int .i64 ((rd_T155 l0_3 x3_2).f2)))=w22 at n0_ n1_ n2_ ⊢
        have BK234:=n0_;have BK239:=n1_;have HB:=n2_;clear n0_ n1_ n2_;replace BK234:=am (blk_drew BK234.out);replace BK239:=am (blk_drew BK239.out);replace HB:=am (below_drew1 HB.out);refine sta 50 (hb3a BK239 (hb4 BK234)) (fun hHeld=>?_);refine with_tabW spec_PartnerRight.tab7 spec_PartnerRight.bits7 (fun HT_ HW_=>?_)
        generalize w22.drew=w23 at BK234 BK239 HB hHeld ⊢
        refine pz1 0 ?_;refine pz1 2 ?_;refine ta 1 ?_;refine ta 3 ?_;refine pz8 4 ?_;refine pz8 12 ?_;refine pz8 20 ?_;refine pz8 28 ?_;refine pz8 36 ?_;refine pz4 44 ?_;refine pz2 48 ?_;refine done_ (done_of HT_.out (by kernel_rfl)) ?_
        try go_wp2
        go_ret
        exact ⟨ff,bs HB⟩
       ·intro c17b0 H
        revert H;refine ip2 ?_ ?_
        ·intro c24 H;have c24b0:decide ((wrap64 (a0_1+32))≤((rd_T155 l0_3 x3_2).f0))=true:=decide_eq_true c24;clear c24;obtain rfl:=si H;have hcz25:=cf4 BK234;have p238:0≤(x3_2:Int):=oa;have q238:x3_2<(l0_3.length:Int):=oa;obtain ⟨ad238,e238,hx238_0,hx238_1,hx238_2⟩:=at_T155 HR0_3.out x3_2 p238 q238
         cases e238
         replace hx238_0:=cb HB hx238_0;replace hx238_1:=cb HB hx238_1;replace hx238_2:=cb HB hx238_2;replace p238:=eq_true p238;replace q238:=eq_true q238
         try go_wp2_with (first|((with_reducible refine gate_dst (N:=4) rfl ?_);(try (refine gate_guard (by rfl) ?_;dsimp only));refine bz 4 (cs:=#[.int .i64 0,.int .i64 0,.int .i64 0]) (t:=155) HB ?_;clear HB;intro gb239 hg w26 BK239 GW239 hb HB;have NB234_239:=na hg BK234;have NB239_234:=nc hg BK234;replace BK234:=bb BK234 hb;clear hb hg;have hnb27:=NB239_234.out;have hnc27:=NB234_239.out;have hcz28:=cf3 BK239))
         have n0_:=kz (((w26.setCell ⟨gb239,0,none⟩ (.int .i64 ((rd_T155 l0_3 x3_2).f0))).setCell ⟨gb239,1,none⟩ (.int .i64 ((rd_T155 l0_3 x3_2).f1))).setCell ⟨gb239,2,none⟩ (.int .i64 ((rd_T155 l0_3 x3_2).f2))) BK234;have n1_:Aside0 ((((w26.setCell ⟨gb239,0,none⟩ (.int .i64 ((rd_T155 l0_3 x3_2).f0))).setCell ⟨gb239,1,none⟩ (.int .i64 ((rd_T155 l0_3 x3_2).f1))).setCell ⟨gb239,2,none⟩ (.int .i64 ((rd_T155 l0_3 x3_2).f2))).heap[gb239]? = some (.cells #[.int .i64 ((rd_T155 l0_3 x3_2).f0),.int .i64 ((rd_T155 l0_3 x3_2).f1),.int .i64 ((rd_T155 l0_3 x3_2).f2)] 155 (0,0))):=⟨kp BK239⟩;have n2_:Aside0 (Below w.heap.size w (((w26.setCell ⟨gb239,0,none⟩ (.int .i64 ((rd_T155 l0_3 x3_2).f0))).setCell ⟨gb239,1,none⟩ (.int .i64 ((rd_T155 l0_3 x3_2).f1))).setCell ⟨gb239,2,none⟩ (.int .i64 ((rd_T155 l0_3 x3_2).f2)))):=⟨bs HB⟩;(try clear BK234);(try clear BK239);(try clear HB)
         generalize (((w26.setCell ⟨gb239,0,none⟩ (.int .i64 ((rd_T155 l0_3 x3_2).f0))).setCell ⟨gb239,1,none⟩ (.int .i64 ((rd_T155 l0_3 x3_2).f1))).setCell ⟨gb239,2,none⟩ (.int .i64 ((rd_T155 l0_3 x3_2).f2)))=w29 at n0_ n1_ n2_ ⊢
         have BK234:=n0_;have BK239:=n1_;have HB:=n2_;clear n0_ n1_ n2_;replace BK234:=am (blk_drew BK234.out);replace BK239:=am (blk_drew BK239.out);replace HB:=am (below_drew1 HB.out);refine sta 50 (hb3a BK239 (hb4 BK234)) (fun hHeld=>?_);refine with_tabW spec_PartnerRight.tab7 spec_PartnerRight.bits7 (fun HT_ HW_=>?_)
         generalize w29.drew=w30 at BK234 BK239 HB hHeld ⊢
         refine pz1 0 ?_;refine pz1 2 ?_;refine ta 1 ?_;refine ta 3 ?_;refine pz3 4 ?_;refine pz1 8 ?_;refine ta 7 ?_;refine ta 9 ?_;refine pz8 10 ?_;refine pz8 18 ?_;refine pz8 26 ?_;refine pz8 34 ?_;refine pz8 42 ?_;refine done_ (done_of HT_.out (by kernel_rfl)) ?_
         try go_wp2
         go_ret
         exact ⟨ff,bs HB⟩
        ·intro c24 H;have c24b0:decide ((wrap64 (a0_1+32))≤((rd_T155 l0_3 x3_2).f0))=false:=decide_eq_false c24;clear c24
         revert H;refine ip2 ?_ ?_
         ·intro c31 H;have c31b0:decide (999999<((rd_T155 l0_3 x3_2).f0))=true:=decide_eq_true c31;clear c31;obtain rfl:=si H;have hcz32:=cf4 BK234;have p238:0≤(x3_2:Int):=oa;have q238:x3_2<(l0_3.length:Int):=oa;obtain ⟨ad238,e238,hx238_0,hx238_1,hx238_2⟩:=at_T155 HR0_3.out x3_2 p238 q238
          cases e238
          replace hx238_0:=cb HB hx238_0;replace hx238_1:=cb HB hx238_1;replace hx238_2:=cb HB hx238_2;replace p238:=eq_true p238;replace q238:=eq_true q238
          try go_wp2_with (first|((with_reducible refine gate_dst (N:=4) rfl ?_);(try (refine gate_guard (by rfl) ?_;dsimp only));refine bz 4 (cs:=#[.int .i64 0,.int .i64 0,.int .i64 0]) (t:=155) HB ?_;clear HB;intro gb239 hg w33 BK239 GW239 hb HB;have NB234_239:=na hg BK234;have NB239_234:=nc hg BK234;replace BK234:=bb BK234 hb;clear hb hg;have hnb34:=NB239_234.out;have hnc34:=NB234_239.out;have hcz35:=cf3 BK239))
          have n0_:=kz (((w33.setCell ⟨gb239,0,none⟩ (.int .i64 ((rd_T155 l0_3 x3_2).f0))).setCell ⟨gb239,1,none⟩ (.int .i64 ((rd_T155 l0_3 x3_2).f1))).setCell ⟨gb239,2,none⟩ (.int .i64 ((rd_T155 l0_3 x3_2).f2))) BK234;have n1_:Aside0 ((((w33.setCell ⟨gb239,0,none⟩ (.int .i64 ((rd_T155 l0_3 x3_2).f0))).setCell ⟨gb239,1,none⟩ (.int .i64 ((rd_T155 l0_3 x3_2).f1))).setCell ⟨gb239,2,none⟩ (.int .i64 ((rd_T155 l0_3 x3_2).f2))).heap[gb239]? = some (.cells #[.int .i64 ((rd_T155 l0_3 x3_2).f0),.int .i64 ((rd_T155 l0_3 x3_2).f1),.int .i64 ((rd_T155 l0_3 x3_2).f2)] 155 (0,0))):=⟨kp BK239⟩;have n2_:Aside0 (Below w.heap.size w (((w33.setCell ⟨gb239,0,none⟩ (.int .i64 ((rd_T155 l0_3 x3_2).f0))).setCell ⟨gb239,1,none⟩ (.int .i64 ((rd_T155 l0_3 x3_2).f1))).setCell ⟨gb239,2,none⟩ (.int .i64 ((rd_T155 l0_3 x3_2).f2)))):=⟨bs HB⟩;(try clear BK234);(try clear BK239);(try clear HB)
          generalize (((w33.setCell ⟨gb239,0,none⟩ (.int .i64 ((rd_T155 l0_3 x3_2).f0))).setCell ⟨gb239,1,none⟩ (.int .i64 ((rd_T155 l0_3 x3_2).f1))).setCell ⟨gb239,2,none⟩ (.int .i64 ((rd_T155 l0_3 x3_2).f2)))=w36 at n0_ n1_ n2_ ⊢
          have BK234:=n0_;have BK239:=n1_;have HB:=n2_;clear n0_ n1_ n2_;replace BK234:=am (blk_drew BK234.out);replace BK239:=am (blk_drew BK239.out);replace HB:=am (below_drew1 HB.out);refine sta 50 (hb3a BK239 (hb4 BK234)) (fun hHeld=>?_);refine with_tabW spec_PartnerRight.tab7 spec_PartnerRight.bits7 (fun HT_ HW_=>?_)
          generalize w36.drew=w37 at BK234 BK239 HB hHeld ⊢
          refine pz1 0 ?_;refine pz1 2 ?_;refine ta 1 ?_;refine ta 3 ?_;refine pz3 4 ?_;refine pz1 8 ?_;refine ta 7 ?_;refine ta 9 ?_;refine pz4 10 ?_;refine pz1 14 ?_;refine ta 15 ?_;refine pz8 16 ?_;refine pz8 24 ?_;refine pz8 32 ?_;refine pz8 40 ?_;refine pz2 48 ?_;refine done_ (done_of HT_.out (by kernel_rfl)) ?_
          try go_wp2
          go_ret
          exact ⟨ff,bs HB⟩
         ·intro c31 H;have c31b0:decide (999999<((rd_T155 l0_3 x3_2).f0))=false:=decide_eq_false c31;clear c31
          revert H;refine ip2 ?_ ?_
          ·intro c38 H;have c38b0:decide (0<x3_2)=true:=decide_eq_true c38;clear c38;obtain ⟨ji39,hji39⟩:∃ j_:Int,(wrap64 (x3_2 - 1))=j_:=⟨_,rfl⟩
           replace H:(if 0≤(ji39) then (if (ji39)<(l0_3.length:Int) then (if ((rd_T155 l0_3 x3_2).f0)≤((rd_T155 l0_3 (ji39)).f0) then (some false) else ((spec_l01Control.f ((rd_T155 l0_3 x3_2).f1)).bind fun t241=>(if t241=true then (if ((rd_T155 l0_3 x3_2).f2)<0 then (some false) else (if ((rd_T155 l0_3 x3_2).f2)>13 then (some false) else (spec_PartnerRight.l0 k2 (wrap64 (x3_2+1)) a0_0 a0_1 a0_2 l0_3))) else (some false)))) else (none)) else (none))=some r:=by first|(rw [hji39] at H;exact H)|(simp only [hji39] at H ⊢;exact H)
           have hji39w:(IntKind.i64.wrap (x3_2 - 1))=ji39:=(i64_w _).trans hji39
           revert H;refine id1 ?_
           intro c40b0 H
           revert H;refine id1 ?_
           intro c41b0 H
           revert H;refine id2 ?_ ?_
           ·intro c42b0 H;obtain rfl:=si H;have hcz43:=cf4 BK234;have p238:0≤(x3_2:Int):=oa;have q238:x3_2<(l0_3.length:Int):=oa;obtain ⟨ad238,e238,hx238_0,hx238_1,hx238_2⟩:=at_T155 HR0_3.out x3_2 p238 q238
            cases e238
            replace hx238_0:=cb HB hx238_0;replace hx238_1:=cb HB hx238_1;replace hx238_2:=cb HB hx238_2;replace p238:=eq_true p238;replace q238:=eq_true q238
            try go_wp2_with (first|((with_reducible refine gate_dst (N:=4) rfl ?_);(try (refine gate_guard (by rfl) ?_;dsimp only));refine bz 4 (cs:=#[.int .i64 0,.int .i64 0,.int .i64 0]) (t:=155) HB ?_;clear HB;intro gb239 hg w44 BK239 GW239 hb HB;have NB234_239:=na hg BK234;have NB239_234:=nc hg BK234;replace BK234:=bb BK234 hb;clear hb hg;have hnb45:=NB239_234.out;have hnc45:=NB234_239.out;have hcz46:=cf3 BK239))
            have n0_:=kz (((w44.setCell ⟨gb239,0,none⟩ (.int .i64 ((rd_T155 l0_3 x3_2).f0))).setCell ⟨gb239,1,none⟩ (.int .i64 ((rd_T155 l0_3 x3_2).f1))).setCell ⟨gb239,2,none⟩ (.int .i64 ((rd_T155 l0_3 x3_2).f2))) BK234;have n1_:Aside0 ((((w44.setCell ⟨gb239,0,none⟩ (.int .i64 ((rd_T155 l0_3 x3_2).f0))).setCell ⟨gb239,1,none⟩ (.int .i64 ((rd_T155 l0_3 x3_2).f1))).setCell ⟨gb239,2,none⟩ (.int .i64 ((rd_T155 l0_3 x3_2).f2))).heap[gb239]? = some (.cells #[.int .i64 ((rd_T155 l0_3 x3_2).f0),.int .i64 ((rd_T155 l0_3 x3_2).f1),.int .i64 ((rd_T155 l0_3 x3_2).f2)] 155 (0,0))):=⟨kp BK239⟩;have n2_:Aside0 (Below w.heap.size w (((w44.setCell ⟨gb239,0,none⟩ (.int .i64 ((rd_T155 l0_3 x3_2).f0))).setCell ⟨gb239,1,none⟩ (.int .i64 ((rd_T155 l0_3 x3_2).f1))).setCell ⟨gb239,2,none⟩ (.int .i64 ((rd_T155 l0_3 x3_2).f2)))):=⟨bs HB⟩;(try clear BK234);(try clear BK239);(try clear HB)
            generalize (((w44.setCell ⟨gb239,0,none⟩ (.int .i64 ((rd_T155 l0_3 x3_2).f0))).setCell ⟨gb239,1,none⟩ (.int .i64 ((rd_T155 l0_3 x3_2).f1))).setCell ⟨gb239,2,none⟩ (.int .i64 ((rd_T155 l0_3 x3_2).f2)))=w47 at n0_ n1_ n2_ ⊢
            have BK234:=n0_;have BK239:=n1_;have HB:=n2_;clear n0_ n1_ n2_;replace BK234:=am (blk_drew BK234.out);replace BK239:=am (blk_drew BK239.out);replace HB:=am (below_drew1 HB.out);have p240:0≤((ji39):Int):=oa;have q240:(ji39)<(l0_3.length:Int):=oa;obtain ⟨ad240,e240,hx240_0,hx240_1,hx240_2⟩:=at_T155 HR0_3.out (ji39) p240 q240;have hw240_2:=hx240_2;have hw240_1:=hx240_1;have hw240_0:=hx240_0;obtain rfl:ad238=ad240:=(by injection e240);replace hx240_0:=cb HB hx240_0;replace hx240_1:=cb HB hx240_1;replace hx240_2:=cb HB hx240_2;replace p240:=eq_true p240;replace q240:=eq_true q240;refine sta 50 (hb3a BK239 (hb4a BK234 (hca (cb HB hw240_0) (hca (cb HB hw240_1) (hc (cb HB hw240_2)))))) (fun hHeld=>?_);refine with_tabW spec_PartnerRight.tab7 spec_PartnerRight.bits7 (fun HT_ HW_=>?_)
            generalize w47.drew=w48 at BK234 BK239 HB hx240_0 hx240_1 hx240_2 hHeld ⊢
            refine pz1 0 ?_;refine pz1 2 ?_;refine ta 1 ?_;refine ta 3 ?_;refine pz3 4 ?_;refine pz1 8 ?_;refine ta 7 ?_;refine ta 9 ?_;refine pz4 10 ?_;refine pz1 14 ?_;refine ta 15 ?_;refine pz4 16 ?_;refine pz3 20 ?_;refine pz1 24 ?_;refine pz2 26 ?_;refine ta 23 ?_;refine ta 25 ?_;refine pz2 28 ?_;refine ta 30 ?_;refine pz8 31 ?_;refine pz8 39 ?_;refine pz3 47 ?_;refine done_ (done_of HT_.out (by kernel_rfl)) ?_
            try go_wp2
            go_ret
            exact ⟨by first|rfl|(simp [errW_none,errW_some] <;> rfl)|(simp only [← hji39];first|rfl|(simp [errW_none,errW_some] <;> rfl))|(simp [*,errW_none,errW_some] <;> rfl),bs HB⟩
           ·intro c42b0 H;replace H:=bo H;obtain ⟨t241,A49,H⟩:=H
            obtain rfl|rfl:=bt t241
            ·replace H:=itT H
             revert H;refine id2 ?_ ?_
             ·intro c51b0 H;obtain rfl:=si H;have hcz52:=cf4 BK234;have p238:0≤(x3_2:Int):=oa;have q238:x3_2<(l0_3.length:Int):=oa;obtain ⟨ad238,e238,hx238_0,hx238_1,hx238_2⟩:=at_T155 HR0_3.out x3_2 p238 q238
              cases e238
              replace hx238_0:=cb HB hx238_0;replace hx238_1:=cb HB hx238_1;replace hx238_2:=cb HB hx238_2;replace p238:=eq_true p238;replace q238:=eq_true q238
              try go_wp2_with (first|((with_reducible refine gate_dst (N:=4) rfl ?_);(try (refine gate_guard (by rfl) ?_;dsimp only));refine bz 4 (cs:=#[.int .i64 0,.int .i64 0,.int .i64 0]) (t:=155) HB ?_;clear HB;intro gb239 hg w53 BK239 GW239 hb HB;have NB234_239:=na hg BK234;have NB239_234:=nc hg BK234;replace BK234:=bb BK234 hb;clear hb hg;have hnb54:=NB239_234.out;have hnc54:=NB234_239.out;have hcz55:=cf3 BK239))
              have n0_:=kz (((w53.setCell ⟨gb239,0,none⟩ (.int .i64 ((rd_T155 l0_3 x3_2).f0))).setCell ⟨gb239,1,none⟩ (.int .i64 ((rd_T155 l0_3 x3_2).f1))).setCell ⟨gb239,2,none⟩ (.int .i64 ((rd_T155 l0_3 x3_2).f2))) BK234;have n1_:Aside0 ((((w53.setCell ⟨gb239,0,none⟩ (.int .i64 ((rd_T155 l0_3 x3_2).f0))).setCell ⟨gb239,1,none⟩ (.int .i64 ((rd_T155 l0_3 x3_2).f1))).setCell ⟨gb239,2,none⟩ (.int .i64 ((rd_T155 l0_3 x3_2).f2))).heap[gb239]? = some (.cells #[.int .i64 ((rd_T155 l0_3 x3_2).f0),.int .i64 ((rd_T155 l0_3 x3_2).f1),.int .i64 ((rd_T155 l0_3 x3_2).f2)] 155 (0,0))):=⟨kp BK239⟩;have n2_:Aside0 (Below w.heap.size w (((w53.setCell ⟨gb239,0,none⟩ (.int .i64 ((rd_T155 l0_3 x3_2).f0))).setCell ⟨gb239,1,none⟩ (.int .i64 ((rd_T155 l0_3 x3_2).f1))).setCell ⟨gb239,2,none⟩ (.int .i64 ((rd_T155 l0_3 x3_2).f2)))):=⟨bs HB⟩;(try clear BK234);(try clear BK239);(try clear HB)
              generalize (((w53.setCell ⟨gb239,0,none⟩ (.int .i64 ((rd_T155 l0_3 x3_2).f0))).setCell ⟨gb239,1,none⟩ (.int .i64 ((rd_T155 l0_3 x3_2).f1))).setCell ⟨gb239,2,none⟩ (.int .i64 ((rd_T155 l0_3 x3_2).f2)))=w56 at n0_ n1_ n2_ ⊢
              have BK234:=n0_;have BK239:=n1_;have HB:=n2_;clear n0_ n1_ n2_;replace BK234:=am (blk_drew BK234.out);replace BK239:=am (blk_drew BK239.out);replace HB:=am (below_drew1 HB.out);have p240:0≤((ji39):Int):=oa;have q240:(ji39)<(l0_3.length:Int):=oa;obtain ⟨ad240,e240,hx240_0,hx240_1,hx240_2⟩:=at_T155 HR0_3.out (ji39) p240 q240;have hw240_2:=hx240_2;have hw240_1:=hx240_1;have hw240_0:=hx240_0;obtain rfl:ad238=ad240:=(by injection e240);replace hx240_0:=cb HB hx240_0;replace hx240_1:=cb HB hx240_1;replace hx240_2:=cb HB hx240_2;replace p240:=eq_true p240;replace q240:=eq_true q240;refine sta 50 (hb3a BK239 (hb4a BK234 (hca (cb HB hw240_0) (hca (cb HB hw240_1) (hc (cb HB hw240_2)))))) (fun hHeld=>?_);refine with_tabW spec_PartnerRight.tab7 spec_PartnerRight.bits7 (fun HT_ HW_=>?_)
              generalize w56.drew=w57 at BK234 BK239 HB hx240_0 hx240_1 hx240_2 hHeld ⊢
              refine pz1 0 ?_;refine pz1 2 ?_;refine ta 1 ?_;refine ta 3 ?_;refine pz3 4 ?_;refine pz1 8 ?_;refine ta 7 ?_;refine ta 9 ?_;refine pz4 10 ?_;refine pz1 14 ?_;refine ta 15 ?_;refine pz4 16 ?_;refine pz3 20 ?_;refine pz1 24 ?_;refine pz2 26 ?_;refine ta 23 ?_;refine ta 25 ?_;refine pz2 28 ?_;refine ta 30 ?_;refine pz4 31 ?_;refine pz1 35 ?_;refine ta 36 ?_;refine oA 37 76 HT_ (fun K hK=>?_);refine gA Tryz.func118 #[.int .i64 ((rd_T155 l0_3 x3_2).f1)] ?_;(with_reducible refine (spec_l01Control.calls ((rd_T155 l0_3 x3_2).f1) true _ A49.out).mono ?_);rintro e w' ⟨rfl,⟨nd,rfl⟩⟩;refine ⟨_,rfl,?_⟩;refine hK.out _ _ (hb3a BK239 (hb4a BK234 (hca (cb HB hw240_0) (hca (cb HB hw240_1) (hc (cb HB hw240_2)))))).out (fun hHeld=>?_);clear hK K;refine nA 76 ?_;refine pz4 38 ?_;refine ta 42 ?_;refine pz4 43 ?_;refine pz3 47 ?_;refine done_ (done_of HT_.out (by kernel_rfl)) ?_
              try go_wp2
              go_ret
              exact ⟨by first|rfl|(simp [errW_none,errW_some] <;> rfl)|(simp only [← hji39];first|rfl|(simp [errW_none,errW_some] <;> rfl))|(simp [*,errW_none,errW_some] <;> rfl),bs HB⟩
             ·intro c51b0 H
              revert H;refine ip2 ?_ ?_
              ·intro c58 H;have c58b0:decide (13<((rd_T155 l0_3 x3_2).f2))=true:=decide_eq_true c58;clear c58;obtain rfl:=si H;have hcz59:=cf4 BK234;have p238:0≤(x3_2:Int):=oa;have q238:x3_2<(l0_3.length:Int):=oa;obtain ⟨ad238,e238,hx238_0,hx238_1,hx238_2⟩:=at_T155 HR0_3.out x3_2 p238 q238
               cases e238
               replace hx238_0:=cb HB hx238_0;replace hx238_1:=cb HB hx238_1;replace hx238_2:=cb HB hx238_2;replace p238:=eq_true p238;replace q238:=eq_true q238
               try go_wp2_with (first|((with_reducible refine gate_dst (N:=4) rfl ?_);(try (refine gate_guard (by rfl) ?_;dsimp only));refine bz 4 (cs:=#[.int .i64 0,.int .i64 0,.int .i64 0]) (t:=155) HB ?_;clear HB;intro gb239 hg w60 BK239 GW239 hb HB;have NB234_239:=na hg BK234;have NB239_234:=nc hg BK234;replace BK234:=bb BK234 hb;clear hb hg;have hnb61:=NB239_234.out;have hnc61:=NB234_239.out;have hcz62:=cf3 BK239))
               have n0_:=kz (((w60.setCell ⟨gb239,0,none⟩ (.int .i64 ((rd_T155 l0_3 x3_2).f0))).setCell ⟨gb239,1,none⟩ (.int .i64 ((rd_T155 l0_3 x3_2).f1))).setCell ⟨gb239,2,none⟩ (.int .i64 ((rd_T155 l0_3 x3_2).f2))) BK234;have n1_:Aside0 ((((w60.setCell ⟨gb239,0,none⟩ (.int .i64 ((rd_T155 l0_3 x3_2).f0))).setCell ⟨gb239,1,none⟩ (.int .i64 ((rd_T155 l0_3 x3_2).f1))).setCell ⟨gb239,2,none⟩ (.int .i64 ((rd_T155 l0_3 x3_2).f2))).heap[gb239]? = some (.cells #[.int .i64 ((rd_T155 l0_3 x3_2).f0),.int .i64 ((rd_T155 l0_3 x3_2).f1),.int .i64 ((rd_T155 l0_3 x3_2).f2)] 155 (0,0))):=⟨kp BK239⟩;have n2_:Aside0 (Below w.heap.size w (((w60.setCell ⟨gb239,0,none⟩ (.int .i64 ((rd_T155 l0_3 x3_2).f0))).setCell ⟨gb239,1,none⟩ (.int .i64 ((rd_T155 l0_3 x3_2).f1))).setCell ⟨gb239,2,none⟩ (.int .i64 ((rd_T155 l0_3 x3_2).f2)))):=⟨bs HB⟩;(try clear BK234);(try clear BK239);(try clear HB)
               generalize (((w60.setCell ⟨gb239,0,none⟩ (.int .i64 ((rd_T155 l0_3 x3_2).f0))).setCell ⟨gb239,1,none⟩ (.int .i64 ((rd_T155 l0_3 x3_2).f1))).setCell ⟨gb239,2,none⟩ (.int .i64 ((rd_T155 l0_3 x3_2).f2)))=w63 at n0_ n1_ n2_ ⊢
               have BK234:=n0_;have BK239:=n1_;have HB:=n2_;clear n0_ n1_ n2_;replace BK234:=am (blk_drew BK234.out);replace BK239:=am (blk_drew BK239.out);replace HB:=am (below_drew1 HB.out);have p240:0≤((ji39):Int):=oa;have q240:(ji39)<(l0_3.length:Int):=oa;obtain ⟨ad240,e240,hx240_0,hx240_1,hx240_2⟩:=at_T155 HR0_3.out (ji39) p240 q240;have hw240_2:=hx240_2;have hw240_1:=hx240_1;have hw240_0:=hx240_0;obtain rfl:ad238=ad240:=(by injection e240);replace hx240_0:=cb HB hx240_0;replace hx240_1:=cb HB hx240_1;replace hx240_2:=cb HB hx240_2;replace p240:=eq_true p240;replace q240:=eq_true q240;refine sta 50 (hb3a BK239 (hb4a BK234 (hca (cb HB hw240_0) (hca (cb HB hw240_1) (hc (cb HB hw240_2)))))) (fun hHeld=>?_);refine with_tabW spec_PartnerRight.tab7 spec_PartnerRight.bits7 (fun HT_ HW_=>?_)
               generalize w63.drew=w64 at BK234 BK239 HB hx240_0 hx240_1 hx240_2 hHeld ⊢
               refine pz1 0 ?_;refine pz1 2 ?_;refine ta 1 ?_;refine ta 3 ?_;refine pz3 4 ?_;refine pz1 8 ?_;refine ta 7 ?_;refine ta 9 ?_;refine pz4 10 ?_;refine pz1 14 ?_;refine ta 15 ?_;refine pz4 16 ?_;refine pz3 20 ?_;refine pz1 24 ?_;refine pz2 26 ?_;refine ta 23 ?_;refine ta 25 ?_;refine pz2 28 ?_;refine ta 30 ?_;refine pz4 31 ?_;refine pz1 35 ?_;refine ta 36 ?_;refine oA 37 76 HT_ (fun K hK=>?_);refine gA Tryz.func118 #[.int .i64 ((rd_T155 l0_3 x3_2).f1)] ?_;(with_reducible refine (spec_l01Control.calls ((rd_T155 l0_3 x3_2).f1) true _ A49.out).mono ?_);rintro e w' ⟨rfl,⟨nd,rfl⟩⟩;refine ⟨_,rfl,?_⟩;refine hK.out _ _ (hb3a BK239 (hb4a BK234 (hca (cb HB hw240_0) (hca (cb HB hw240_1) (hc (cb HB hw240_2)))))).out (fun hHeld=>?_);clear hK K;refine nA 76 ?_;refine pz4 38 ?_;refine ta 42 ?_;refine pz4 43 ?_;refine ta 47 ?_;refine pz2 48 ?_;refine done_ (done_of HT_.out (by kernel_rfl)) ?_
               try go_wp2
               go_ret
               exact ⟨by first|rfl|(simp [errW_none,errW_some] <;> rfl)|(simp only [← hji39];first|rfl|(simp [errW_none,errW_some] <;> rfl))|(simp [*,errW_none,errW_some] <;> rfl),bs HB⟩
              ·intro c58 H;have c58b0:decide (13<((rd_T155 l0_3 x3_2).f2))=false:=decide_eq_false c58;clear c58;have H':=am H;clear H;have hcz65:=cf4 BK234;have p238:0≤(x3_2:Int):=oa;have q238:x3_2<(l0_3.length:Int):=oa;obtain ⟨ad238,e238,hx238_0,hx238_1,hx238_2⟩:=at_T155 HR0_3.out x3_2 p238 q238
               cases e238
               replace hx238_0:=cb HB hx238_0;replace hx238_1:=cb HB hx238_1;replace hx238_2:=cb HB hx238_2;replace p238:=eq_true p238;replace q238:=eq_true q238
               try go_wp2_with (first|((with_reducible refine gate_dst (N:=4) rfl ?_);(try (refine gate_guard (by rfl) ?_;dsimp only));refine bz 4 (cs:=#[.int .i64 0,.int .i64 0,.int .i64 0]) (t:=155) HB ?_;clear HB;intro gb239 hg w66 BK239 GW239 hb HB;have NB234_239:=na hg BK234;have NB239_234:=nc hg BK234;replace BK234:=bb BK234 hb;clear hb hg;have hnb67:=NB239_234.out;have hnc67:=NB234_239.out;have hcz68:=cf3 BK239))
               have n0_:=kz (((w66.setCell ⟨gb239,0,none⟩ (.int .i64 ((rd_T155 l0_3 x3_2).f0))).setCell ⟨gb239,1,none⟩ (.int .i64 ((rd_T155 l0_3 x3_2).f1))).setCell ⟨gb239,2,none⟩ (.int .i64 ((rd_T155 l0_3 x3_2).f2))) BK234;have n1_:Aside0 ((((w66.setCell ⟨gb239,0,none⟩ (.int .i64 ((rd_T155 l0_3 x3_2).f0))).setCell ⟨gb239,1,none⟩ (.int .i64 ((rd_T155 l0_3 x3_2).f1))).setCell ⟨gb239,2,none⟩ (.int .i64 ((rd_T155 l0_3 x3_2).f2))).heap[gb239]? = some (.cells #[.int .i64 ((rd_T155 l0_3 x3_2).f0),.int .i64 ((rd_T155 l0_3 x3_2).f1),.int .i64 ((rd_T155 l0_3 x3_2).f2)] 155 (0,0))):=⟨kp BK239⟩;have n2_:Aside0 (Below w.heap.size w (((w66.setCell ⟨gb239,0,none⟩ (.int .i64 ((rd_T155 l0_3 x3_2).f0))).setCell ⟨gb239,1,none⟩ (.int .i64 ((rd_T155 l0_3 x3_2).f1))).setCell ⟨gb239,2,none⟩ (.int .i64 ((rd_T155 l0_3 x3_2).f2)))):=⟨bs HB⟩;(try clear BK234);(try clear BK239);(try clear HB)
               generalize (((w66.setCell ⟨gb239,0,none⟩ (.int .i64 ((rd_T155 l0_3 x3_2).f0))).setCell ⟨gb239,1,none⟩ (.int .i64 ((rd_T155 l0_3 x3_2).f1))).setCell ⟨gb239,2,none⟩ (.int .i64 ((rd_T155 l0_3 x3_2).f2)))=w69 at n0_ n1_ n2_ ⊢
               have BK234:=n0_;have BK239:=n1_;have HB:=n2_;clear n0_ n1_ n2_;replace BK234:=am (blk_drew BK234.out);replace BK239:=am (blk_drew BK239.out);replace HB:=am (below_drew1 HB.out);have p240:0≤((ji39):Int):=oa;have q240:(ji39)<(l0_3.length:Int):=oa;obtain ⟨ad240,e240,hx240_0,hx240_1,hx240_2⟩:=at_T155 HR0_3.out (ji39) p240 q240;have hw240_2:=hx240_2;have hw240_1:=hx240_1;have hw240_0:=hx240_0;obtain rfl:ad238=ad240:=(by injection e240);replace hx240_0:=cb HB hx240_0;replace hx240_1:=cb HB hx240_1;replace hx240_2:=cb HB hx240_2;replace p240:=eq_true p240;replace q240:=eq_true q240;refine sta 50 (hb3a BK239 (hb4a BK234 (hca (cb HB hw240_0) (hca (cb HB hw240_1) (hc (cb HB hw240_2)))))) (fun hHeld=>?_);refine with_tabW spec_PartnerRight.tab7 spec_PartnerRight.bits7 (fun HT_ HW_=>?_)
               generalize w69.drew=w70 at BK234 BK239 HB hx240_0 hx240_1 hx240_2 hHeld ⊢
               refine pz1 0 ?_;refine pz1 2 ?_;refine ta 1 ?_;refine ta 3 ?_;refine pz3 4 ?_;refine pz1 8 ?_;refine ta 7 ?_;refine ta 9 ?_;refine pz4 10 ?_;refine pz1 14 ?_;refine ta 15 ?_;refine pz4 16 ?_;refine pz3 20 ?_;refine pz1 24 ?_;refine pz2 26 ?_;refine ta 23 ?_;refine ta 25 ?_;refine pz2 28 ?_;refine ta 30 ?_;refine pz4 31 ?_;refine pz1 35 ?_;refine ta 36 ?_;refine oA 37 76 HT_ (fun K hK=>?_);refine gA Tryz.func118 #[.int .i64 ((rd_T155 l0_3 x3_2).f1)] ?_;(with_reducible refine (spec_l01Control.calls ((rd_T155 l0_3 x3_2).f1) true _ A49.out).mono ?_);rintro e w' ⟨rfl,⟨nd,rfl⟩⟩;refine ⟨_,rfl,?_⟩;refine hK.out _ _ (hb3a BK239 (hb4a BK234 (hca (cb HB hw240_0) (hca (cb HB hw240_1) (hc (cb HB hw240_2)))))).out (fun hHeld=>?_);clear hK K;refine nA 76 ?_;refine pz4 38 ?_;refine ta 42 ?_;refine pz4 43 ?_;refine ta 47 ?_;refine pz2 48 ?_;refine done_ (done_of HT_.out (by kernel_rfl)) ?_
               try go_wp2
               go_roundg k2
               case measure=>have:=HJ1.out;have:=HK2.out;omega
               case rel=>exact ⟨(wrap64 (x3_2+1)),fg,H',⟨by have:=HJ1.out;have:=HK2.out;omega⟩,⟨ks BK234⟩,⟨bs HB⟩⟩
            ·replace H:=itF H;obtain rfl:=si H;have hcz71:=cf4 BK234;have p238:0≤(x3_2:Int):=oa;have q238:x3_2<(l0_3.length:Int):=oa;obtain ⟨ad238,e238,hx238_0,hx238_1,hx238_2⟩:=at_T155 HR0_3.out x3_2 p238 q238
             cases e238
             replace hx238_0:=cb HB hx238_0;replace hx238_1:=cb HB hx238_1;replace hx238_2:=cb HB hx238_2;replace p238:=eq_true p238;replace q238:=eq_true q238
             try go_wp2_with (first|((with_reducible refine gate_dst (N:=4) rfl ?_);(try (refine gate_guard (by rfl) ?_;dsimp only));refine bz 4 (cs:=#[.int .i64 0,.int .i64 0,.int .i64 0]) (t:=155) HB ?_;clear HB;intro gb239 hg w72 BK239 GW239 hb HB;have NB234_239:=na hg BK234;have NB239_234:=nc hg BK234;replace BK234:=bb BK234 hb;clear hb hg;have hnb73:=NB239_234.out;have hnc73:=NB234_239.out;have hcz74:=cf3 BK239))
             have n0_:=kz (((w72.setCell ⟨gb239,0,none⟩ (.int .i64 ((rd_T155 l0_3 x3_2).f0))).setCell ⟨gb239,1,none⟩ (.int .i64 ((rd_T155 l0_3 x3_2).f1))).setCell ⟨gb239,2,none⟩ (.int .i64 ((rd_T155 l0_3 x3_2).f2))) BK234;have n1_:Aside0 ((((w72.setCell ⟨gb239,0,none⟩ (.int .i64 ((rd_T155 l0_3 x3_2).f0))).setCell ⟨gb239,1,none⟩ (.int .i64 ((rd_T155 l0_3 x3_2).f1))).setCell ⟨gb239,2,none⟩ (.int .i64 ((rd_T155 l0_3 x3_2).f2))).heap[gb239]? = some (.cells #[.int .i64 ((rd_T155 l0_3 x3_2).f0),.int .i64 ((rd_T155 l0_3 x3_2).f1),.int .i64 ((rd_T155 l0_3 x3_2).f2)] 155 (0,0))):=⟨kp BK239⟩;have n2_:Aside0 (Below w.heap.size w (((w72.setCell ⟨gb239,0,none⟩ (.int .i64 ((rd_T155 l0_3 x3_2).f0))).setCell ⟨gb239,1,none⟩ (.int .i64 ((rd_T155 l0_3 x3_2).f1))).setCell ⟨gb239,2,none⟩ (.int .i64 ((rd_T155 l0_3 x3_2).f2)))):=⟨bs HB⟩;(try clear BK234);(try clear BK239);(try clear HB)
             generalize (((w72.setCell ⟨gb239,0,none⟩ (.int .i64 ((rd_T155 l0_3 x3_2).f0))).setCell ⟨gb239,1,none⟩ (.int .i64 ((rd_T155 l0_3 x3_2).f1))).setCell ⟨gb239,2,none⟩ (.int .i64 ((rd_T155 l0_3 x3_2).f2)))=w75 at n0_ n1_ n2_ ⊢
             have BK234:=n0_;have BK239:=n1_;have HB:=n2_;clear n0_ n1_ n2_;replace BK234:=am (blk_drew BK234.out);replace BK239:=am (blk_drew BK239.out);replace HB:=am (below_drew1 HB.out);have p240:0≤((ji39):Int):=oa;have q240:(ji39)<(l0_3.length:Int):=oa;obtain ⟨ad240,e240,hx240_0,hx240_1,hx240_2⟩:=at_T155 HR0_3.out (ji39) p240 q240;have hw240_2:=hx240_2;have hw240_1:=hx240_1;have hw240_0:=hx240_0;obtain rfl:ad238=ad240:=(by injection e240);replace hx240_0:=cb HB hx240_0;replace hx240_1:=cb HB hx240_1;replace hx240_2:=cb HB hx240_2;replace p240:=eq_true p240;replace q240:=eq_true q240;refine sta 50 (hb3a BK239 (hb4a BK234 (hca (cb HB hw240_0) (hca (cb HB hw240_1) (hc (cb HB hw240_2)))))) (fun hHeld=>?_);refine with_tabW spec_PartnerRight.tab7 spec_PartnerRight.bits7 (fun HT_ HW_=>?_)
             generalize w75.drew=w76 at BK234 BK239 HB hx240_0 hx240_1 hx240_2 hHeld ⊢
             refine pz1 0 ?_;refine pz1 2 ?_;refine ta 1 ?_;refine ta 3 ?_;refine pz3 4 ?_;refine pz1 8 ?_;refine ta 7 ?_;refine ta 9 ?_;refine pz4 10 ?_;refine pz1 14 ?_;refine ta 15 ?_;refine pz4 16 ?_;refine pz3 20 ?_;refine pz1 24 ?_;refine pz2 26 ?_;refine ta 23 ?_;refine ta 25 ?_;refine pz2 28 ?_;refine ta 30 ?_;refine pz4 31 ?_;refine pz1 35 ?_;refine ta 36 ?_;refine oA 37 76 HT_ (fun K hK=>?_);refine gA Tryz.func118 #[.int .i64 ((rd_T155 l0_3 x3_2).f1)] ?_;(with_reducible refine (spec_l01Control.calls ((rd_T155 l0_3 x3_2).f1) false _ A49.out).mono ?_);rintro e w' ⟨rfl,⟨nd,rfl⟩⟩;refine ⟨_,rfl,?_⟩;refine hK.out _ _ (hb3a BK239 (hb4a BK234 (hca (cb HB hw240_0) (hca (cb HB hw240_1) (hc (cb HB hw240_2)))))).out (fun hHeld=>?_);clear hK K;refine nA 76 ?_;refine pz8 38 ?_;refine pz4 46 ?_;refine done_ (done_of HT_.out (by kernel_rfl)) ?_
             try go_wp2
             go_ret
             exact ⟨by first|rfl|(simp [errW_none,errW_some] <;> rfl)|(simp only [← hji39];first|rfl|(simp [errW_none,errW_some] <;> rfl))|(simp [*,errW_none,errW_some] <;> rfl),bs HB⟩
          ·intro c38 H;have c38b0:decide (0<x3_2)=false:=decide_eq_false c38;clear c38;replace H:=bo H;obtain ⟨t242,A77,H⟩:=H
           obtain rfl|rfl:=bt t242
           ·replace H:=itT H
            revert H;refine id2 ?_ ?_
            ·intro c79b0 H;obtain rfl:=si H;have hcz80:=cf4 BK234;have p238:0≤(x3_2:Int):=oa;have q238:x3_2<(l0_3.length:Int):=oa;obtain ⟨ad238,e238,hx238_0,hx238_1,hx238_2⟩:=at_T155 HR0_3.out x3_2 p238 q238
             cases e238
             replace hx238_0:=cb HB hx238_0;replace hx238_1:=cb HB hx238_1;replace hx238_2:=cb HB hx238_2;replace p238:=eq_true p238;replace q238:=eq_true q238
             try go_wp2_with (first|((with_reducible refine gate_dst (N:=4) rfl ?_);(try (refine gate_guard (by rfl) ?_;dsimp only));refine bz 4 (cs:=#[.int .i64 0,.int .i64 0,.int .i64 0]) (t:=155) HB ?_;clear HB;intro gb239 hg w81 BK239 GW239 hb HB;have NB234_239:=na hg BK234;have NB239_234:=nc hg BK234;replace BK234:=bb BK234 hb;clear hb hg;have hnb82:=NB239_234.out;have hnc82:=NB234_239.out;have hcz83:=cf3 BK239))
             have n0_:=kz (((w81.setCell ⟨gb239,0,none⟩ (.int .i64 ((rd_T155 l0_3 x3_2).f0))).setCell ⟨gb239,1,none⟩ (.int .i64 ((rd_T155 l0_3 x3_2).f1))).setCell ⟨gb239,2,none⟩ (.int .i64 ((rd_T155 l0_3 x3_2).f2))) BK234;have n1_:Aside0 ((((w81.setCell ⟨gb239,0,none⟩ (.int .i64 ((rd_T155 l0_3 x3_2).f0))).setCell ⟨gb239,1,none⟩ (.int .i64 ((rd_T155 l0_3 x3_2).f1))).setCell ⟨gb239,2,none⟩ (.int .i64 ((rd_T155 l0_3 x3_2).f2))).heap[gb239]? = some (.cells #[.int .i64 ((rd_T155 l0_3 x3_2).f0),.int .i64 ((rd_T155 l0_3 x3_2).f1),.int .i64 ((rd_T155 l0_3 x3_2).f2)] 155 (0,0))):=⟨kp BK239⟩;have n2_:Aside0 (Below w.heap.size w (((w81.setCell ⟨gb239,0,none⟩ (.int .i64 ((rd_T155 l0_3 x3_2).f0))).setCell ⟨gb239,1,none⟩ (.int .i64 ((rd_T155 l0_3 x3_2).f1))).setCell ⟨gb239,2,none⟩ (.int .i64 ((rd_T155 l0_3 x3_2).f2)))):=⟨bs HB⟩;(try clear BK234);(try clear BK239);(try clear HB)
             generalize (((w81.setCell ⟨gb239,0,none⟩ (.int .i64 ((rd_T155 l0_3 x3_2).f0))).setCell ⟨gb239,1,none⟩ (.int .i64 ((rd_T155 l0_3 x3_2).f1))).setCell ⟨gb239,2,none⟩ (.int .i64 ((rd_T155 l0_3 x3_2).f2)))=w84 at n0_ n1_ n2_ ⊢
             have BK234:=n0_;have BK239:=n1_;have HB:=n2_;clear n0_ n1_ n2_;replace BK234:=am (blk_drew BK234.out);replace BK239:=am (blk_drew BK239.out);replace HB:=am (below_drew1 HB.out);refine sta 50 (hb3a BK239 (hb4 BK234)) (fun hHeld=>?_);refine with_tabW spec_PartnerRight.tab7 spec_PartnerRight.bits7 (fun HT_ HW_=>?_)
             generalize w84.drew=w85 at BK234 BK239 HB hHeld ⊢
             refine pz1 0 ?_;refine pz1 2 ?_;refine ta 1 ?_;refine ta 3 ?_;refine pz3 4 ?_;refine pz1 8 ?_;refine ta 7 ?_;refine ta 9 ?_;refine pz4 10 ?_;refine pz1 14 ?_;refine ta 15 ?_;refine pz8 16 ?_;refine pz8 24 ?_;refine pz4 32 ?_;refine ta 36 ?_;refine oA 37 76 HT_ (fun K hK=>?_);refine gA Tryz.func118 #[.int .i64 ((rd_T155 l0_3 x3_2).f1)] ?_;(with_reducible refine (spec_l01Control.calls ((rd_T155 l0_3 x3_2).f1) true _ A77.out).mono ?_);rintro e w' ⟨rfl,⟨nd,rfl⟩⟩;refine ⟨_,rfl,?_⟩;refine hK.out _ _ (hb3a BK239 (hb4 BK234)).out (fun hHeld=>?_);clear hK K;refine nA 76 ?_;refine pz4 38 ?_;refine ta 42 ?_;refine pz4 43 ?_;refine pz3 47 ?_;refine done_ (done_of HT_.out (by kernel_rfl)) ?_
             try go_wp2
             go_ret
             exact ⟨ff,bs HB⟩
            ·intro c79b0 H
             revert H;refine ip2 ?_ ?_
             ·intro c86 H;have c86b0:decide (13<((rd_T155 l0_3 x3_2).f2))=true:=decide_eq_true c86;clear c86;obtain rfl:=si H;have hcz87:=cf4 BK234;have p238:0≤(x3_2:Int):=oa;have q238:x3_2<(l0_3.length:Int):=oa;obtain ⟨ad238,e238,hx238_0,hx238_1,hx238_2⟩:=at_T155 HR0_3.out x3_2 p238 q238
              cases e238
              replace hx238_0:=cb HB hx238_0;replace hx238_1:=cb HB hx238_1;replace hx238_2:=cb HB hx238_2;replace p238:=eq_true p238;replace q238:=eq_true q238
              try go_wp2_with (first|((with_reducible refine gate_dst (N:=4) rfl ?_);(try (refine gate_guard (by rfl) ?_;dsimp only));refine bz 4 (cs:=#[.int .i64 0,.int .i64 0,.int .i64 0]) (t:=155) HB ?_;clear HB;intro gb239 hg w88 BK239 GW239 hb HB;have NB234_239:=na hg BK234;have NB239_234:=nc hg BK234;replace BK234:=bb BK234 hb;clear hb hg;have hnb89:=NB239_234.out;have hnc89:=NB234_239.out;have hcz90:=cf3 BK239))
              have n0_:=kz (((w88.setCell ⟨gb239,0,none⟩ (.int .i64 ((rd_T155 l0_3 x3_2).f0))).setCell ⟨gb239,1,none⟩ (.int .i64 ((rd_T155 l0_3 x3_2).f1))).setCell ⟨gb239,2,none⟩ (.int .i64 ((rd_T155 l0_3 x3_2).f2))) BK234;have n1_:Aside0 ((((w88.setCell ⟨gb239,0,none⟩ (.int .i64 ((rd_T155 l0_3 x3_2).f0))).setCell ⟨gb239,1,none⟩ (.int .i64 ((rd_T155 l0_3 x3_2).f1))).setCell ⟨gb239,2,none⟩ (.int .i64 ((rd_T155 l0_3 x3_2).f2))).heap[gb239]? = some (.cells #[.int .i64 ((rd_T155 l0_3 x3_2).f0),.int .i64 ((rd_T155 l0_3 x3_2).f1),.int .i64 ((rd_T155 l0_3 x3_2).f2)] 155 (0,0))):=⟨kp BK239⟩;have n2_:Aside0 (Below w.heap.size w (((w88.setCell ⟨gb239,0,none⟩ (.int .i64 ((rd_T155 l0_3 x3_2).f0))).setCell ⟨gb239,1,none⟩ (.int .i64 ((rd_T155 l0_3 x3_2).f1))).setCell ⟨gb239,2,none⟩ (.int .i64 ((rd_T155 l0_3 x3_2).f2)))):=⟨bs HB⟩;(try clear BK234);(try clear BK239);(try clear HB)
              generalize (((w88.setCell ⟨gb239,0,none⟩ (.int .i64 ((rd_T155 l0_3 x3_2).f0))).setCell ⟨gb239,1,none⟩ (.int .i64 ((rd_T155 l0_3 x3_2).f1))).setCell ⟨gb239,2,none⟩ (.int .i64 ((rd_T155 l0_3 x3_2).f2)))=w91 at n0_ n1_ n2_ ⊢
              have BK234:=n0_;have BK239:=n1_;have HB:=n2_;clear n0_ n1_ n2_;replace BK234:=am (blk_drew BK234.out);replace BK239:=am (blk_drew BK239.out);replace HB:=am (below_drew1 HB.out);refine sta 50 (hb3a BK239 (hb4 BK234)) (fun hHeld=>?_);refine with_tabW spec_PartnerRight.tab7 spec_PartnerRight.bits7 (fun HT_ HW_=>?_)
              generalize w91.drew=w92 at BK234 BK239 HB hHeld ⊢
              refine pz1 0 ?_;refine pz1 2 ?_;refine ta 1 ?_;refine ta 3 ?_;refine pz3 4 ?_;refine pz1 8 ?_;refine ta 7 ?_;refine ta 9 ?_;refine pz4 10 ?_;refine pz1 14 ?_;refine ta 15 ?_;refine pz8 16 ?_;refine pz8 24 ?_;refine pz4 32 ?_;refine ta 36 ?_;refine oA 37 76 HT_ (fun K hK=>?_);refine gA Tryz.func118 #[.int .i64 ((rd_T155 l0_3 x3_2).f1)] ?_;(with_reducible refine (spec_l01Control.calls ((rd_T155 l0_3 x3_2).f1) true _ A77.out).mono ?_);rintro e w' ⟨rfl,⟨nd,rfl⟩⟩;refine ⟨_,rfl,?_⟩;refine hK.out _ _ (hb3a BK239 (hb4 BK234)).out (fun hHeld=>?_);clear hK K;refine nA 76 ?_;refine pz4 38 ?_;refine ta 42 ?_;refine pz4 43 ?_;refine ta 47 ?_;refine pz2 48 ?_;refine done_ (done_of HT_.out (by kernel_rfl)) ?_
              try go_wp2
              go_ret
              exact ⟨ff,bs HB⟩
             ·intro c86 H;have c86b0:decide (13<((rd_T155 l0_3 x3_2).f2))=false:=decide_eq_false c86;clear c86;have H':=am H;clear H;have hcz93:=cf4 BK234;have p238:0≤(x3_2:Int):=oa;have q238:x3_2<(l0_3.length:Int):=oa;obtain ⟨ad238,e238,hx238_0,hx238_1,hx238_2⟩:=at_T155 HR0_3.out x3_2 p238 q238
              cases e238
              replace hx238_0:=cb HB hx238_0;replace hx238_1:=cb HB hx238_1;replace hx238_2:=cb HB hx238_2;replace p238:=eq_true p238;replace q238:=eq_true q238
              try go_wp2_with (first|((with_reducible refine gate_dst (N:=4) rfl ?_);(try (refine gate_guard (by rfl) ?_;dsimp only));refine bz 4 (cs:=#[.int .i64 0,.int .i64 0,.int .i64 0]) (t:=155) HB ?_;clear HB;intro gb239 hg w94 BK239 GW239 hb HB;have NB234_239:=na hg BK234;have NB239_234:=nc hg BK234;replace BK234:=bb BK234 hb;clear hb hg;have hnb95:=NB239_234.out;have hnc95:=NB234_239.out;have hcz96:=cf3 BK239))
              have n0_:=kz (((w94.setCell ⟨gb239,0,none⟩ (.int .i64 ((rd_T155 l0_3 x3_2).f0))).setCell ⟨gb239,1,none⟩ (.int .i64 ((rd_T155 l0_3 x3_2).f1))).setCell ⟨gb239,2,none⟩ (.int .i64 ((rd_T155 l0_3 x3_2).f2))) BK234;have n1_:Aside0 ((((w94.setCell ⟨gb239,0,none⟩ (.int .i64 ((rd_T155 l0_3 x3_2).f0))).setCell ⟨gb239,1,none⟩ (.int .i64 ((rd_T155 l0_3 x3_2).f1))).setCell ⟨gb239,2,none⟩ (.int .i64 ((rd_T155 l0_3 x3_2).f2))).heap[gb239]? = some (.cells #[.int .i64 ((rd_T155 l0_3 x3_2).f0),.int .i64 ((rd_T155 l0_3 x3_2).f1),.int .i64 ((rd_T155 l0_3 x3_2).f2)] 155 (0,0))):=⟨kp BK239⟩;have n2_:Aside0 (Below w.heap.size w (((w94.setCell ⟨gb239,0,none⟩ (.int .i64 ((rd_T155 l0_3 x3_2).f0))).setCell ⟨gb239,1,none⟩ (.int .i64 ((rd_T155 l0_3 x3_2).f1))).setCell ⟨gb239,2,none⟩ (.int .i64 ((rd_T155 l0_3 x3_2).f2)))):=⟨bs HB⟩;(try clear BK234);(try clear BK239);(try clear HB)
              generalize (((w94.setCell ⟨gb239,0,none⟩ (.int .i64 ((rd_T155 l0_3 x3_2).f0))).setCell ⟨gb239,1,none⟩ (.int .i64 ((rd_T155 l0_3 x3_2).f1))).setCell ⟨gb239,2,none⟩ (.int .i64 ((rd_T155 l0_3 x3_2).f2)))=w97 at n0_ n1_ n2_ ⊢
              have BK234:=n0_;have BK239:=n1_;have HB:=n2_;clear n0_ n1_ n2_;replace BK234:=am (blk_drew BK234.out);replace BK239:=am (blk_drew BK239.out);replace HB:=am (below_drew1 HB.out);refine sta 50 (hb3a BK239 (hb4 BK234)) (fun hHeld=>?_);refine with_tabW spec_PartnerRight.tab7 spec_PartnerRight.bits7 (fun HT_ HW_=>?_)
              generalize w97.drew=w98 at BK234 BK239 HB hHeld ⊢
              refine pz1 0 ?_;refine pz1 2 ?_;refine ta 1 ?_;refine ta 3 ?_;refine pz3 4 ?_;refine pz1 8 ?_;refine ta 7 ?_;refine ta 9 ?_;refine pz4 10 ?_;refine pz1 14 ?_;refine ta 15 ?_;refine pz8 16 ?_;refine pz8 24 ?_;refine pz4 32 ?_;refine ta 36 ?_;refine oA 37 76 HT_ (fun K hK=>?_);refine gA Tryz.func118 #[.int .i64 ((rd_T155 l0_3 x3_2).f1)] ?_;(with_reducible refine (spec_l01Control.calls ((rd_T155 l0_3 x3_2).f1) true _ A77.out).mono ?_);rintro e w' ⟨rfl,⟨nd,rfl⟩⟩;refine ⟨_,rfl,?_⟩;refine hK.out _ _ (hb3a BK239 (hb4 BK234)).out (fun hHeld=>?_);clear hK K;refine nA 76 ?_;refine pz4 38 ?_;refine ta 42 ?_;refine pz4 43 ?_;refine ta 47 ?_;refine pz2 48 ?_;refine done_ (done_of HT_.out (by kernel_rfl)) ?_
              try go_wp2
              go_roundg k2
              case measure=>have:=HJ1.out;have:=HK2.out;omega
              case rel=>exact ⟨(wrap64 (x3_2+1)),fg,H',⟨by have:=HJ1.out;have:=HK2.out;omega⟩,⟨ks BK234⟩,⟨bs HB⟩⟩
           ·replace H:=itF H;obtain rfl:=si H;have hcz99:=cf4 BK234;have p238:0≤(x3_2:Int):=oa;have q238:x3_2<(l0_3.length:Int):=oa;obtain ⟨ad238,e238,hx238_0,hx238_1,hx238_2⟩:=at_T155 HR0_3.out x3_2 p238 q238
            cases e238
            replace hx238_0:=cb HB hx238_0;replace hx238_1:=cb HB hx238_1;replace hx238_2:=cb HB hx238_2;replace p238:=eq_true p238;replace q238:=eq_true q238
            try go_wp2_with (first|((with_reducible refine gate_dst (N:=4) rfl ?_);(try (refine gate_guard (by rfl) ?_;dsimp only));refine bz 4 (cs:=#[.int .i64 0,.int .i64 0,.int .i64 0]) (t:=155) HB ?_;clear HB;intro gb239 hg w100 BK239 GW239 hb HB;have NB234_239:=na hg BK234;have NB239_234:=nc hg BK234;replace BK234:=bb BK234 hb;clear hb hg;have hnb101:=NB239_234.out;have hnc101:=NB234_239.out;have hcz102:=cf3 BK239))
            have n0_:=kz (((w100.setCell ⟨gb239,0,none⟩ (.int .i64 ((rd_T155 l0_3 x3_2).f0))).setCell ⟨gb239,1,none⟩ (.int .i64 ((rd_T155 l0_3 x3_2).f1))).setCell ⟨gb239,2,none⟩ (.int .i64 ((rd_T155 l0_3 x3_2).f2))) BK234;have n1_:Aside0 ((((w100.setCell ⟨gb239,0,none⟩ (.int .i64 ((rd_T155 l0_3 x3_2).f0))).setCell ⟨gb239,1,none⟩ (.int .i64 ((rd_T155 l0_3 x3_2).f1))).setCell ⟨gb239,2,none⟩ (.int .i64 ((rd_T155 l0_3 x3_2).f2))).heap[gb239]? = some (.cells #[.int .i64 ((rd_T155 l0_3 x3_2).f0),.int .i64 ((rd_T155 l0_3 x3_2).f1),.int .i64 ((rd_T155 l0_3 x3_2).f2)] 155 (0,0))):=⟨kp BK239⟩;have n2_:Aside0 (Below w.heap.size w (((w100.setCell ⟨gb239,0,none⟩ (.int .i64 ((rd_T155 l0_3 x3_2).f0))).setCell ⟨gb239,1,none⟩ (.int .i64 ((rd_T155 l0_3 x3_2).f1))).setCell ⟨gb239,2,none⟩ (.int .i64 ((rd_T155 l0_3 x3_2).f2)))):=⟨bs HB⟩;(try clear BK234);(try clear BK239);(try clear HB)
            generalize (((w100.setCell ⟨gb239,0,none⟩ (.int .i64 ((rd_T155 l0_3 x3_2).f0))).setCell ⟨gb239,1,none⟩ (.int .i64 ((rd_T155 l0_3 x3_2).f1))).setCell ⟨gb239,2,none⟩ (.int .i64 ((rd_T155 l0_3 x3_2).f2)))=w103 at n0_ n1_ n2_ ⊢
            have BK234:=n0_;have BK239:=n1_;have HB:=n2_;clear n0_ n1_ n2_;replace BK234:=am (blk_drew BK234.out);replace BK239:=am (blk_drew BK239.out);replace HB:=am (below_drew1 HB.out);refine sta 50 (hb3a BK239 (hb4 BK234)) (fun hHeld=>?_);refine with_tabW spec_PartnerRight.tab7 spec_PartnerRight.bits7 (fun HT_ HW_=>?_)
            generalize w103.drew=w104 at BK234 BK239 HB hHeld ⊢
            refine pz1 0 ?_;refine pz1 2 ?_;refine ta 1 ?_;refine ta 3 ?_;refine pz3 4 ?_;refine pz1 8 ?_;refine ta 7 ?_;refine ta 9 ?_;refine pz4 10 ?_;refine pz1 14 ?_;refine ta 15 ?_;refine pz8 16 ?_;refine pz8 24 ?_;refine pz4 32 ?_;refine ta 36 ?_;refine oA 37 76 HT_ (fun K hK=>?_);refine gA Tryz.func118 #[.int .i64 ((rd_T155 l0_3 x3_2).f1)] ?_;(with_reducible refine (spec_l01Control.calls ((rd_T155 l0_3 x3_2).f1) false _ A77.out).mono ?_);rintro e w' ⟨rfl,⟨nd,rfl⟩⟩;refine ⟨_,rfl,?_⟩;refine hK.out _ _ (hb3a BK239 (hb4 BK234)).out (fun hHeld=>?_);clear hK K;refine nA 76 ?_;refine pz8 38 ?_;refine pz4 46 ?_;refine done_ (done_of HT_.out (by kernel_rfl)) ?_
            try go_wp2
            go_ret
            exact ⟨ff,bs HB⟩
      ·intro c15b0 H;obtain rfl:=si H;have hcz105:=cf4 BK234
       go_wp2
       go_ret
       exact ⟨ff,bs HB⟩
end Go.Proofs.YtomoflpgdbjojaaGreat.QO
