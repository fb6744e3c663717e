-- Merged by a program of this session (wip/tool/pack.py) out of its own texts for this claim.
import Derived.Test.YtomoflpgdbjojaaGreatKFnExactGatePartner16
set_option maxHeartbeats 8000000
set_option maxRecDepth 100000
set_option linter.unusedSimpArgs false
set_option linter.unusedVariables false
namespace Go.Proofs.YtomoflpgdbjojaaGreat.QO
open Go.RowKit Go.Proofs.YtomoflpgdbjojaaGreatW.PrintWords Go.Proofs.YtomoflpgdbjojaaGreatW.PrintLast Go.Proofs.YtomoflpgdbjojaaGreatW.PrintMore
attribute [local go_sem] max2_int min2_int max_two min_two max_three min_three max_four min_four   -- for this text's walks alone
def impl_OutboxRight.T6:Bool × List (List Nat × List Nat):=(true,[([],[]),([0],[0]),([1],[1]),([2,1],[2]),([3],[3]),([4,3],[3,4]),([5,3,3],[3,5]),([6],[6]),([6],[6]),([8,6],[6,8]),([7,9,6],[6,7,9]),([10,6],[6,10]),([6],[6]),([11,12,6,6],[6,11,12]),([13,6],[6,13]),([6,14,3],[3,6,14]),([3,15],[3,15])])
def impl_OutboxRight.B6:List Nat:=[0,1,3,7,15,31,63,127,127,383,1023,2047,127,8191,16383,32767,65535]
theorem impl_OutboxRight.tab6:rtab .any (opsOf Tryz.f86 6)=impl_OutboxRight.T6:=by kernel_rfl
theorem impl_OutboxRight.bits6:waitsOk impl_OutboxRight.T6.2 impl_OutboxRight.B6=true:=by kernel_rfl
theorem impl_OutboxRight.calls (k:Nat) (A0:Option Addr) (c0:Nat) (l0:List (S120)) (r:Bool) (w:World) (hr0:Kd.C k120 w A0 l0.length l0) (hc0:l0.length≤c0) (H:impl_OutboxRight.f k l0=some r) :
  Calls Tryz.prog 86 #[.slice A0 l0.length c0] w fun e w'=>e=.returned (.bool r)∧Below w.heap.size w w':=by
 have hu120:=Tryz.underlying120;have HR0:=am hr0;have HC0:=am hc0;clear hr0 hc0;have HB:=am (Below.refl w.heap.size w);unfold impl_OutboxRight.f at H
 revert H;refine ip2 ?_ ?_
 ·intro c2 H;have c2b0:decide (60<(l0.length:Int))=true:=decide_eq_true c2;have c2b1:decide (60<l0.length)=true:=decide_eq_true (by omega);clear c2;obtain rfl:=si H
  go_in
  go_wp2
  go_ret
  exact ⟨ff,bs HB⟩
 ·intro c2 H;have c2b0:decide (60<(l0.length:Int))=false:=decide_eq_false c2;have c2b1:decide (60<l0.length)=false:=decide_eq_false (by omega);clear c2;have H':=am H;clear H
  go_in
  go_wp2
  go_loopg [10] k (fun kq v10 w'=>∃ (x10_1:Int),v10=.int .i64 x10_1∧Aside0 (impl_OutboxRight.l0 kq l0 l0 (l0.length:Int) x10_1=some r)∧Aside0 (kq≤k)∧Aside0 (Below w.heap.size w w'))
  case atStart=>exact ⟨(0),fg,H',⟨Nat.le_refl _⟩,⟨bs HB⟩⟩
  case round =>
   clear H'
   try clear c2
   try clear c2b0
   try clear c2b1
   obtain ⟨x10_1,rfl,HA,HK1,HB⟩:=hrel
   cases gk with
   | zero=>exact absurd HA.out (by simp [impl_OutboxRight.l0])
   | succ k1 =>
    have H:=HA.out;clear HA;simp only [impl_OutboxRight.l0] at H
    revert H;refine id2 ?_ ?_
    ·intro c3b0 H
     revert H;refine id1 ?_
     intro c4b0 H
     revert H;refine id1 ?_
     intro c5b0 H;replace H:=bo H;obtain ⟨t40,A6,H⟩:=H
     obtain rfl|rfl:=bt t40
     ·replace H:=itT H
      revert H;refine ip2 ?_ ?_
      ·intro c8 H;have c8b0:decide (0<x10_1)=true:=decide_eq_true c8;clear c8;obtain ⟨ji9,hji9⟩:∃ j_:Int,(wrap64 (x10_1 - 1))=j_:=⟨_,rfl⟩
       replace H:(if 0≤(ji9) then (if (ji9)<(l0.length:Int) then ((impl_outOrder.f k1 ((rd_T120 l0 (ji9)).f0) ((rd_T120 l0 (ji9)).f1) ((rd_T120 l0 (ji9)).f2) ((rd_T120 l0 (ji9)).f3) ((rd_T120 l0 (ji9)).f4) ((rd_T120 l0 x10_1).f0) ((rd_T120 l0 x10_1).f1) ((rd_T120 l0 x10_1).f2) ((rd_T120 l0 x10_1).f3) ((rd_T120 l0 x10_1).f4)).bind fun t39=>(if t39≥0 then (some false) else (impl_OutboxRight.l0 k1 l0 l0 (l0.length:Int) (wrap64 (x10_1+1))))) else (none)) else (none))=some r:=by first|(rw [hji9] at H;exact H)|(simp only [hji9] at H ⊢;exact H)
       (try rw [hji9] at A6)
       have hji9w:(IntKind.i64.wrap (x10_1 - 1))=ji9:=(i64_w _).trans hji9
       revert H;refine id1 ?_
       intro c10b0 H
       revert H;refine id1 ?_
       intro c11b0 H;replace H:=bo H;obtain ⟨t39,A12,H⟩:=H
       revert H;refine ip2 ?_ ?_
       ·intro c13 H;have c13b0:decide (0≤t39)=true:=decide_eq_true c13;clear c13;obtain rfl:=si H;have p38:0≤(x10_1:Int):=oa;have q38:x10_1<(l0.length:Int):=oa;obtain ⟨ad38,e38,hx38_0,hx38_1,hx38_2,hx38_3,hx38_4⟩:=at_T120 HR0.out x10_1 p38 q38
        cases e38
        replace hx38_0:=cb HB hx38_0;replace hx38_1:=cb HB hx38_1;replace hx38_2:=cb HB hx38_2;replace hx38_3:=cb HB hx38_3;replace hx38_4:=cb HB hx38_4;replace p38:=eq_true p38;replace q38:=eq_true q38
        try go_wp2_with (first|((with_reducible refine gate_dst (N:=4) rfl ?_);refine bz 4 (cs:=#[.string (⟨#[]⟩:ByteArray),.int .i64 0,.string (⟨#[]⟩:ByteArray),.int .i64 0,.int .i64 0]) (t:=120) HB ?_;clear HB;intro gb36 hg w14 BK36 GW36 hb HB;clear hb hg;have hcz15:=cf5 BK36))
        have n0_:Aside0 ((((((w14.setCell ⟨gb36,0,none⟩ (.string ((rd_T120 l0 x10_1).f0))).setCell ⟨gb36,1,none⟩ (.int .i64 ((rd_T120 l0 x10_1).f1))).setCell ⟨gb36,2,none⟩ (.string ((rd_T120 l0 x10_1).f2))).setCell ⟨gb36,3,none⟩ (.int .i64 ((rd_T120 l0 x10_1).f3))).setCell ⟨gb36,4,none⟩ (.int .i64 ((rd_T120 l0 x10_1).f4))).heap[gb36]? = some (.cells #[.string ((rd_T120 l0 x10_1).f0),.int .i64 ((rd_T120 l0 x10_1).f1),.string ((rd_T120 l0 x10_1).f2),.int .i64 ((rd_T120 l0 x10_1).f3),.int .i64 ((rd_T120 l0 x10_1).f4)] 120 (0,0))):=⟨kp BK36⟩;have n1_:Aside0 (Below w.heap.size w (((((w14.setCell ⟨gb36,0,none⟩ (.string ((rd_T120 l0 x10_1).f0))).setCell ⟨gb36,1,none⟩ (.int .i64 ((rd_T120 l0 x10_1).f1))).setCell ⟨gb36,2,none⟩ (.string ((rd_T120 l0 x10_1).f2))).setCell ⟨gb36,3,none⟩ (.int .i64 ((rd_T120 l0 x10_1).f3))).setCell ⟨gb36,4,none⟩ (.int .i64 ((rd_T120 l0 x10_1).f4)))):=⟨bs HB⟩;(try clear BK36);(try clear HB)
        generalize (((((w14.setCell ⟨gb36,0,none⟩ (.string ((rd_T120 l0 x10_1).f0))).setCell ⟨gb36,1,none⟩ (.int .i64 ((rd_T120 l0 x10_1).f1))).setCell ⟨gb36,2,none⟩ (.string ((rd_T120 l0 x10_1).f2))).setCell ⟨gb36,3,none⟩ (.int .i64 ((rd_T120 l0 x10_1).f3))).setCell ⟨gb36,4,none⟩ (.int .i64 ((rd_T120 l0 x10_1).f4)))=w16 at n0_ n1_ ⊢
        have BK36:=n0_;have HB:=n1_;clear n0_ n1_;replace BK36:=am (blk_drew BK36.out);replace HB:=am (below_drew1 HB.out);have p37:0≤((ji9):Int):=oa;have q37:(ji9)<(l0.length:Int):=oa;obtain ⟨ad37,e37,hx37_0,hx37_1,hx37_2,hx37_3,hx37_4⟩:=at_T120 HR0.out (ji9) p37 q37;have hw37_4:=hx37_4;have hw37_3:=hx37_3;have hw37_2:=hx37_2;have hw37_1:=hx37_1;have hw37_0:=hx37_0;obtain rfl:ad38=ad37:=(by injection e37);replace hx37_0:=cb HB hx37_0;replace hx37_1:=cb HB hx37_1;replace hx37_2:=cb HB hx37_2;replace hx37_3:=cb HB hx37_3;replace hx37_4:=cb HB hx37_4;replace p37:=eq_true p37;replace q37:=eq_true q37;refine sta 17 (hb5a BK36 (hca (cb HB hw37_0) (hca (cb HB hw37_1) (hca (cb HB hw37_2) (hca (cb HB hw37_3) (hc (cb HB hw37_4))))))) (fun hHeld=>?_);refine with_tabW impl_OutboxRight.tab6 impl_OutboxRight.bits6 (fun HT_ HW_=>?_)
        generalize w16.drew=w17 at BK36 HB hx37_0 hx37_1 hx37_2 hx37_3 hx37_4 hHeld ⊢
        refine ta 0 ?_;refine oA 1 16 HT_ (fun K hK=>?_);refine gA Tryz.func132 #[.agg #[.string ((rd_T120 l0 x10_1).f0),.int .i64 ((rd_T120 l0 x10_1).f1),.string ((rd_T120 l0 x10_1).f2),.int .i64 ((rd_T120 l0 x10_1).f3),.int .i64 ((rd_T120 l0 x10_1).f4)]] ?_;(with_reducible refine (impl_isOut.calls k1 ((rd_T120 l0 x10_1).f0) ((rd_T120 l0 x10_1).f1) ((rd_T120 l0 x10_1).f2) ((rd_T120 l0 x10_1).f3) ((rd_T120 l0 x10_1).f4) true _ A6.out).mono ?_);rintro e w18 ⟨rfl,hb⟩;refine ⟨_,rfl,?_⟩;replace BK36:=bb BK36 hb;replace HB:=bq HB hb;(try clear hb);(try clear hb2);(try clear hk);(try clear hi);refine hK.out _ _ (hb5a BK36 (hca (cb HB hw37_0) (hca (cb HB hw37_1) (hca (cb HB hw37_2) (hca (cb HB hw37_3) (hc (cb HB hw37_4))))))).out (fun hHeld=>?_);clear hK K;refine nA 16 ?_;refine pz8 2 ?_;refine pz1 10 ?_;refine ta 11 ?_;refine ta 12 ?_;refine oA 13 28 HT_ (fun K hK=>?_);refine goes_ Tryz.func133 (by kernel_rfl) rfl #[.agg #[.string ((rd_T120 l0 (ji9)).f0),.int .i64 ((rd_T120 l0 (ji9)).f1),.string ((rd_T120 l0 (ji9)).f2),.int .i64 ((rd_T120 l0 (ji9)).f3),.int .i64 ((rd_T120 l0 (ji9)).f4)],.agg #[.string ((rd_T120 l0 x10_1).f0),.int .i64 ((rd_T120 l0 x10_1).f1),.string ((rd_T120 l0 x10_1).f2),.int .i64 ((rd_T120 l0 x10_1).f3),.int .i64 ((rd_T120 l0 x10_1).f4)]] (by rfl) rfl rfl (by (try simp only [List.map_toArray,List.map_cons,List.map_nil]);first|done|(simp only [hji9];rfl)|rfl|(simp only [List.length_drop,List.length_take];rfl)) ?_;(with_reducible refine (impl_outOrder.calls k1 ((rd_T120 l0 (ji9)).f0) ((rd_T120 l0 (ji9)).f1) ((rd_T120 l0 (ji9)).f2) ((rd_T120 l0 (ji9)).f3) ((rd_T120 l0 (ji9)).f4) ((rd_T120 l0 x10_1).f0) ((rd_T120 l0 x10_1).f1) ((rd_T120 l0 x10_1).f2) ((rd_T120 l0 x10_1).f3) ((rd_T120 l0 x10_1).f4) t39 _ A12.out).mono ?_);rintro e w19 ⟨rfl,hb⟩;refine ⟨_,rfl,?_⟩;replace BK36:=bb BK36 hb;replace HB:=bq HB hb;(try clear hb);(try clear hb2);(try clear hk);(try clear hi);refine hK.out _ _ (hb5a BK36 (hca (cb HB hw37_0) (hca (cb HB hw37_1) (hca (cb HB hw37_2) (hca (cb HB hw37_3) (hc (cb HB hw37_4))))))).out (fun hHeld=>?_);clear hK K;refine nA 28 ?_;refine pz3 14 ?_;refine done_ (done_of HT_.out (by kernel_rfl)) ?_
        try go_wp2
        go_ret
        exact ⟨by first|rfl|(simp [errW_none,errW_some] <;> rfl)|(simp only [← hji9];first|rfl|(simp [errW_none,errW_some] <;> rfl))|(simp [*,errW_none,errW_some] <;> rfl),bs HB⟩
       ·intro c13 H;have c13b0:decide (0≤t39)=false:=decide_eq_false c13;clear c13;have H':=am H;clear H;have p38:0≤(x10_1:Int):=oa;have q38:x10_1<(l0.length:Int):=oa;obtain ⟨ad38,e38,hx38_0,hx38_1,hx38_2,hx38_3,hx38_4⟩:=at_T120 HR0.out x10_1 p38 q38
        cases e38
        replace hx38_0:=cb HB hx38_0;replace hx38_1:=cb HB hx38_1;replace hx38_2:=cb HB hx38_2;replace hx38_3:=cb HB hx38_3;replace hx38_4:=cb HB hx38_4;replace p38:=eq_true p38;replace q38:=eq_true q38
        try go_wp2_with (first|((with_reducible refine gate_dst (N:=4) rfl ?_);refine bz 4 (cs:=#[.string (⟨#[]⟩:ByteArray),.int .i64 0,.string (⟨#[]⟩:ByteArray),.int .i64 0,.int .i64 0]) (t:=120) HB ?_;clear HB;intro gb36 hg w20 BK36 GW36 hb HB;clear hb hg;have hcz21:=cf5 BK36))
        have n0_:Aside0 ((((((w20.setCell ⟨gb36,0,none⟩ (.string ((rd_T120 l0 x10_1).f0))).setCell ⟨gb36,1,none⟩ (.int .i64 ((rd_T120 l0 x10_1).f1))).setCell ⟨gb36,2,none⟩ (.string ((rd_T120 l0 x10_1).f2))).setCell ⟨gb36,3,none⟩ (.int .i64 ((rd_T120 l0 x10_1).f3))).setCell ⟨gb36,4,none⟩ (.int .i64 ((rd_T120 l0 x10_1).f4))).heap[gb36]? = some (.cells #[.string ((rd_T120 l0 x10_1).f0),.int .i64 ((rd_T120 l0 x10_1).f1),.string ((rd_T120 l0 x10_1).f2),.int .i64 ((rd_T120 l0 x10_1).f3),.int .i64 ((rd_T120 l0 x10_1).f4)] 120 (0,0))):=⟨kp BK36⟩;have n1_:Aside0 (Below w.heap.size w (((((w20.setCell ⟨gb36,0,none⟩ (.string ((rd_T120 l0 x10_1).f0))).setCell ⟨gb36,1,none⟩ (.int .i64 ((rd_T120 l0 x10_1).f1))).setCell ⟨gb36,2,none⟩ (.string ((rd_T120 l0 x10_1).f2))).setCell ⟨gb36,3,none⟩ (.int .i64 ((rd_T120 l0 x10_1).f3))).setCell ⟨gb36,4,none⟩ (.int .i64 ((rd_T120 l0 x10_1).f4)))):=⟨bs HB⟩;(try clear BK36);(try clear HB)
        generalize (((((w20.setCell ⟨gb36,0,none⟩ (.string ((rd_T120 l0 x10_1).f0))).setCell ⟨gb36,1,none⟩ (.int .i64 ((rd_T120 l0 x10_1).f1))).setCell ⟨gb36,2,none⟩ (.string ((rd_T120 l0 x10_1).f2))).setCell ⟨gb36,3,none⟩ (.int .i64 ((rd_T120 l0 x10_1).f3))).setCell ⟨gb36,4,none⟩ (.int .i64 ((rd_T120 l0 x10_1).f4)))=w22 at n0_ n1_ ⊢
        have BK36:=n0_;have HB:=n1_;clear n0_ n1_;replace BK36:=am (blk_drew BK36.out);replace HB:=am (below_drew1 HB.out);have p37:0≤((ji9):Int):=oa;have q37:(ji9)<(l0.length:Int):=oa;obtain ⟨ad37,e37,hx37_0,hx37_1,hx37_2,hx37_3,hx37_4⟩:=at_T120 HR0.out (ji9) p37 q37;have hw37_4:=hx37_4;have hw37_3:=hx37_3;have hw37_2:=hx37_2;have hw37_1:=hx37_1;have hw37_0:=hx37_0;obtain rfl:ad38=ad37:=(by injection e37);replace hx37_0:=cb HB hx37_0;replace hx37_1:=cb HB hx37_1;replace hx37_2:=cb HB hx37_2;replace hx37_3:=cb HB hx37_3;replace hx37_4:=cb HB hx37_4;replace p37:=eq_true p37;replace q37:=eq_true q37;refine sta 17 (hb5a BK36 (hca (cb HB hw37_0) (hca (cb HB hw37_1) (hca (cb HB hw37_2) (hca (cb HB hw37_3) (hc (cb HB hw37_4))))))) (fun hHeld=>?_);refine with_tabW impl_OutboxRight.tab6 impl_OutboxRight.bits6 (fun HT_ HW_=>?_)
        generalize w22.drew=w23 at BK36 HB hx37_0 hx37_1 hx37_2 hx37_3 hx37_4 hHeld ⊢
        refine ta 0 ?_;refine oA 1 16 HT_ (fun K hK=>?_);refine gA Tryz.func132 #[.agg #[.string ((rd_T120 l0 x10_1).f0),.int .i64 ((rd_T120 l0 x10_1).f1),.string ((rd_T120 l0 x10_1).f2),.int .i64 ((rd_T120 l0 x10_1).f3),.int .i64 ((rd_T120 l0 x10_1).f4)]] ?_;(with_reducible refine (impl_isOut.calls k1 ((rd_T120 l0 x10_1).f0) ((rd_T120 l0 x10_1).f1) ((rd_T120 l0 x10_1).f2) ((rd_T120 l0 x10_1).f3) ((rd_T120 l0 x10_1).f4) true _ A6.out).mono ?_);rintro e w24 ⟨rfl,hb⟩;refine ⟨_,rfl,?_⟩;replace BK36:=bb BK36 hb;replace HB:=bq HB hb;(try clear hb);(try clear hb2);(try clear hk);(try clear hi);refine hK.out _ _ (hb5a BK36 (hca (cb HB hw37_0) (hca (cb HB hw37_1) (hca (cb HB hw37_2) (hca (cb HB hw37_3) (hc (cb HB hw37_4))))))).out (fun hHeld=>?_);clear hK K;refine nA 16 ?_;refine pz8 2 ?_;refine pz1 10 ?_;refine ta 11 ?_;refine ta 12 ?_;refine oA 13 28 HT_ (fun K hK=>?_);refine goes_ Tryz.func133 (by kernel_rfl) rfl #[.agg #[.string ((rd_T120 l0 (ji9)).f0),.int .i64 ((rd_T120 l0 (ji9)).f1),.string ((rd_T120 l0 (ji9)).f2),.int .i64 ((rd_T120 l0 (ji9)).f3),.int .i64 ((rd_T120 l0 (ji9)).f4)],.agg #[.string ((rd_T120 l0 x10_1).f0),.int .i64 ((rd_T120 l0 x10_1).f1),.string ((rd_T120 l0 x10_1).f2),.int .i64 ((rd_T120 l0 x10_1).f3),.int .i64 ((rd_T120 l0 x10_1).f4)]] (by rfl) rfl rfl (by (try simp only [List.map_toArray,List.map_cons,List.map_nil]);first|done|(simp only [hji9];rfl)|rfl|(simp only [List.length_drop,List.length_take];rfl)) ?_;(with_reducible refine (impl_outOrder.calls k1 ((rd_T120 l0 (ji9)).f0) ((rd_T120 l0 (ji9)).f1) ((rd_T120 l0 (ji9)).f2) ((rd_T120 l0 (ji9)).f3) ((rd_T120 l0 (ji9)).f4) ((rd_T120 l0 x10_1).f0) ((rd_T120 l0 x10_1).f1) ((rd_T120 l0 x10_1).f2) ((rd_T120 l0 x10_1).f3) ((rd_T120 l0 x10_1).f4) t39 _ A12.out).mono ?_);rintro e w25 ⟨rfl,hb⟩;refine ⟨_,rfl,?_⟩;replace BK36:=bb BK36 hb;replace HB:=bq HB hb;(try clear hb);(try clear hb2);(try clear hk);(try clear hi);refine hK.out _ _ (hb5a BK36 (hca (cb HB hw37_0) (hca (cb HB hw37_1) (hca (cb HB hw37_2) (hca (cb HB hw37_3) (hc (cb HB hw37_4))))))).out (fun hHeld=>?_);clear hK K;refine nA 28 ?_;refine pz3 14 ?_;refine done_ (done_of HT_.out (by kernel_rfl)) ?_
        try go_wp2
        go_roundg k1
        case measure=>have:=HK1.out;omega
        case rel=>exact ⟨(wrap64 (x10_1+1)),fg,H',⟨by have:=HK1.out;omega⟩,⟨bs HB⟩⟩
      ·intro c8 H;have c8b0:decide (0<x10_1)=false:=decide_eq_false c8;clear c8;have H':=am H;clear H;have p38:0≤(x10_1:Int):=oa;have q38:x10_1<(l0.length:Int):=oa;obtain ⟨ad38,e38,hx38_0,hx38_1,hx38_2,hx38_3,hx38_4⟩:=at_T120 HR0.out x10_1 p38 q38
       cases e38
       replace hx38_0:=cb HB hx38_0;replace hx38_1:=cb HB hx38_1;replace hx38_2:=cb HB hx38_2;replace hx38_3:=cb HB hx38_3;replace hx38_4:=cb HB hx38_4;replace p38:=eq_true p38;replace q38:=eq_true q38
       try go_wp2_with (first|((with_reducible refine gate_dst (N:=4) rfl ?_);refine bz 4 (cs:=#[.string (⟨#[]⟩:ByteArray),.int .i64 0,.string (⟨#[]⟩:ByteArray),.int .i64 0,.int .i64 0]) (t:=120) HB ?_;clear HB;intro gb36 hg w26 BK36 GW36 hb HB;clear hb hg;have hcz27:=cf5 BK36))
       have n0_:Aside0 ((((((w26.setCell ⟨gb36,0,none⟩ (.string ((rd_T120 l0 x10_1).f0))).setCell ⟨gb36,1,none⟩ (.int .i64 ((rd_T120 l0 x10_1).f1))).setCell ⟨gb36,2,none⟩ (.string ((rd_T120 l0 x10_1).f2))).setCell ⟨gb36,3,none⟩ (.int .i64 ((rd_T120 l0 x10_1).f3))).setCell ⟨gb36,4,none⟩ (.int .i64 ((rd_T120 l0 x10_1).f4))).heap[gb36]? = some (.cells #[.string ((rd_T120 l0 x10_1).f0),.int .i64 ((rd_T120 l0 x10_1).f1),.string ((rd_T120 l0 x10_1).f2),.int .i64 ((rd_T120 l0 x10_1).f3),.int .i64 ((rd_T120 l0 x10_1).f4)] 120 (0,0))):=⟨kp BK36⟩;have n1_:Aside0 (Below w.heap.size w (((((w26.setCell ⟨gb36,0,none⟩ (.string ((rd_T120 l0 x10_1).f0))).setCell ⟨gb36,1,none⟩ (.int .i64 ((rd_T120 l0 x10_1).f1))).setCell ⟨gb36,2,none⟩ (.string ((rd_T120 l0 x10_1).f2))).setCell ⟨gb36,3,none⟩ (.int .i64 ((rd_T120 l0 x10_1).f3))).setCell ⟨gb36,4,none⟩ (.int .i64 ((rd_T120 l0 x10_1).f4)))):=⟨bs HB⟩;(try clear BK36);(try clear HB)
       generalize (((((w26.setCell ⟨gb36,0,none⟩ (.string ((rd_T120 l0 x10_1).f0))).setCell ⟨gb36,1,none⟩ (.int .i64 ((rd_T120 l0 x10_1).f1))).setCell ⟨gb36,2,none⟩ (.string ((rd_T120 l0 x10_1).f2))).setCell ⟨gb36,3,none⟩ (.int .i64 ((rd_T120 l0 x10_1).f3))).setCell ⟨gb36,4,none⟩ (.int .i64 ((rd_T120 l0 x10_1).f4)))=w28 at n0_ n1_ ⊢
       have BK36:=n0_;have HB:=n1_;clear n0_ n1_;replace BK36:=am (blk_drew BK36.out);replace HB:=am (below_drew1 HB.out);refine sta 17 (hb5 BK36) (fun hHeld=>?_);refine with_tabW impl_OutboxRight.tab6 impl_OutboxRight.bits6 (fun HT_ HW_=>?_)
       generalize w28.drew=w29 at BK36 HB hHeld ⊢
       refine ta 0 ?_;refine oA 1 16 HT_ (fun K hK=>?_);refine gA Tryz.func132 #[.agg #[.string ((rd_T120 l0 x10_1).f0),.int .i64 ((rd_T120 l0 x10_1).f1),.string ((rd_T120 l0 x10_1).f2),.int .i64 ((rd_T120 l0 x10_1).f3),.int .i64 ((rd_T120 l0 x10_1).f4)]] ?_;(with_reducible refine (impl_isOut.calls k1 ((rd_T120 l0 x10_1).f0) ((rd_T120 l0 x10_1).f1) ((rd_T120 l0 x10_1).f2) ((rd_T120 l0 x10_1).f3) ((rd_T120 l0 x10_1).f4) true _ A6.out).mono ?_);rintro e w30 ⟨rfl,hb⟩;refine ⟨_,rfl,?_⟩;replace BK36:=bb BK36 hb;replace HB:=bq HB hb;(try clear hb);(try clear hb2);(try clear hk);(try clear hi);refine hK.out _ _ (hb5 BK36).out (fun hHeld=>?_);clear hK K;refine nA 16 ?_;refine pz8 2 ?_;refine pz4 10 ?_;refine pz3 14 ?_;refine done_ (done_of HT_.out (by kernel_rfl)) ?_
       try go_wp2
       go_roundg k1
       case measure=>have:=HK1.out;omega
       case rel=>exact ⟨(wrap64 (x10_1+1)),fg,H',⟨by have:=HK1.out;omega⟩,⟨bs HB⟩⟩
     ·replace H:=itF H;obtain rfl:=si H;have p38:0≤(x10_1:Int):=oa;have q38:x10_1<(l0.length:Int):=oa;obtain ⟨ad38,e38,hx38_0,hx38_1,hx38_2,hx38_3,hx38_4⟩:=at_T120 HR0.out x10_1 p38 q38
      cases e38
      replace hx38_0:=cb HB hx38_0;replace hx38_1:=cb HB hx38_1;replace hx38_2:=cb HB hx38_2;replace hx38_3:=cb HB hx38_3;replace hx38_4:=cb HB hx38_4;replace p38:=eq_true p38;replace q38:=eq_true q38
      try go_wp2_with (first|((with_reducible refine gate_dst (N:=4) rfl ?_);refine bz 4 (cs:=#[.string (⟨#[]⟩:ByteArray),.int .i64 0,.string (⟨#[]⟩:ByteArray),.int .i64 0,.int .i64 0]) (t:=120) HB ?_;clear HB;intro gb36 hg w31 BK36 GW36 hb HB;clear hb hg;have hcz32:=cf5 BK36))
      have n0_:Aside0 ((((((w31.setCell ⟨gb36,0,none⟩ (.string ((rd_T120 l0 x10_1).f0))).setCell ⟨gb36,1,none⟩ (.int .i64 ((rd_T120 l0 x10_1).f1))).setCell ⟨gb36,2,none⟩ (.string ((rd_T120 l0 x10_1).f2))).setCell ⟨gb36,3,none⟩ (.int .i64 ((rd_T120 l0 x10_1).f3))).setCell ⟨gb36,4,none⟩ (.int .i64 ((rd_T120 l0 x10_1).f4))).heap[gb36]? = some (.cells #[.string ((rd_T120 l0 x10_1).f0),.int .i64 ((rd_T120 l0 x10_1).f1),.string ((rd_T120 l0 x10_1).f2),.int .i64 ((rd_T120 l0 x10_1).f3),.int .i64 ((rd_T120 l0 x10_1).f4)] 120 (0,0))):=⟨kp BK36⟩;have n1_:Aside0 (Below w.heap.size w (((((w31.setCell ⟨gb36,0,none⟩ (.string ((rd_T120 l0 x10_1).f0))).setCell ⟨gb36,1,none⟩ (.int .i64 ((rd_T120 l0 x10_1).f1))).setCell ⟨gb36,2,none⟩ (.string ((rd_T120 l0 x10_1).f2))).setCell ⟨gb36,3,none⟩ (.int .i64 ((rd_T120 l0 x10_1).f3))).setCell ⟨gb36,4,none⟩ (.int .i64 ((rd_T120 l0 x10_1).f4)))):=⟨bs HB⟩;(try clear BK36);(try clear HB)
      generalize (((((w31.setCell ⟨gb36,0,none⟩ (.string ((rd_T120 l0 x10_1).f0))).setCell ⟨gb36,1,none⟩ (.int .i64 ((rd_T120 l0 x10_1).f1))).setCell ⟨gb36,2,none⟩ (.string ((rd_T120 l0 x10_1).f2))).setCell ⟨gb36,3,none⟩ (.int .i64 ((rd_T120 l0 x10_1).f3))).setCell ⟨gb36,4,none⟩ (.int .i64 ((rd_T120 l0 x10_1).f4)))=w33 at n0_ n1_ ⊢
      have BK36:=n0_;have HB:=n1_;clear n0_ n1_;replace BK36:=am (blk_drew BK36.out);replace HB:=am (below_drew1 HB.out);refine sta 17 (hb5 BK36) (fun hHeld=>?_);refine with_tabW impl_OutboxRight.tab6 impl_OutboxRight.bits6 (fun HT_ HW_=>?_)
      generalize w33.drew=w34 at BK36 HB hHeld ⊢
      refine ta 0 ?_;refine oA 1 16 HT_ (fun K hK=>?_);refine gA Tryz.func132 #[.agg #[.string ((rd_T120 l0 x10_1).f0),.int .i64 ((rd_T120 l0 x10_1).f1),.string ((rd_T120 l0 x10_1).f2),.int .i64 ((rd_T120 l0 x10_1).f3),.int .i64 ((rd_T120 l0 x10_1).f4)]] ?_;(with_reducible refine (impl_isOut.calls k1 ((rd_T120 l0 x10_1).f0) ((rd_T120 l0 x10_1).f1) ((rd_T120 l0 x10_1).f2) ((rd_T120 l0 x10_1).f3) ((rd_T120 l0 x10_1).f4) false _ A6.out).mono ?_);rintro e w35 ⟨rfl,hb⟩;refine ⟨_,rfl,?_⟩;replace BK36:=bb BK36 hb;replace HB:=bq HB hb;(try clear hb);(try clear hb2);(try clear hk);(try clear hi);refine hK.out _ _ (hb5 BK36).out (fun hHeld=>?_);clear hK K;refine nA 16 ?_;refine pz8 2 ?_;refine pz4 10 ?_;refine pz3 14 ?_;refine done_ (done_of HT_.out (by kernel_rfl)) ?_
      try go_wp2
      go_ret
      exact ⟨ff,bs HB⟩
    ·intro c3b0 H;obtain rfl:=si H
     go_wp2
     go_ret
     exact ⟨ff,bs HB⟩
def impl_GateRight.T6:Bool × List (List Nat × List Nat):=(true,[([],[]),([0],[0]),([1],[1]),([2,1],[2]),([3],[3]),([4,3],[3,4]),([5,3,3],[3,5]),([6],[6]),([7,6],[6,7]),([6],[6]),([9,6],[6,9]),([6],[6]),([11,6],[6,11]),([10,12,6],[6,10,12]),([13,6],[6,13]),([14,6],[6,14]),([8,15,6],[6,8,15]),([6,16,3],[3,6,16]),([3,17],[3,17])])
def impl_GateRight.B6:List Nat:=[0,1,3,7,15,31,63,127,255,127,639,127,2175,7807,15999,32383,65535,131071,262143]
theorem impl_GateRight.tab6:rtab .any (opsOf Tryz.f31 6)=impl_GateRight.T6:=by kernel_rfl
theorem impl_GateRight.bits6:waitsOk impl_GateRight.T6.2 impl_GateRight.B6=true:=by kernel_rfl
theorem impl_GateRight.calls (k:Nat) (a0_0:ByteArray) (a0_1:Int) (A0_2:Option Addr) (c0_2:Nat) (l0_2:List (S83)) (A0_3:Option Addr) (c0_3:Nat) (l0_3:List (S114)) (A0_4:Option Addr) (c0_4:Nat) (l0_4:List (S152)) (A0_5:Option Addr) (c0_5:Nat) (l0_5:List (S161)) (A0_6:Option Addr) (c0_6:Nat) (l0_6:List (S118)) (A0_7:Option Addr) (c0_7:Nat) (l0_7:List (S120)) (r:Bool) (w:World) (hr0_2:Kd.C k83 w A0_2 l0_2.length l0_2) (hc0_2:l0_2.length≤c0_2) (hr0_3:Kd.C k114 w A0_3 l0_3.length l0_3) (hc0_3:l0_3.length≤c0_3) (hr0_4:Kd.C k152 w A0_4 l0_4.length l0_4) (hc0_4:l0_4.length≤c0_4) (hr0_5:Kd.C k161 w A0_5 l0_5.length l0_5) (hc0_5:l0_5.length≤c0_5) (hr0_6:Kd.C k118 w A0_6 l0_6.length l0_6) (hc0_6:l0_6.length≤c0_6) (hr0_7:Kd.C k120 w A0_7 l0_7.length l0_7) (hc0_7:l0_7.length≤c0_7) (H:impl_GateRight.f k a0_0 a0_1 l0_2 l0_3 l0_4 l0_5 l0_6 l0_7=some r) :
  Calls Tryz.prog 31 #[.agg #[.string a0_0,.int .i64 a0_1,.slice A0_2 l0_2.length c0_2,.slice A0_3 l0_3.length c0_3,.slice A0_4 l0_4.length c0_4,.slice A0_5 l0_5.length c0_5,.slice A0_6 l0_6.length c0_6,.slice A0_7 l0_7.length c0_7]] w fun e w'=>e=.returned (.bool r)∧Below w.heap.size w w':=by
 have hu42:=Tryz.underlying42;have hu83:=Tryz.underlying83;have hu38:=Tryz.underlying38;have HR0_2:=am hr0_2;have HC0_2:=am hc0_2;clear hr0_2 hc0_2;have HR0_3:=am hr0_3;have HC0_3:=am hc0_3;clear hr0_3 hc0_3;have HR0_4:=am hr0_4;have HC0_4:=am hc0_4;clear hr0_4 hc0_4;have HR0_5:=am hr0_5;have HC0_5:=am hc0_5;clear hr0_5 hc0_5;have HR0_6:=am hr0_6;have HC0_6:=am hc0_6;clear hr0_6 hc0_6;have HR0_7:=am hr0_7;have HC0_7:=am hc0_7;clear hr0_7 hc0_7;have HB:=am (Below.refl w.heap.size w);unfold impl_GateRight.f at H;have HC2:=am H;clear H
 go_in
 go_upto_region 1 with (first|((with_reducible refine gate_dst (N:=1) rfl ?_);(try (refine gate_guard (by rfl) ?_;dsimp only));refine bz 1 (cs:=#[.string a0_0,.int .i64 a0_1,.slice A0_2 l0_2.length c0_2,.slice A0_3 l0_3.length c0_3,.slice A0_4 l0_4.length c0_4,.slice A0_5 l0_5.length c0_5,.slice A0_6 l0_6.length c0_6,.slice A0_7 l0_7.length c0_7]) (t:=42) HB ?_;clear HB;intro gb62 hg w3 BK62 GW62 hb HB;clear hb hg))
 (try simp only [Act.put,List.setIfInBounds_toArray,List.set_cons_zero,List.set_cons_succ])
 go_cut [26] (fun v26 wc=>∃ (kq:Nat) (x26_1:Bool),v26=.bool x26_1∧Aside0 (impl_GateRight.j0 kq x26_1 a0_0 a0_1 l0_2 l0_3 l0_4 l0_5 l0_6 l0_7=some r)∧Aside0 (kq≤k)∧Aside0 (wc.heap[gb62]? = some (.cells #[.string a0_0,.int .i64 a0_1,(.slice A0_2 l0_2.length c0_2),(.slice A0_3 l0_3.length c0_3),(.slice A0_4 l0_4.length c0_4),(.slice A0_5 l0_5.length c0_5),(.slice A0_6 l0_6.length c0_6),(.slice A0_7 l0_7.length c0_7)] 42 (0,0)))∧Aside0 (Below w.heap.size w wc))
 case first =>
  have H:=HC2.out;clear HC2
  revert H;refine ip2 ?_ ?_
  ·intro c4 H;have c4b0:decide (20<(l0_2.length:Int))=true:=decide_eq_true c4;have c4b1:decide (20<l0_2.length)=true:=decide_eq_true (by omega);clear c4
   (first|rw [c4b0]|(simp only [i64_w,i32_w];rw [c4b0])|rw [c4b1]|skip)
   have H':=am H;clear H;have hcz5:=cf8 BK62
   go_wp2
   go_meet
   case rel=>exact ⟨_,(true),fg,H',⟨fl⟩,⟨ks BK62⟩,⟨bs HB⟩⟩
  ·intro c4 H;have c4b0:decide (20<(l0_2.length:Int))=false:=decide_eq_false c4;have c4b1:decide (20<l0_2.length)=false:=decide_eq_false (by omega);clear c4
   (first|rw [c4b0]|(simp only [i64_w,i32_w];rw [c4b0])|rw [c4b1]|skip)
   revert H;refine ip2 ?_ ?_
   ·intro c6 H;have c6b0:decide (200<(l0_6.length:Int))=true:=decide_eq_true c6;have c6b1:decide (200<l0_6.length)=true:=decide_eq_true (by omega);clear c6;have H':=am H;clear H;have hcz7:=cf8 BK62
    go_wp2
    go_meet
    case rel=>exact ⟨_,(true),fg,H',⟨fl⟩,⟨ks BK62⟩,⟨bs HB⟩⟩
   ·intro c6 H;have c6b0:decide (200<(l0_6.length:Int))=false:=decide_eq_false c6;have c6b1:decide (200<l0_6.length)=false:=decide_eq_false (by omega);clear c6;replace H:=bo H;obtain ⟨t63,A8,H⟩:=H;have hcz9:=cf8 BK62
    try go_wp2_with (fail)
    go_at_call 53;(with_reducible refine (impl_isName.calls k a0_0 t63 _ A8.out).mono ?_);rintro e w' ⟨rfl,⟨nd,rfl⟩⟩
    obtain rfl|rfl:=bt t63
    ·replace H:=itT H;replace H:=bo H;obtain ⟨t65,A11,H⟩:=H;have H':=am H;clear H;have hcz12:=cf8 BK62
     go_wp2_with (first|(go_at_call 82;(with_reducible refine (impl_isDay.calls a0_1 t65 _ A11.out).mono ?_);rintro e w' ⟨rfl,⟨nd,rfl⟩⟩))
     go_meet
     case rel=>exact ⟨_,(!t65),fg,H',⟨fl⟩,⟨ks BK62⟩,⟨bs HB⟩⟩
    ·replace H:=itF H;have H':=am H;clear H
     go_wp2
     go_meet
     case rel=>exact ⟨_,(true),fg,H',⟨fl⟩,⟨ks BK62⟩,⟨bs HB⟩⟩
 case rest =>
  clear HC2
  obtain ⟨kq,x26_1,rfl,HA,HJ1,BK62,HB⟩:=hcut
  cases kq with
  | zero=>exact absurd HA.out (by simp [impl_GateRight.j0])
  | succ kj1 =>
   have H:=HA.out;clear HA;simp only [impl_GateRight.j0] at H
   obtain rfl|rfl:=bt x26_1
   ·replace H:=itT H;obtain rfl:=si H
    go_wp2
    go_ret
    exact ⟨ff,bs HB⟩
   ·replace H:=itF H;have H':=am H;clear H;have hcz14:=cf8 BK62
    go_wp2
    go_loopg [30] kj1 (fun kq v30 w'=>∃ (x30_2:Int),v30=.int .i64 x30_2∧Aside0 (impl_GateRight.l0 kq l0_2 (l0_2.length:Int) x30_2 a0_0 a0_1 l0_2 l0_3 l0_4 l0_5 l0_6 l0_7=some r)∧Aside0 (kq≤kj1)∧Aside0 (w'.heap[gb62]? = some (.cells #[.string a0_0,.int .i64 a0_1,(.slice A0_2 l0_2.length c0_2),(.slice A0_3 l0_3.length c0_3),(.slice A0_4 l0_4.length c0_4),(.slice A0_5 l0_5.length c0_5),(.slice A0_6 l0_6.length c0_6),(.slice A0_7 l0_7.length c0_7)] 42 (0,0)))∧Aside0 (Below w.heap.size w w'))
    case atStart=>exact ⟨(0),fg,H',⟨Nat.le_refl _⟩,⟨ks BK62⟩,⟨bs HB⟩⟩
    case round =>
     clear H'
     try clear hcz14
     try clear BK62
     obtain ⟨x30_2,rfl,HA,HK2,BK62,HB⟩:=hrel
     cases gk with
     | zero=>exact absurd HA.out (by simp [impl_GateRight.l0])
     | succ k2 =>
      have H:=HA.out;clear HA;simp only [impl_GateRight.l0] at H
      revert H;refine id2 ?_ ?_
      ·intro c15b0 H
       revert H;refine id1 ?_
       intro c16b0 H
       revert H;refine id1 ?_
       intro c17b0 H;replace H:=bo H;obtain ⟨t68,A18,H⟩:=H
       obtain rfl|rfl:=bt t68
       ·replace H:=itT H
        revert H;refine ip2 ?_ ?_
        ·intro c20 H;have c20b0:decide (0<x30_2)=true:=decide_eq_true c20;clear c20;obtain ⟨ji21,hji21⟩:∃ j_:Int,(wrap64 (x30_2 - 1))=j_:=⟨_,rfl⟩
         replace H:(if 0≤(ji21) then (if (ji21)<(l0_2.length:Int) then (if ((Op.bytesLess (((rd_T83 l0_2 (ji21)).f0).toList) (((rd_T83 l0_2 x30_2).f0).toList))=true) then (impl_GateRight.l0 k2 l0_2 (l0_2.length:Int) (wrap64 (x30_2+1)) a0_0 a0_1 l0_2 l0_3 l0_4 l0_5 l0_6 l0_7) else (some false)) else (none)) else (none))=some r:=by first|(rw [hji21] at H;exact H)|(simp only [hji21] at H ⊢;exact H)
         (try rw [hji21] at A18)
         have hji21w:(IntKind.i64.wrap (x30_2 - 1))=ji21:=(i64_w _).trans hji21
         revert H;refine id1 ?_
         intro c22b0 H
         revert H;refine id1 ?_
         intro c23b0 H
         revert H;refine ip2 ?_ ?_
         ·intro c24 H;have c24b0:(Op.bytesLess (((rd_T83 l0_2 (ji21)).f0).toList) (((rd_T83 l0_2 x30_2).f0).toList))=true:=c24;clear c24;have H':=am H;clear H;have p56:0≤(x30_2:Int):=oa;have q56:x30_2<(l0_2.length:Int):=oa;obtain ⟨ad56,A56_3,c56_3,e56,hx56_0,hx56_1,hx56_2,hx56_3,hl56_3,hi56_3⟩:=at_T83 HR0_2.out x30_2 p56 q56
          cases e56
          replace hx56_0:=cb HB hx56_0;replace hx56_1:=cb HB hx56_1;replace hx56_2:=cb HB hx56_2;replace hx56_3:=cb HB hx56_3;have HR56_3:=am hi56_3;have HC56_3:=am hl56_3;clear hi56_3 hl56_3;replace p56:=eq_true p56;replace q56:=eq_true q56
          try go_wp2_with (first|((with_reducible refine gate_dst (N:=4) rfl ?_);(try (refine gate_guard (by rfl) ?_;dsimp only));refine bz 4 (cs:=#[.string (⟨#[]⟩:ByteArray),.int .i64 0,.int .i64 0,.slice none 0 0]) (t:=83) HB ?_;clear HB;intro gb60 hg w25 BK60 GW60 hb HB;have NB62_60:=na hg BK62;have NB60_62:=nc hg BK62;replace BK62:=bb BK62 hb;clear hb hg;have hnb26:=NB60_62.out;have hnc26:=NB62_60.out;have hcz27:=cf4 BK60))
          have n0_:=kz ((((w25.setCell ⟨gb60,0,none⟩ (.string ((rd_T83 l0_2 x30_2).f0))).setCell ⟨gb60,1,none⟩ (.int .i64 ((rd_T83 l0_2 x30_2).f1))).setCell ⟨gb60,2,none⟩ (.int .i64 ((rd_T83 l0_2 x30_2).f2))).setCell ⟨gb60,3,none⟩ (.slice A56_3 ((rd_T83 l0_2 x30_2).f3).length c56_3)) BK62;have n1_:Aside0 (((((w25.setCell ⟨gb60,0,none⟩ (.string ((rd_T83 l0_2 x30_2).f0))).setCell ⟨gb60,1,none⟩ (.int .i64 ((rd_T83 l0_2 x30_2).f1))).setCell ⟨gb60,2,none⟩ (.int .i64 ((rd_T83 l0_2 x30_2).f2))).setCell ⟨gb60,3,none⟩ (.slice A56_3 ((rd_T83 l0_2 x30_2).f3).length c56_3)).heap[gb60]? = some (.cells #[.string ((rd_T83 l0_2 x30_2).f0),.int .i64 ((rd_T83 l0_2 x30_2).f1),.int .i64 ((rd_T83 l0_2 x30_2).f2),.slice A56_3 ((rd_T83 l0_2 x30_2).f3).length c56_3] 83 (0,0))):=⟨kp BK60⟩;have n2_:Aside0 (Below w.heap.size w ((((w25.setCell ⟨gb60,0,none⟩ (.string ((rd_T83 l0_2 x30_2).f0))).setCell ⟨gb60,1,none⟩ (.int .i64 ((rd_T83 l0_2 x30_2).f1))).setCell ⟨gb60,2,none⟩ (.int .i64 ((rd_T83 l0_2 x30_2).f2))).setCell ⟨gb60,3,none⟩ (.slice A56_3 ((rd_T83 l0_2 x30_2).f3).length c56_3))):=⟨bs HB⟩;(try clear BK62);(try clear BK60);(try clear HB)
          generalize ((((w25.setCell ⟨gb60,0,none⟩ (.string ((rd_T83 l0_2 x30_2).f0))).setCell ⟨gb60,1,none⟩ (.int .i64 ((rd_T83 l0_2 x30_2).f1))).setCell ⟨gb60,2,none⟩ (.int .i64 ((rd_T83 l0_2 x30_2).f2))).setCell ⟨gb60,3,none⟩ (.slice A56_3 ((rd_T83 l0_2 x30_2).f3).length c56_3))=w28 at n0_ n1_ n2_ ⊢
          have BK62:=n0_;have BK60:=n1_;have HB:=n2_;clear n0_ n1_ n2_;replace BK62:=am (blk_drew BK62.out);replace BK60:=am (blk_drew BK60.out);replace HB:=am (below_drew1 HB.out);have p61:0≤((ji21):Int):=oa;have q61:(ji21)<(l0_2.length:Int):=oa;obtain ⟨ad61,A61_3,c61_3,e61,hx61_0,hx61_1,hx61_2,hx61_3,hl61_3,hi61_3⟩:=at_T83 HR0_2.out (ji21) p61 q61;have hw61_3:=hx61_3;have hw61_2:=hx61_2;have hw61_1:=hx61_1;have hw61_0:=hx61_0;obtain rfl:ad56=ad61:=(by injection e61);replace hx61_0:=cb HB hx61_0;replace hx61_1:=cb HB hx61_1;replace hx61_2:=cb HB hx61_2;replace hx61_3:=cb HB hx61_3;have HR61_3:=am hi61_3;have HC61_3:=am hl61_3;clear hi61_3 hl61_3;replace p61:=eq_true p61;replace q61:=eq_true q61;refine sta 19 (hb4a BK60 (hb8a BK62 (hca (cb HB hw61_0) (hca (cb HB hw61_1) (hca (cb HB hw61_2) (hc (cb HB hw61_3))))))) (fun hHeld=>?_);refine with_tabW impl_GateRight.tab6 impl_GateRight.bits6 (fun HT_ HW_=>?_)
          generalize w28.drew=w29 at BK62 BK60 HB HR61_3 hx61_0 hx61_1 hx61_2 hx61_3 hHeld ⊢
          refine ta 0 ?_;refine oA 1 36 HT_ (fun K hK=>?_);refine gA Tryz.func83 #[.agg #[.string ((rd_T83 l0_2 x30_2).f0),.int .i64 ((rd_T83 l0_2 x30_2).f1),.int .i64 ((rd_T83 l0_2 x30_2).f2),.slice A56_3 ((rd_T83 l0_2 x30_2).f3).length c56_3]] ?_;(with_reducible refine (impl_PartnerRight.calls k2 ((rd_T83 l0_2 x30_2).f0) ((rd_T83 l0_2 x30_2).f1) ((rd_T83 l0_2 x30_2).f2) _ _ ((rd_T83 l0_2 x30_2).f3) true _ ?side1 ?side2 A18.out).mono ?_)
          (case side1=>exact sd (Kd.C_below HR56_3.out HB.out))
          (case side2=>exact HC56_3.out)
          rintro e w30 ⟨rfl,hb⟩;refine ⟨_,rfl,?_⟩;replace BK62:=bb BK62 hb;replace BK60:=bb BK60 hb;replace HB:=bq HB hb;(try clear hb);(try clear hb2);(try clear hk);(try clear hi);refine hK.out _ _ (hb4a BK60 (hb8a BK62 (hca (cb HB hw61_0) (hca (cb HB hw61_1) (hca (cb HB hw61_2) (hc (cb HB hw61_3))))))).out (fun hHeld=>?_);clear hK K;refine nA 36 ?_;refine pz4 2 ?_;refine pz2 6 ?_;refine pz1 9 ?_;refine pz2 11 ?_;refine ta 8 ?_;refine ta 10 ?_;refine pz2 13 ?_;refine ta 15 ?_;refine pz3 16 ?_;refine done_ (done_of HT_.out (by kernel_rfl)) ?_
          try go_wp2
          go_roundg k2
          case measure=>have:=HJ1.out;have:=HK2.out;omega
          case rel=>exact ⟨(wrap64 (x30_2+1)),fg,H',⟨by have:=HJ1.out;have:=HK2.out;omega⟩,⟨ks BK62⟩,⟨bs HB⟩⟩
         ·intro c24 H
          have c24b0:(Op.bytesLess (((rd_T83 l0_2 (ji21)).f0).toList) (((rd_T83 l0_2 x30_2).f0).toList))=false:=by simpa using c24
          clear c24;obtain rfl:=si H;have p56:0≤(x30_2:Int):=oa;have q56:x30_2<(l0_2.length:Int):=oa;obtain ⟨ad56,A56_3,c56_3,e56,hx56_0,hx56_1,hx56_2,hx56_3,hl56_3,hi56_3⟩:=at_T83 HR0_2.out x30_2 p56 q56
          cases e56
          replace hx56_0:=cb HB hx56_0;replace hx56_1:=cb HB hx56_1;replace hx56_2:=cb HB hx56_2;replace hx56_3:=cb HB hx56_3;have HR56_3:=am hi56_3;have HC56_3:=am hl56_3;clear hi56_3 hl56_3;replace p56:=eq_true p56;replace q56:=eq_true q56
          try go_wp2_with (first|((with_reducible refine gate_dst (N:=4) rfl ?_);(try (refine gate_guard (by rfl) ?_;dsimp only));refine bz 4 (cs:=#[.string (⟨#[]⟩:ByteArray),.int .i64 0,.int .i64 0,.slice none 0 0]) (t:=83) HB ?_;clear HB;intro gb60 hg w31 BK60 GW60 hb HB;have NB62_60:=na hg BK62;have NB60_62:=nc hg BK62;replace BK62:=bb BK62 hb;clear hb hg;have hnb32:=NB60_62.out;have hnc32:=NB62_60.out;have hcz33:=cf4 BK60))
          have n0_:=kz ((((w31.setCell ⟨gb60,0,none⟩ (.string ((rd_T83 l0_2 x30_2).f0))).setCell ⟨gb60,1,none⟩ (.int .i64 ((rd_T83 l0_2 x30_2).f1))).setCell ⟨gb60,2,none⟩ (.int .i64 ((rd_T83 l0_2 x30_2).f2))).setCell ⟨gb60,3,none⟩ (.slice A56_3 ((rd_T83 l0_2 x30_2).f3).length c56_3)) BK62;have n1_:Aside0 (((((w31.setCell ⟨gb60,0,none⟩ (.string ((rd_T83 l0_2 x30_2).f0))).setCell ⟨gb60,1,none⟩ (.int .i64 ((rd_T83 l0_2 x30_2).f1))).setCell ⟨gb60,2,none⟩ (.int .i64 ((rd_T83 l0_2 x30_2).f2))).setCell ⟨gb60,3,none⟩ (.slice A56_3 ((rd_T83 l0_2 x30_2).f3).length c56_3)).heap[gb60]? = some (.cells #[.string ((rd_T83 l0_2 x30_2).f0),.int .i64 ((rd_T83 l0_2 x30_2).f1),.int .i64 ((rd_T83 l0_2 x30_2).f2),.slice A56_3 ((rd_T83 l0_2 x30_2).f3).length c56_3] 83 (0,0))):=⟨kp BK60⟩;have n2_:Aside0 (Below w.heap.size w ((((w31.setCell ⟨gb60,0,none⟩ (.string ((rd_T83 l0_2 x30_2).f0))).setCell ⟨gb60,1,none⟩ (.int .i64 ((rd_T83 l0_2 x30_2).f1))).setCell ⟨gb60,2,none⟩ (.int .i64 ((rd_T83 l0_2 x30_2).f2))).setCell ⟨gb60,3,none⟩ (.slice A56_3 ((rd_T83 l0_2 x30_2).f3).length c56_3))):=⟨bs HB⟩;(try clear BK62);(try clear BK60);(try clear HB)
          generalize ((((w31.setCell ⟨gb60,0,none⟩ (.string ((rd_T83 l0_2 x30_2).f0))).setCell ⟨gb60,1,none⟩ (.int .i64 ((rd_T83 l0_2 x30_2).f1))).setCell ⟨gb60,2,none⟩ (.int .i64 ((rd_T83 l0_2 x30_2).f2))).setCell ⟨gb60,3,none⟩ (.slice A56_3 ((rd_T83 l0_2 x30_2).f3).length c56_3))=w34 at n0_ n1_ n2_ ⊢
          have BK62:=n0_;have BK60:=n1_;have HB:=n2_;clear n0_ n1_ n2_;replace BK62:=am (blk_drew BK62.out);replace BK60:=am (blk_drew BK60.out);replace HB:=am (below_drew1 HB.out);have p61:0≤((ji21):Int):=oa;have q61:(ji21)<(l0_2.length:Int):=oa;obtain ⟨ad61,A61_3,c61_3,e61,hx61_0,hx61_1,hx61_2,hx61_3,hl61_3,hi61_3⟩:=at_T83 HR0_2.out (ji21) p61 q61;have hw61_3:=hx61_3;have hw61_2:=hx61_2;have hw61_1:=hx61_1;have hw61_0:=hx61_0;obtain rfl:ad56=ad61:=(by injection e61);replace hx61_0:=cb HB hx61_0;replace hx61_1:=cb HB hx61_1;replace hx61_2:=cb HB hx61_2;replace hx61_3:=cb HB hx61_3;have HR61_3:=am hi61_3;have HC61_3:=am hl61_3;clear hi61_3 hl61_3;replace p61:=eq_true p61;replace q61:=eq_true q61;refine sta 19 (hb4a BK60 (hb8a BK62 (hca (cb HB hw61_0) (hca (cb HB hw61_1) (hca (cb HB hw61_2) (hc (cb HB hw61_3))))))) (fun hHeld=>?_);refine with_tabW impl_GateRight.tab6 impl_GateRight.bits6 (fun HT_ HW_=>?_)
          generalize w34.drew=w35 at BK62 BK60 HB HR61_3 hx61_0 hx61_1 hx61_2 hx61_3 hHeld ⊢
          refine ta 0 ?_;refine oA 1 36 HT_ (fun K hK=>?_);refine gA Tryz.func83 #[.agg #[.string ((rd_T83 l0_2 x30_2).f0),.int .i64 ((rd_T83 l0_2 x30_2).f1),.int .i64 ((rd_T83 l0_2 x30_2).f2),.slice A56_3 ((rd_T83 l0_2 x30_2).f3).length c56_3]] ?_;(with_reducible refine (impl_PartnerRight.calls k2 ((rd_T83 l0_2 x30_2).f0) ((rd_T83 l0_2 x30_2).f1) ((rd_T83 l0_2 x30_2).f2) _ _ ((rd_T83 l0_2 x30_2).f3) true _ ?side1 ?side2 A18.out).mono ?_)
          (case side1=>exact sd (Kd.C_below HR56_3.out HB.out))
          (case side2=>exact HC56_3.out)
          rintro e w36 ⟨rfl,hb⟩;refine ⟨_,rfl,?_⟩;replace BK62:=bb BK62 hb;replace BK60:=bb BK60 hb;replace HB:=bq HB hb;(try clear hb);(try clear hb2);(try clear hk);(try clear hi);refine hK.out _ _ (hb4a BK60 (hb8a BK62 (hca (cb HB hw61_0) (hca (cb HB hw61_1) (hca (cb HB hw61_2) (hc (cb HB hw61_3))))))).out (fun hHeld=>?_);clear hK K;refine nA 36 ?_;refine pz4 2 ?_;refine pz2 6 ?_;refine pz1 9 ?_;refine pz2 11 ?_;refine ta 8 ?_;refine ta 10 ?_;refine pz2 13 ?_;refine ta 15 ?_;refine pz3 16 ?_;refine done_ (done_of HT_.out (by kernel_rfl)) ?_
          try go_wp2
          go_ret
          exact ⟨by first|rfl|(simp [errW_none,errW_some] <;> rfl)|(simp only [← hji21];first|rfl|(simp [errW_none,errW_some] <;> rfl))|(simp [*,errW_none,errW_some] <;> rfl),bs HB⟩
        ·intro c20 H;have c20b0:decide (0<x30_2)=false:=decide_eq_false c20;clear c20;have H':=am H;clear H;have p56:0≤(x30_2:Int):=oa;have q56:x30_2<(l0_2.length:Int):=oa;obtain ⟨ad56,A56_3,c56_3,e56,hx56_0,hx56_1,hx56_2,hx56_3,hl56_3,hi56_3⟩:=at_T83 HR0_2.out x30_2 p56 q56
         cases e56
         replace hx56_0:=cb HB hx56_0;replace hx56_1:=cb HB hx56_1;replace hx56_2:=cb HB hx56_2;replace hx56_3:=cb HB hx56_3;have HR56_3:=am hi56_3;have HC56_3:=am hl56_3;clear hi56_3 hl56_3;replace p56:=eq_true p56;replace q56:=eq_true q56
         try go_wp2_with (first|((with_reducible refine gate_dst (N:=4) rfl ?_);(try (refine gate_guard (by rfl) ?_;dsimp only));refine bz 4 (cs:=#[.string (⟨#[]⟩:ByteArray),.int .i64 0,.int .i64 0,.slice none 0 0]) (t:=83) HB ?_;clear HB;intro gb60 hg w37 BK60 GW60 hb HB;have NB62_60:=na hg BK62;have NB60_62:=nc hg BK62;replace BK62:=bb BK62 hb;clear hb hg;have hnb38:=NB60_62.out;have hnc38:=NB62_60.out;have hcz39:=cf4 BK60))
         have n0_:=kz ((((w37.setCell ⟨gb60,0,none⟩ (.string ((rd_T83 l0_2 x30_2).f0))).setCell ⟨gb60,1,none⟩ (.int .i64 ((rd_T83 l0_2 x30_2).f1))).setCell ⟨gb60,2,none⟩ (.int .i64 ((rd_T83 l0_2 x30_2).f2))).setCell ⟨gb60,3,none⟩ (.slice A56_3 ((rd_T83 l0_2 x30_2).f3).length c56_3)) BK62;have n1_:Aside0 (((((w37.setCell ⟨gb60,0,none⟩ (.string ((rd_T83 l0_2 x30_2).f0))).setCell ⟨gb60,1,none⟩ (.int .i64 ((rd_T83 l0_2 x30_2).f1))).setCell ⟨gb60,2,none⟩ (.int .i64 ((rd_T83 l0_2 x30_2).f2))).setCell ⟨gb60,3,none⟩ (.slice A56_3 ((rd_T83 l0_2 x30_2).f3).length c56_3)).heap[gb60]? = some (.cells #[.string ((rd_T83 l0_2 x30_2).f0),.int .i64 ((rd_T83 l0_2 x30_2).f1),.int .i64 ((rd_T83 l0_2 x30_2).f2),.slice A56_3 ((rd_T83 l0_2 x30_2).f3).length c56_3] 83 (0,0))):=⟨kp BK60⟩;have n2_:Aside0 (Below w.heap.size w ((((w37.setCell ⟨gb60,0,none⟩ (.string ((rd_T83 l0_2 x30_2).f0))).setCell ⟨gb60,1,none⟩ (.int .i64 ((rd_T83 l0_2 x30_2).f1))).setCell ⟨gb60,2,none⟩ (.int .i64 ((rd_T83 l0_2 x30_2).f2))).setCell ⟨gb60,3,none⟩ (.slice A56_3 ((rd_T83 l0_2 x30_2).f3).length c56_3))):=⟨bs HB⟩;(try clear BK62);(try clear BK60);(try clear HB)
         generalize ((((w37.setCell ⟨gb60,0,none⟩ (.string ((rd_T83 l0_2 x30_2).f0))).setCell ⟨gb60,1,none⟩ (.int .i64 ((rd_T83 l0_2 x30_2).f1))).setCell ⟨gb60,2,none⟩ (.int .i64 ((rd_T83 l0_2 x30_2).f2))).setCell ⟨gb60,3,none⟩ (.slice A56_3 ((rd_T83 l0_2 x30_2).f3).length c56_3))=w40 at n0_ n1_ n2_ ⊢
         have BK62:=n0_;have BK60:=n1_;have HB:=n2_;clear n0_ n1_ n2_;replace BK62:=am (blk_drew BK62.out);replace BK60:=am (blk_drew BK60.out);replace HB:=am (below_drew1 HB.out);refine sta 19 (hb4 BK60) (fun hHeld=>?_);refine with_tabW impl_GateRight.tab6 impl_GateRight.bits6 (fun HT_ HW_=>?_)
         generalize w40.drew=w41 at BK62 BK60 HB hHeld ⊢
         refine ta 0 ?_;refine oA 1 36 HT_ (fun K hK=>?_);refine gA Tryz.func83 #[.agg #[.string ((rd_T83 l0_2 x30_2).f0),.int .i64 ((rd_T83 l0_2 x30_2).f1),.int .i64 ((rd_T83 l0_2 x30_2).f2),.slice A56_3 ((rd_T83 l0_2 x30_2).f3).length c56_3]] ?_;(with_reducible refine (impl_PartnerRight.calls k2 ((rd_T83 l0_2 x30_2).f0) ((rd_T83 l0_2 x30_2).f1) ((rd_T83 l0_2 x30_2).f2) _ _ ((rd_T83 l0_2 x30_2).f3) true _ ?side1 ?side2 A18.out).mono ?_)
         (case side1=>exact sd (Kd.C_below HR56_3.out HB.out))
         (case side2=>exact HC56_3.out)
         rintro e w42 ⟨rfl,hb⟩;refine ⟨_,rfl,?_⟩;replace BK62:=bb BK62 hb;replace BK60:=bb BK60 hb;replace HB:=bq HB hb;(try clear hb);(try clear hb2);(try clear hk);(try clear hi);refine hK.out _ _ (hb4 BK60).out (fun hHeld=>?_);clear hK K;refine nA 36 ?_;refine pz8 2 ?_;refine pz8 10 ?_;refine pz1 18 ?_;refine done_ (done_of HT_.out (by kernel_rfl)) ?_
         try go_wp2
         go_roundg k2
         case measure=>have:=HJ1.out;have:=HK2.out;omega
         case rel=>exact ⟨(wrap64 (x30_2+1)),fg,H',⟨by have:=HJ1.out;have:=HK2.out;omega⟩,⟨ks BK62⟩,⟨bs HB⟩⟩
       ·replace H:=itF H;obtain rfl:=si H;have p56:0≤(x30_2:Int):=oa;have q56:x30_2<(l0_2.length:Int):=oa;obtain ⟨ad56,A56_3,c56_3,e56,hx56_0,hx56_1,hx56_2,hx56_3,hl56_3,hi56_3⟩:=at_T83 HR0_2.out x30_2 p56 q56
        cases e56
        replace hx56_0:=cb HB hx56_0;replace hx56_1:=cb HB hx56_1;replace hx56_2:=cb HB hx56_2;replace hx56_3:=cb HB hx56_3;have HR56_3:=am hi56_3;have HC56_3:=am hl56_3;clear hi56_3 hl56_3;replace p56:=eq_true p56;replace q56:=eq_true q56
        try go_wp2_with (first|((with_reducible refine gate_dst (N:=4) rfl ?_);(try (refine gate_guard (by rfl) ?_;dsimp only));refine bz 4 (cs:=#[.string (⟨#[]⟩:ByteArray),.int .i64 0,.int .i64 0,.slice none 0 0]) (t:=83) HB ?_;clear HB;intro gb60 hg w43 BK60 GW60 hb HB;have NB62_60:=na hg BK62;have NB60_62:=nc hg BK62;replace BK62:=bb BK62 hb;clear hb hg;have hnb44:=NB60_62.out;have hnc44:=NB62_60.out;have hcz45:=cf4 BK60))
        have n0_:=kz ((((w43.setCell ⟨gb60,0,none⟩ (.string ((rd_T83 l0_2 x30_2).f0))).setCell ⟨gb60,1,none⟩ (.int .i64 ((rd_T83 l0_2 x30_2).f1))).setCell ⟨gb60,2,none⟩ (.int .i64 ((rd_T83 l0_2 x30_2).f2))).setCell ⟨gb60,3,none⟩ (.slice A56_3 ((rd_T83 l0_2 x30_2).f3).length c56_3)) BK62;have n1_:Aside0 (((((w43.setCell ⟨gb60,0,none⟩ (.string ((rd_T83 l0_2 x30_2).f0))).setCell ⟨gb60,1,none⟩ (.int .i64 ((rd_T83 l0_2 x30_2).f1))).setCell ⟨gb60,2,none⟩ (.int .i64 ((rd_T83 l0_2 x30_2).f2))).setCell ⟨gb60,3,none⟩ (.slice A56_3 ((rd_T83 l0_2 x30_2).f3).length c56_3)).heap[gb60]? = some (.cells #[.string ((rd_T83 l0_2 x30_2).f0),.int .i64 ((rd_T83 l0_2 x30_2).f1),.int .i64 ((rd_T83 l0_2 x30_2).f2),.slice A56_3 ((rd_T83 l0_2 x30_2).f3).length c56_3] 83 (0,0))):=⟨kp BK60⟩;have n2_:Aside0 (Below w.heap.size w ((((w43.setCell ⟨gb60,0,none⟩ (.string ((rd_T83 l0_2 x30_2).f0))).setCell ⟨gb60,1,none⟩ (.int .i64 ((rd_T83 l0_2 x30_2).f1))).setCell ⟨gb60,2,none⟩ (.int .i64 ((rd_T83 l0_2 x30_2).f2))).setCell ⟨gb60,3,none⟩ (.slice A56_3 ((rd_T83 l0_2 x30_2).f3).length c56_3))):=⟨bs HB⟩;(try clear BK62);(try clear BK60);(try clear HB)
        generalize ((((w43.setCell ⟨gb60,0,none⟩ (.string ((rd_T83 l0_2 x30_2).f0))).setCell ⟨gb60,1,none⟩ (.int .i64 ((rd_T83 l0_2 x30_2).f1))).setCell ⟨gb60,2,none⟩ (.int .i64 ((rd_T83 l0_2 x30_2).f2))).setCell ⟨gb60,3,none⟩ (.slice A56_3 ((rd_T83 l0_2 x30_2).f3).length c56_3))=w46 at n0_ n1_ n2_ ⊢
        have BK62:=n0_;have BK60:=n1_;have HB:=n2_;clear n0_ n1_ n2_;replace BK62:=am (blk_drew BK62.out);replace BK60:=am (blk_drew BK60.out);replace HB:=am (below_drew1 HB.out);refine sta 19 (hb4 BK60) (fun hHeld=>?_);refine with_tabW impl_GateRight.tab6 impl_GateRight.bits6 (fun HT_ HW_=>?_)
        generalize w46.drew=w47 at BK62 BK60 HB hHeld ⊢
        refine ta 0 ?_;refine oA 1 36 HT_ (fun K hK=>?_);refine gA Tryz.func83 #[.agg #[.string ((rd_T83 l0_2 x30_2).f0),.int .i64 ((rd_T83 l0_2 x30_2).f1),.int .i64 ((rd_T83 l0_2 x30_2).f2),.slice A56_3 ((rd_T83 l0_2 x30_2).f3).length c56_3]] ?_;(with_reducible refine (impl_PartnerRight.calls k2 ((rd_T83 l0_2 x30_2).f0) ((rd_T83 l0_2 x30_2).f1) ((rd_T83 l0_2 x30_2).f2) _ _ ((rd_T83 l0_2 x30_2).f3) false _ ?side1 ?side2 A18.out).mono ?_)
        (case side1=>exact sd (Kd.C_below HR56_3.out HB.out))
        (case side2=>exact HC56_3.out)
        rintro e w48 ⟨rfl,hb⟩;refine ⟨_,rfl,?_⟩;replace BK62:=bb BK62 hb;replace BK60:=bb BK60 hb;replace HB:=bq HB hb;(try clear hb);(try clear hb2);(try clear hk);(try clear hi);refine hK.out _ _ (hb4 BK60).out (fun hHeld=>?_);clear hK K;refine nA 36 ?_;refine pz8 2 ?_;refine pz8 10 ?_;refine pz1 18 ?_;refine done_ (done_of HT_.out (by kernel_rfl)) ?_
        try go_wp2
        go_ret
        exact ⟨ff,bs HB⟩
      ·intro c15b0 H;replace H:=bo H;obtain ⟨t66,A49,H⟩:=H;have hcz50:=cf8 BK62
       try go_wp2_with (fail)
       go_at_call 84;(with_reducible refine (impl_CrossRight.calls k2 _ _ l0_3 t66 _ (Kd.C_below HR0_3.out (bs HB)) HC0_3.out A49.out).mono ?_);rintro e w51 ⟨rfl,hb⟩;replace BK62:=bb BK62 hb;replace HB:=bq HB hb;(try clear hb);(try clear hb2);(try clear hk);(try clear hi)
       obtain rfl|rfl:=bt t66
       ·replace H:=itT H;replace H:=bo H;obtain ⟨t67,A53,H⟩:=H;have hcz54:=cf8 BK62
        try go_wp2_with (fail)
        go_at_call 85;(with_reducible refine (impl_BookRight.calls k2 _ _ l0_4 _ _ l0_5 t67 _ (Kd.C_below HR0_4.out (bs HB)) HC0_4.out (Kd.C_below HR0_5.out (bs HB)) HC0_5.out A53.out).mono ?_);rintro e w55 ⟨rfl,hb⟩;replace BK62:=bb BK62 hb;replace HB:=bq HB hb;(try clear hb);(try clear hb2);(try clear hk);(try clear hi)
        obtain rfl|rfl:=bt t67
        ·replace H:=itT H;replace H:=bo H;obtain ⟨t69,A57,H⟩:=H;obtain rfl:=si H;have hcz58:=cf8 BK62
         go_wp2_with (first|(go_at_call 86;(with_reducible refine (impl_OutboxRight.calls k2 _ _ l0_7 t69 _ (Kd.C_below HR0_7.out (bs HB)) HC0_7.out A57.out).mono ?_);rintro e w59 ⟨rfl,hb⟩;replace BK62:=bb BK62 hb;replace HB:=bq HB hb;(try clear hb);(try clear hb2);(try clear hk);(try clear hi)))
         go_ret
         exact ⟨ff,bs HB⟩
        ·replace H:=itF H;obtain rfl:=si H
         go_wp2
         go_ret
         exact ⟨ff,bs HB⟩
       ·replace H:=itF H;obtain rfl:=si H
        go_wp2
        go_ret
        exact ⟨ff,bs HB⟩
theorem bytealg_CompareString.calls (a0:ByteArray) (a1:ByteArray) (r:Int) (w:World) (h:bytealg_CompareString.f a0 a1=some r) :
  Calls Tryz.prog 139 #[.string a0,.string a1] w fun e w'=>e=.returned (.int .i64 r)∧Drawn0 w w':=by
 obtain rfl:=Option.some.inj h
 go_in
 go_wp2
 rw [run_callFunc_extern Tryz.func152 (by kernel_rfl) (by kernel_rfl) (by kernel_rfl) (e:=Extern.BytealgCompare.compare) (by kernel_rfl),Lib.run_compareString];simp only [Result.andThen];rw [Oper.upon_value]
 go_wp2
 go_ret
 exact ⟨rfl,Drawn0.refl _⟩
theorem strings_Compare.calls (a0:ByteArray) (a1:ByteArray) (r:Int) (w:World) (H:strings_Compare.f a0 a1=some r) :
  Calls Tryz.prog 108 #[.string a0,.string a1] w fun e w'=>e=.returned (.int .i64 r)∧Drawn0 w w':=by
 unfold strings_Compare.f at H;replace H:=bo H;obtain ⟨t4,A3,H⟩:=H;obtain rfl:=si H
 go_in
 go_wp2_with (first|((first|((with_reducible refine gate_callee (f:=139) rfl ?_);refine goesL_ (some 7) rfl rfl Tryz.func139 (by kernel_rfl) rfl #[.string a0,.string a1] rfl (by (try simp only [List.map_toArray,List.map_cons,List.map_nil]);first|done|rfl|(simp only [List.length_drop,List.length_take];rfl)) ?_;(with_reducible refine (bytealg_CompareString.calls a0 a1 t4 _ A3.out).mono ?_);rintro e w' ⟨rfl,⟨nd,rfl⟩⟩;refine ⟨_,rfl,?_⟩)|(go_at_call 139;(with_reducible refine (bytealg_CompareString.calls a0 a1 t4 _ A3.out).mono ?_);rintro e w' ⟨rfl,⟨nd,rfl⟩⟩))))
 go_ret
 exact ⟨fg,dr⟩
theorem impl_Gate_partner_1.calls (a0_0:ByteArray) (a0_1:Int) (a0_2:Int) (A0_3:Option Addr) (c0_3:Nat) (l0_3:List (S155)) (a1:ByteArray) (r:Int) (w:World) (hr0_3:Kd.C k155 w A0_3 l0_3.length l0_3) (hc0_3:l0_3.length≤c0_3) (H:impl_Gate_partner_1.f a0_0 a0_1 a0_2 l0_3 a1=some r) :
  Calls Tryz.prog 107 #[.agg #[.string a0_0,.int .i64 a0_1,.int .i64 a0_2,.slice A0_3 l0_3.length c0_3],.string a1] w fun e w'=>e=.returned (.int .i64 r)∧Below w.heap.size w w':=by
 have hu83:=Tryz.underlying83;have HR0_3:=am hr0_3;have HC0_3:=am hc0_3;clear hr0_3 hc0_3;have HB:=am (Below.refl w.heap.size w);unfold impl_Gate_partner_1.f at H;replace H:=bo H;obtain ⟨t7,A3,H⟩:=H;obtain rfl:=si H
 go_in
 go_wp2_with (first|((with_reducible refine gate_dst (N:=2) rfl ?_);refine bz 2 (cs:=#[.string a0_0,.int .i64 a0_1,.int .i64 a0_2,.slice A0_3 l0_3.length c0_3]) (t:=83) HB ?_;clear HB;intro gb6 hg w4 BK6 GW6 hb HB;clear hb hg;have hcz5_0:w4.cell? ⟨gb6,0,none⟩=some (.string a0_0):=(blk_cell BK6.out 0).trans rfl;have hcz5_1:w4.cell? ⟨gb6,1,none⟩=some (.int .i64 a0_1):=(blk_cell BK6.out 1).trans rfl;have hcz5_2:w4.cell? ⟨gb6,2,none⟩=some (.int .i64 a0_2):=(blk_cell BK6.out 2).trans rfl;have hcz5_3:w4.cell? ⟨gb6,3,none⟩=some (.slice A0_3 l0_3.length c0_3):=(blk_cell BK6.out 3).trans rfl;have hfz5_0:=blk_frozen BK6.out 0;have hfz5_1:=blk_frozen BK6.out 1;have hfz5_2:=blk_frozen BK6.out 2;have hfz5_3:=blk_frozen BK6.out 3)|((first|((with_reducible refine gate_callee (f:=108) rfl ?_);refine goesL_ (some 8) rfl rfl Tryz.func108 (by kernel_rfl) rfl #[.string a0_0,.string a1] rfl (by (try simp only [List.map_toArray,List.map_cons,List.map_nil]);first|done|rfl|(simp only [List.length_drop,List.length_take];rfl)) ?_;(with_reducible refine (strings_Compare.calls a0_0 a1 t7 _ A3.out).mono ?_);rintro e w' ⟨rfl,⟨nd,rfl⟩⟩;refine ⟨_,rfl,?_⟩)|(go_at_call 108;(with_reducible refine (strings_Compare.calls a0_0 a1 t7 _ A3.out).mono ?_);rintro e w' ⟨rfl,⟨nd,rfl⟩⟩))))
 go_ret
 exact ⟨ff,bs HB⟩
theorem impl_Partner_string_impl_Gate_partner_1.calls (k:Nat) (A0:Option Addr) (c0:Nat) (l0:List (S83)) (a1:ByteArray)  (r1:Int) (r2:Bool) (w:World) (hr0:Kd.C k83 w A0 l0.length l0) (hc0:l0.length≤c0) (H:impl_Partner_string_impl_Gate_partner_1.f k l0 a1=some (r1,r2)) :
  Calls Tryz.prog 106 #[.slice A0 l0.length c0,.string a1,.func (.func 107) #[] #[]] w fun e w'=>e=.returned (.tuple #[.int .i64 r1,.bool r2])∧Below w.heap.size w w':=by
 have hu83:=Tryz.underlying83;have HR0:=am hr0;have HC0:=am hc0;clear hr0 hc0;have HB:=am (Below.refl w.heap.size w);unfold impl_Partner_string_impl_Gate_partner_1.f at H;have H':=am H;clear H
 go_in
 go_wp2
 go_loopg [9,10] k (fun kq v9 v10 w'=>∃ (x9_1:Int) (x10_1:Int),v9=.int .i64 x9_1∧v10=.int .i64 x10_1∧Aside0 (impl_Partner_string_impl_Gate_partner_1.l0 kq l0 a1 (l0.length:Int) x9_1 x10_1=some (r1,r2))∧Aside0 (kq≤k)∧Aside0 (Below w.heap.size w w'))
 case atStart=>exact ⟨(0),((l0.length:Int)),fg,fg,H',⟨Nat.le_refl _⟩,⟨bs HB⟩⟩
 case round =>
  clear H'
  obtain ⟨x9_1,x10_1,rfl,rfl,HA,HK1,HB⟩:=hrel
  cases gk with
  | zero=>exact absurd HA.out (by simp [impl_Partner_string_impl_Gate_partner_1.l0])
  | succ k1 =>
   have H:=HA.out;clear HA;simp only [impl_Partner_string_impl_Gate_partner_1.l0] at H
   revert H;refine id2 ?_ ?_
   ·intro c4b0 H;obtain ⟨ji5,hji5⟩:∃ j_:Int,(wrap64 ((IntKind.u64.wrap (wrap64 (x9_1+x10_1))) / 2))=j_:=⟨_,rfl⟩
    replace H:(if 0≤(ji5) then (if (ji5)<(l0.length:Int) then ((impl_Gate_partner_1.f ((rd_T83 l0 (ji5)).f0) ((rd_T83 l0 (ji5)).f1) ((rd_T83 l0 (ji5)).f2) ((rd_T83 l0 (ji5)).f3) a1).bind fun t18=>(if t18<0 then (impl_Partner_string_impl_Gate_partner_1.l0 k1 l0 a1 (l0.length:Int) (wrap64 ((ji5)+1)) x10_1) else (impl_Partner_string_impl_Gate_partner_1.l0 k1 l0 a1 (l0.length:Int) x9_1 ji5))) else (none)) else (none))=some (r1,r2):=by first|(rw [hji5] at H;exact H)|(simp only [hji5] at H ⊢;exact H)
    have hji5w:(IntKind.i64.wrap ((IntKind.u64.wrap (wrap64 (x9_1+x10_1))) / 2))=ji5:=(i64_w _).trans hji5
    revert H;refine id1 ?_
    intro c6b0 H
    revert H;refine id1 ?_
    intro c7b0 H;replace H:=bo H;obtain ⟨t18,A8,H⟩:=H;have p16:0≤((ji5):Int):=oa;have q16:(ji5)<(l0.length:Int):=oa;obtain ⟨ad16,A16_3,c16_3,e16,hx16_0,hx16_1,hx16_2,hx16_3,hl16_3,hi16_3⟩:=at_T83 HR0.out (ji5) p16 q16
    cases e16
    replace hx16_0:=cb HB hx16_0;replace hx16_1:=cb HB hx16_1;replace hx16_2:=cb HB hx16_2;replace hx16_3:=cb HB hx16_3;have HR16_3:=am hi16_3;have HC16_3:=am hl16_3;clear hi16_3 hl16_3;replace p16:=eq_true p16;replace q16:=eq_true q16
    try go_wp2_with (fail)
    go_at_call 107;(with_reducible refine (impl_Gate_partner_1.calls ((rd_T83 l0 (ji5)).f0) ((rd_T83 l0 (ji5)).f1) ((rd_T83 l0 (ji5)).f2) _ _ ((rd_T83 l0 (ji5)).f3) a1 t18 _ (Kd.C_below HR16_3.out (bs HB)) HC16_3.out A8.out).mono ?_);rintro e w9 ⟨rfl,hb⟩;replace HB:=bq HB hb;(try clear hb);(try clear hb2);(try clear hk);(try clear hi)
    revert H;refine id2 ?_ ?_
    ·intro c10b0 H;have H':=am H;clear H
     go_wp2
     go_roundg k1
     case measure=>have:=HK1.out;omega
     case rel=>exact ⟨(wrap64 ((ji5)+1)),(x10_1),(by first|rfl|(simp;done)|(simp only [← hji5] <;> (first|rfl|simp))|(simp [*];done)),fg,H',⟨by have:=HK1.out;omega⟩,⟨bs HB⟩⟩
    ·intro c10b0 H;have H':=am H;clear H
     go_wp2
     go_roundg k1
     case measure=>have:=HK1.out;omega
     case rel=>exact ⟨(x9_1),(ji5),fg,(by first|rfl|(simp;done)|(simp only [← hji5] <;> (first|rfl|simp))|(simp [*];done)),H',⟨by have:=HK1.out;omega⟩,⟨bs HB⟩⟩
   ·intro c4b0 H
    revert H;refine id2 ?_ ?_
    ·intro c11b0 H
     revert H;refine id1 ?_
     intro c12b0 H
     revert H;refine id1 ?_
     intro c13b0 H;replace H:=bo H;obtain ⟨t19,A14,H⟩:=H;replace H:=sj2 H;obtain ⟨rfl,rfl⟩:=H;have p17:0≤(x9_1:Int):=oa;have q17:x9_1<(l0.length:Int):=oa;obtain ⟨ad17,A17_3,c17_3,e17,hx17_0,hx17_1,hx17_2,hx17_3,hl17_3,hi17_3⟩:=at_T83 HR0.out x9_1 p17 q17
     cases e17
     replace hx17_0:=cb HB hx17_0;replace hx17_1:=cb HB hx17_1;replace hx17_2:=cb HB hx17_2;replace hx17_3:=cb HB hx17_3;have HR17_3:=am hi17_3;have HC17_3:=am hl17_3;clear hi17_3 hl17_3;replace p17:=eq_true p17;replace q17:=eq_true q17
     go_wp2_with (first|(go_at_call 107;(with_reducible refine (impl_Gate_partner_1.calls ((rd_T83 l0 x9_1).f0) ((rd_T83 l0 x9_1).f1) ((rd_T83 l0 x9_1).f2) _ _ ((rd_T83 l0 x9_1).f3) a1 t19 _ (Kd.C_below HR17_3.out (bs HB)) HC17_3.out A14.out).mono ?_);rintro e w15 ⟨rfl,hb⟩;replace HB:=bq HB hb;(try clear hb);(try clear hb2);(try clear hk);(try clear hi)))
     go_ret2
     exact ⟨ff,bs HB⟩
    ·intro c11b0 H;replace H:=sj2 H;obtain ⟨rfl,rfl⟩:=H
     go_wp2
     go_ret2
     exact ⟨ff,bs HB⟩
end Go.Proofs.YtomoflpgdbjojaaGreat.QO
