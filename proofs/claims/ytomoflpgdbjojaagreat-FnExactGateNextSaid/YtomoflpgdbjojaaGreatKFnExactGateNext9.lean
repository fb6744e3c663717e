-- Merged by a program of this session (wip/tool/pack.py) out of its own texts for this claim.
import Derived.Test.YtomoflpgdbjojaaGreatKFnExactGateNext8
set_option maxHeartbeats 8000000
set_option maxRecDepth 100000
set_option linter.unusedSimpArgs false
set_option linter.unusedVariables false
namespace Go.Proofs.YtomoflpgdbjojaaGreat.QN
open Go.RowKit Go.Proofs.YtomoflpgdbjojaaGreatW.PrintWords Go.Proofs.YtomoflpgdbjojaaGreatW.PrintLast Go.Proofs.YtomoflpgdbjojaaGreatW.PrintMore
attribute [local go_sem] max2_int min2_int max_two min_two max_three min_three max_four min_four   -- for this text's walks alone
def spec_CrossRight.T7:Bool × List (List Nat × List Nat):=(true,[([],[]),([0],[0]),([1],[1]),([2],[2]),([3,2],[3]),([4],[4]),([5,4],[4,5]),([6,4,4],[4,6]),([7,4],[4,7]),([4,8],[4,8]),([9,7],[9]),([10],[10]),([11,10],[10,11]),([12,10,10],[10,12]),([13,10],[10,13]),([10,14],[10,14]),([15,13],[15]),([16],[16]),([17,16],[16,17]),([18,16,16],[16,18]),([19],[19]),([19],[19]),([21,19],[19,21]),([20,22,19],[19,20,22]),([23,19],[19,23]),([19],[19]),([24,25,19,19],[19,24,25]),([26,19],[19,26]),([19,27,16],[16,19,27]),([16,28],[16,28])])
def spec_CrossRight.B7:List Nat:=[0,1,3,7,15,31,63,127,255,511,1023,2047,4095,8191,16383,32767,65535,131071,262143,524287,1048575,1048575,3145727,8388607,16777215,1048575,67108863,134217727,268435455,536870911]
theorem spec_CrossRight.tab7:rtab .any (opsOf Tryz.f65 7)=spec_CrossRight.T7:=by kernel_rfl
theorem spec_CrossRight.bits7:waitsOk spec_CrossRight.T7.2 spec_CrossRight.B7=true:=by kernel_rfl
def spec_CrossRight.T12:Bool × List (List Nat × List Nat):=(true,[([],[]),([],[]),([0,1],[0,1]),([2],[2]),([3],[3]),([],[]),([5],[5]),([4,6],[4,6]),([7],[7]),([8],[8]),([8],[8]),([9,10,8],[8,9,10]),([11,8],[8,11]),([12,8],[8,12]),([8],[8]),([14,8],[8,14]),([13,15,8],[8,13,15]),([8,16],[8,16])])
def spec_CrossRight.B12:List Nat:=[0,0,3,7,15,0,32,127,255,511,511,2047,4095,8191,511,16895,65535,131071]
theorem spec_CrossRight.tab12:rtab .any (opsOf Tryz.f65 12)=spec_CrossRight.T12:=by kernel_rfl
theorem spec_CrossRight.bits12:waitsOk spec_CrossRight.T12.2 spec_CrossRight.B12=true:=by kernel_rfl
theorem spec_CrossRight.calls (k:Nat) (A0:Option Addr) (c0:Nat) (l0:List (S114)) (r:Bool) (w:World) (hr0:Kd.C k114 w A0 l0.length l0) (hc0:l0.length≤c0) (H:spec_CrossRight.f k l0=some r) :
  Calls Tryz.prog 65 #[.slice A0 l0.length c0] w fun e w'=>e=.returned (.bool r)∧Below w.heap.size w w':=by
 have hu114:=Tryz.underlying114;have HR0:=am hr0;have HC0:=am hc0;clear hr0 hc0;have HB:=am (Below.refl w.heap.size w);unfold spec_CrossRight.f at H
 revert H;refine ip2 ?_ ?_
 ·intro c2 H;have c2b0:decide (200<(l0.length:Int))=true:=decide_eq_true c2;have c2b1:decide (200<l0.length)=true:=decide_eq_true (by omega);clear c2;obtain rfl:=si H
  go_in
  go_wp2
  go_ret
  exact ⟨ff,bs HB⟩
 ·intro c2 H;have c2b0:decide (200<(l0.length:Int))=false:=decide_eq_false c2;have c2b1:decide (200<l0.length)=false:=decide_eq_false (by omega);clear c2;have H':=am H;clear H
  go_in
  go_wp2
  go_loopg [3] k (fun kq v3 w'=>∃ (x3_1:Int),v3=.int .i64 x3_1∧Aside0 (spec_CrossRight.l0 kq l0 x3_1=some r)∧Aside0 (kq≤k)∧Aside0 (Below w.heap.size w w'))
  case atStart=>exact ⟨(0),fg,H',⟨Nat.le_refl _⟩,⟨bs HB⟩⟩
  case round =>
   clear H'
   try clear c2
   try clear c2b0
   try clear c2b1
   obtain ⟨x3_1,rfl,HA,HK1,HB⟩:=hrel
   cases gk with
   | zero=>exact absurd HA.out (by simp [spec_CrossRight.l0])
   | succ k1 =>
    have H:=HA.out;clear HA;simp only [spec_CrossRight.l0] at H
    revert H;refine id2 ?_ ?_
    ·intro c3b0 H
     revert H;refine id1 ?_
     intro c4b0 H;have HC5:=am H;clear H;have p53:0≤(x3_1:Int):=oa;have q53:x3_1<(l0.length:Int):=oa;obtain ⟨ad53,e53,hx53_0,hx53_1,hx53_2⟩:=at_T114 HR0.out x3_1 p53 q53
     cases e53
     replace hx53_0:=cb HB hx53_0;replace hx53_1:=cb HB hx53_1;replace hx53_2:=cb HB hx53_2;replace p53:=eq_true p53;replace q53:=eq_true q53
     go_upto_region 7 with (first|((with_reducible refine gate_dst (N:=4) rfl ?_);refine bz 4 (cs:=#[.string (⟨#[]⟩:ByteArray),.string (⟨#[]⟩:ByteArray),.string (⟨#[]⟩:ByteArray)]) (t:=114) HB ?_;clear HB;intro gb49 hg w6 BK49 GW49 hb HB;clear hb hg;have hcz7:=cf3 BK49))
     (try simp only [Act.put,List.setIfInBounds_toArray,List.set_cons_zero,List.set_cons_succ])
     go_cut [48] (fun v48 wc=>∃ (kq:Nat) (x48_4:Bool),v48=.bool x48_4∧Aside0 (spec_CrossRight.j1 kq l0 x3_1 x48_4 ((rd_T114 l0 x3_1).f0) ((rd_T114 l0 x3_1).f1) ((rd_T114 l0 x3_1).f2)=some r)∧Aside0 (kq≤k1)∧Aside0 (wc.heap[gb49]? = some (.cells #[.string ((rd_T114 l0 x3_1).f0),.string ((rd_T114 l0 x3_1).f1),.string ((rd_T114 l0 x3_1).f2)] 114 (0,0)))∧Aside0 (Below w.heap.size w wc))
     case first =>
      have H:=HC5.out;clear HC5;replace H:=bo H;obtain ⟨t73,A8,H⟩:=H
      obtain rfl|rfl:=bt t73
      ·replace H:=itT H;replace H:=bo H;obtain ⟨t74,A10,H⟩:=H
       obtain rfl|rfl:=bt t74
       ·replace H:=itT H;replace H:=bo H;obtain ⟨t75,A12,H⟩:=H
        obtain rfl|rfl:=bt t75
        ·replace H:=itT H
         revert H;refine ip2 ?_ ?_
         ·intro c14 H;have c14b0:decide (0<x3_1)=true:=decide_eq_true c14;clear c14
          (first|rw [c14b0]|(simp only [i64_w,i32_w];rw [c14b0])|skip)
          obtain ⟨ji15,hji15⟩:∃ j_:Int,(wrap64 (x3_1 - 1))=j_:=⟨_,rfl⟩
          replace H:(if 0≤(ji15) then (if (ji15)<(l0.length:Int) then ((spec_l08Before.f ((rd_T114 l0 (ji15)).f0) ((rd_T114 l0 (ji15)).f1) ((rd_T114 l0 (ji15)).f2) ((rd_T114 l0 x3_1).f0) ((rd_T114 l0 x3_1).f1) ((rd_T114 l0 x3_1).f2)).bind fun t72=>(spec_CrossRight.j1 k1 l0 x3_1 (!t72) ((rd_T114 l0 x3_1).f0) ((rd_T114 l0 x3_1).f1) ((rd_T114 l0 x3_1).f2))) else (none)) else (none))=some r:=by first|(rw [hji15] at H;exact H)|(simp only [hji15] at H ⊢;exact H)
          (try rw [hji15] at A8)
          (try rw [hji15] at A10)
          (try rw [hji15] at A12)
          have hji15w:(IntKind.i64.wrap (x3_1 - 1))=ji15:=(i64_w _).trans hji15
          revert H;refine id1 ?_
          intro c16b0 H
          revert H;refine id1 ?_
          intro c17b0 H;replace H:=bo H;obtain ⟨t72,A18,H⟩:=H;have H':=am H;clear H
          try go_wp2
          have n0_:Aside0 ((((w6.setCell ⟨gb49,0,none⟩ (.string ((rd_T114 l0 x3_1).f0))).setCell ⟨gb49,1,none⟩ (.string ((rd_T114 l0 x3_1).f1))).setCell ⟨gb49,2,none⟩ (.string ((rd_T114 l0 x3_1).f2))).heap[gb49]? = some (.cells #[.string ((rd_T114 l0 x3_1).f0),.string ((rd_T114 l0 x3_1).f1),.string ((rd_T114 l0 x3_1).f2)] 114 (0,0))):=⟨kp BK49⟩;have n1_:Aside0 (Below w.heap.size w (((w6.setCell ⟨gb49,0,none⟩ (.string ((rd_T114 l0 x3_1).f0))).setCell ⟨gb49,1,none⟩ (.string ((rd_T114 l0 x3_1).f1))).setCell ⟨gb49,2,none⟩ (.string ((rd_T114 l0 x3_1).f2)))):=⟨bs HB⟩;(try clear BK49);(try clear HB)
          generalize (((w6.setCell ⟨gb49,0,none⟩ (.string ((rd_T114 l0 x3_1).f0))).setCell ⟨gb49,1,none⟩ (.string ((rd_T114 l0 x3_1).f1))).setCell ⟨gb49,2,none⟩ (.string ((rd_T114 l0 x3_1).f2)))=w19 at n0_ n1_ ⊢
          have BK49:=n0_;have HB:=n1_;clear n0_ n1_;replace BK49:=am (blk_drew BK49.out);replace HB:=am (below_drew1 HB.out);have p52:0≤((ji15):Int):=oa;have q52:(ji15)<(l0.length:Int):=oa;obtain ⟨ad52,e52,hx52_0,hx52_1,hx52_2⟩:=at_T114 HR0.out (ji15) p52 q52;have hw52_2:=hx52_2;have hw52_1:=hx52_1;have hw52_0:=hx52_0;obtain rfl:ad53=ad52:=(by injection e52);replace hx52_0:=cb HB hx52_0;replace hx52_1:=cb HB hx52_1;replace hx52_2:=cb HB hx52_2;replace p52:=eq_true p52;replace q52:=eq_true q52;refine sta 30 (hb3a BK49 (hca (cb HB hw52_0) (hca (cb HB hw52_1) (hc (cb HB hw52_2))))) (fun hHeld=>?_);refine with_tabW spec_CrossRight.tab7 spec_CrossRight.bits7 (fun HT_ HW_=>?_)
          generalize w19.drew=w20 at BK49 HB hx52_0 hx52_1 hx52_2 hHeld ⊢
          refine pA 0 19 HT_ ?_;refine tA 1 20 HT_ HW_ hHeld ?_;refine oA 2 21 HT_ (fun K hK=>?_);refine gA Tryz.func48 #[.string ((rd_T114 l0 x3_1).f0)] ?_;(with_reducible refine (spec_l01Name.calls k1 ((rd_T114 l0 x3_1).f0) true _ A8.out).mono ?_);rintro e w' ⟨rfl,⟨nd,rfl⟩⟩;refine ⟨_,rfl,?_⟩;refine hK.out _ _ (hb3a BK49 (hca (cb HB hw52_0) (hca (cb HB hw52_1) (hc (cb HB hw52_2))))).out (fun hHeld=>?_);clear hK K;refine nA 21 ?_;refine pA 3 22 HT_ ?_;refine pA 4 23 HT_ ?_;refine pA 5 24 HT_ ?_;refine tA 6 25 HT_ HW_ hHeld ?_;refine oA 7 26 HT_ (fun K hK=>?_);refine gA Tryz.func48 #[.string ((rd_T114 l0 x3_1).f1)] ?_;(with_reducible refine (spec_l01Name.calls k1 ((rd_T114 l0 x3_1).f1) true _ A10.out).mono ?_);rintro e w' ⟨rfl,⟨nd,rfl⟩⟩;refine ⟨_,rfl,?_⟩;refine hK.out _ _ (hb3a BK49 (hca (cb HB hw52_0) (hca (cb HB hw52_1) (hc (cb HB hw52_2))))).out (fun hHeld=>?_);clear hK K;refine nA 26 ?_;refine pA 8 27 HT_ ?_;refine pA 9 28 HT_ ?_;refine pA 10 29 HT_ ?_;refine pA 11 30 HT_ ?_;refine tA 12 31 HT_ HW_ hHeld ?_;refine oA 13 32 HT_ (fun K hK=>?_);refine gA Tryz.func48 #[.string ((rd_T114 l0 x3_1).f2)] ?_;(with_reducible refine (spec_l01Name.calls k1 ((rd_T114 l0 x3_1).f2) true _ A12.out).mono ?_);rintro e w' ⟨rfl,⟨nd,rfl⟩⟩;refine ⟨_,rfl,?_⟩;refine hK.out _ _ (hb3a BK49 (hca (cb HB hw52_0) (hca (cb HB hw52_1) (hc (cb HB hw52_2))))).out (fun hHeld=>?_);clear hK K;refine nA 32 ?_;refine pA 14 33 HT_ ?_;refine pA 15 34 HT_ ?_;refine pA 16 35 HT_ ?_;refine pA 17 36 HT_ ?_;refine pA 18 37 HT_ ?_;refine pA 19 38 HT_ ?_;refine pA 20 39 HT_ ?_;refine pA 21 40 HT_ ?_;refine pA 22 41 HT_ ?_;refine pA 23 42 HT_ ?_;refine tA 24 43 HT_ HW_ hHeld ?_;refine tA 25 44 HT_ HW_ hHeld ?_;refine oA 26 45 HT_ (fun K hK=>?_);refine goes_ Tryz.func114 (by kernel_rfl) rfl #[.agg #[.string ((rd_T114 l0 (ji15)).f0),.string ((rd_T114 l0 (ji15)).f1),.string ((rd_T114 l0 (ji15)).f2)],.agg #[.string ((rd_T114 l0 x3_1).f0),.string ((rd_T114 l0 x3_1).f1),.string ((rd_T114 l0 x3_1).f2)]] (by rfl) rfl rfl (by (try simp only [List.map_toArray,List.map_cons,List.map_nil]);first|done|(simp only [hji15];rfl)|rfl|(simp only [List.length_drop,List.length_take];rfl)) ?_;(with_reducible refine (spec_l08Before.calls ((rd_T114 l0 (ji15)).f0) ((rd_T114 l0 (ji15)).f1) ((rd_T114 l0 (ji15)).f2) ((rd_T114 l0 x3_1).f0) ((rd_T114 l0 x3_1).f1) ((rd_T114 l0 x3_1).f2) t72 _ A18.out).mono ?_);rintro e w21 ⟨rfl,hb⟩;refine ⟨_,rfl,?_⟩;replace BK49:=bb BK49 hb;replace HB:=bq HB hb;(try clear hb);(try clear hb2);(try clear hk);(try clear hi);refine hK.out _ _ (hb3a BK49 (hca (cb HB hw52_0) (hca (cb HB hw52_1) (hc (cb HB hw52_2))))).out (fun hHeld=>?_);clear hK K;refine nA 45 ?_;refine pA 27 46 HT_ ?_;refine pA 28 47 HT_ ?_;refine pA 29 48 HT_ ?_;refine done_ (done_of HT_.out (by kernel_rfl)) ?_
          try go_wp2
          go_meet
          case rel=>exact ⟨_,(!t72),fg,H',⟨by have:=HK1.out;first|omega|exact Nat.le_refl _⟩,⟨ks BK49⟩,⟨bs HB⟩⟩
         ·intro c14 H;have c14b0:decide (0<x3_1)=false:=decide_eq_false c14;clear c14
          (first|rw [c14b0]|(simp only [i64_w,i32_w];rw [c14b0])|skip)
          have H':=am H;clear H
          try go_wp2
          have n0_:Aside0 ((((w6.setCell ⟨gb49,0,none⟩ (.string ((rd_T114 l0 x3_1).f0))).setCell ⟨gb49,1,none⟩ (.string ((rd_T114 l0 x3_1).f1))).setCell ⟨gb49,2,none⟩ (.string ((rd_T114 l0 x3_1).f2))).heap[gb49]? = some (.cells #[.string ((rd_T114 l0 x3_1).f0),.string ((rd_T114 l0 x3_1).f1),.string ((rd_T114 l0 x3_1).f2)] 114 (0,0))):=⟨kp BK49⟩;have n1_:Aside0 (Below w.heap.size w (((w6.setCell ⟨gb49,0,none⟩ (.string ((rd_T114 l0 x3_1).f0))).setCell ⟨gb49,1,none⟩ (.string ((rd_T114 l0 x3_1).f1))).setCell ⟨gb49,2,none⟩ (.string ((rd_T114 l0 x3_1).f2)))):=⟨bs HB⟩;(try clear BK49);(try clear HB)
          generalize (((w6.setCell ⟨gb49,0,none⟩ (.string ((rd_T114 l0 x3_1).f0))).setCell ⟨gb49,1,none⟩ (.string ((rd_T114 l0 x3_1).f1))).setCell ⟨gb49,2,none⟩ (.string ((rd_T114 l0 x3_1).f2)))=w22 at n0_ n1_ ⊢
          have BK49:=n0_;have HB:=n1_;clear n0_ n1_;replace BK49:=am (blk_drew BK49.out);replace HB:=am (below_drew1 HB.out);refine sta 30 (hb3 BK49) (fun hHeld=>?_);refine with_tabW spec_CrossRight.tab7 spec_CrossRight.bits7 (fun HT_ HW_=>?_)
          generalize w22.drew=w23 at BK49 HB hHeld ⊢
          refine pA 0 19 HT_ ?_;refine tA 1 20 HT_ HW_ hHeld ?_;refine oA 2 21 HT_ (fun K hK=>?_);refine gA Tryz.func48 #[.string ((rd_T114 l0 x3_1).f0)] ?_;(with_reducible refine (spec_l01Name.calls k1 ((rd_T114 l0 x3_1).f0) true _ A8.out).mono ?_);rintro e w' ⟨rfl,⟨nd,rfl⟩⟩;refine ⟨_,rfl,?_⟩;refine hK.out _ _ (hb3 BK49).out (fun hHeld=>?_);clear hK K;refine nA 21 ?_;refine pA 3 22 HT_ ?_;refine pA 4 23 HT_ ?_;refine pA 5 24 HT_ ?_;refine tA 6 25 HT_ HW_ hHeld ?_;refine oA 7 26 HT_ (fun K hK=>?_);refine gA Tryz.func48 #[.string ((rd_T114 l0 x3_1).f1)] ?_;(with_reducible refine (spec_l01Name.calls k1 ((rd_T114 l0 x3_1).f1) true _ A10.out).mono ?_);rintro e w' ⟨rfl,⟨nd,rfl⟩⟩;refine ⟨_,rfl,?_⟩;refine hK.out _ _ (hb3 BK49).out (fun hHeld=>?_);clear hK K;refine nA 26 ?_;refine pA 8 27 HT_ ?_;refine pA 9 28 HT_ ?_;refine pA 10 29 HT_ ?_;refine pA 11 30 HT_ ?_;refine tA 12 31 HT_ HW_ hHeld ?_;refine oA 13 32 HT_ (fun K hK=>?_);refine gA Tryz.func48 #[.string ((rd_T114 l0 x3_1).f2)] ?_;(with_reducible refine (spec_l01Name.calls k1 ((rd_T114 l0 x3_1).f2) true _ A12.out).mono ?_);rintro e w' ⟨rfl,⟨nd,rfl⟩⟩;refine ⟨_,rfl,?_⟩;refine hK.out _ _ (hb3 BK49).out (fun hHeld=>?_);clear hK K;refine nA 32 ?_;refine pA 14 33 HT_ ?_;refine pA 15 34 HT_ ?_;refine pA 16 35 HT_ ?_;refine pA 17 36 HT_ ?_;refine pA 18 37 HT_ ?_;refine pA 19 38 HT_ ?_;refine pB 20 39 HT_ ?_;refine pB 21 40 HT_ ?_;refine pB 22 41 HT_ ?_;refine pB 23 42 HT_ ?_;refine pB 24 43 HT_ ?_;refine pB 25 44 HT_ ?_;refine pB 26 45 HT_ ?_;refine pB 27 46 HT_ ?_;refine pA 28 47 HT_ ?_;refine pA 29 48 HT_ ?_;refine done_ (done_of HT_.out (by kernel_rfl)) ?_
          try go_wp2
          go_meet
          case rel=>exact ⟨_,(false),fg,H',⟨by have:=HK1.out;first|omega|exact Nat.le_refl _⟩,⟨ks BK49⟩,⟨bs HB⟩⟩
        ·replace H:=itF H;have H':=am H;clear H
         try go_wp2
         have n0_:Aside0 ((((w6.setCell ⟨gb49,0,none⟩ (.string ((rd_T114 l0 x3_1).f0))).setCell ⟨gb49,1,none⟩ (.string ((rd_T114 l0 x3_1).f1))).setCell ⟨gb49,2,none⟩ (.string ((rd_T114 l0 x3_1).f2))).heap[gb49]? = some (.cells #[.string ((rd_T114 l0 x3_1).f0),.string ((rd_T114 l0 x3_1).f1),.string ((rd_T114 l0 x3_1).f2)] 114 (0,0))):=⟨kp BK49⟩;have n1_:Aside0 (Below w.heap.size w (((w6.setCell ⟨gb49,0,none⟩ (.string ((rd_T114 l0 x3_1).f0))).setCell ⟨gb49,1,none⟩ (.string ((rd_T114 l0 x3_1).f1))).setCell ⟨gb49,2,none⟩ (.string ((rd_T114 l0 x3_1).f2)))):=⟨bs HB⟩;(try clear BK49);(try clear HB)
         generalize (((w6.setCell ⟨gb49,0,none⟩ (.string ((rd_T114 l0 x3_1).f0))).setCell ⟨gb49,1,none⟩ (.string ((rd_T114 l0 x3_1).f1))).setCell ⟨gb49,2,none⟩ (.string ((rd_T114 l0 x3_1).f2)))=w24 at n0_ n1_ ⊢
         have BK49:=n0_;have HB:=n1_;clear n0_ n1_;replace BK49:=am (blk_drew BK49.out);replace HB:=am (below_drew1 HB.out);refine sta 30 (hb3 BK49) (fun hHeld=>?_);refine with_tabW spec_CrossRight.tab7 spec_CrossRight.bits7 (fun HT_ HW_=>?_)
         generalize w24.drew=w25 at BK49 HB hHeld ⊢
         refine pA 0 19 HT_ ?_;refine tA 1 20 HT_ HW_ hHeld ?_;refine oA 2 21 HT_ (fun K hK=>?_);refine gA Tryz.func48 #[.string ((rd_T114 l0 x3_1).f0)] ?_;(with_reducible refine (spec_l01Name.calls k1 ((rd_T114 l0 x3_1).f0) true _ A8.out).mono ?_);rintro e w' ⟨rfl,⟨nd,rfl⟩⟩;refine ⟨_,rfl,?_⟩;refine hK.out _ _ (hb3 BK49).out (fun hHeld=>?_);clear hK K;refine nA 21 ?_;refine pA 3 22 HT_ ?_;refine pA 4 23 HT_ ?_;refine pA 5 24 HT_ ?_;refine tA 6 25 HT_ HW_ hHeld ?_;refine oA 7 26 HT_ (fun K hK=>?_);refine gA Tryz.func48 #[.string ((rd_T114 l0 x3_1).f1)] ?_;(with_reducible refine (spec_l01Name.calls k1 ((rd_T114 l0 x3_1).f1) true _ A10.out).mono ?_);rintro e w' ⟨rfl,⟨nd,rfl⟩⟩;refine ⟨_,rfl,?_⟩;refine hK.out _ _ (hb3 BK49).out (fun hHeld=>?_);clear hK K;refine nA 26 ?_;refine pA 8 27 HT_ ?_;refine pA 9 28 HT_ ?_;refine pA 10 29 HT_ ?_;refine pA 11 30 HT_ ?_;refine tA 12 31 HT_ HW_ hHeld ?_;refine oA 13 32 HT_ (fun K hK=>?_);refine gA Tryz.func48 #[.string ((rd_T114 l0 x3_1).f2)] ?_;(with_reducible refine (spec_l01Name.calls k1 ((rd_T114 l0 x3_1).f2) false _ A12.out).mono ?_);rintro e w' ⟨rfl,⟨nd,rfl⟩⟩;refine ⟨_,rfl,?_⟩;refine hK.out _ _ (hb3 BK49).out (fun hHeld=>?_);clear hK K;refine nA 32 ?_;refine pA 14 33 HT_ ?_;refine pA 15 34 HT_ ?_;refine pA 16 35 HT_ ?_;refine pB 17 36 HT_ ?_;refine pB 18 37 HT_ ?_;refine pB 19 38 HT_ ?_;refine pB 20 39 HT_ ?_;refine pB 21 40 HT_ ?_;refine pB 22 41 HT_ ?_;refine pB 23 42 HT_ ?_;refine pB 24 43 HT_ ?_;refine pB 25 44 HT_ ?_;refine pB 26 45 HT_ ?_;refine pB 27 46 HT_ ?_;refine pB 28 47 HT_ ?_;refine pA 29 48 HT_ ?_;refine done_ (done_of HT_.out (by kernel_rfl)) ?_
         try go_wp2
         go_meet
         case rel=>exact ⟨_,(true),fg,H',⟨by have:=HK1.out;first|omega|exact Nat.le_refl _⟩,⟨ks BK49⟩,⟨bs HB⟩⟩
       ·replace H:=itF H;have H':=am H;clear H
        try go_wp2
        have n0_:Aside0 ((((w6.setCell ⟨gb49,0,none⟩ (.string ((rd_T114 l0 x3_1).f0))).setCell ⟨gb49,1,none⟩ (.string ((rd_T114 l0 x3_1).f1))).setCell ⟨gb49,2,none⟩ (.string ((rd_T114 l0 x3_1).f2))).heap[gb49]? = some (.cells #[.string ((rd_T114 l0 x3_1).f0),.string ((rd_T114 l0 x3_1).f1),.string ((rd_T114 l0 x3_1).f2)] 114 (0,0))):=⟨kp BK49⟩;have n1_:Aside0 (Below w.heap.size w (((w6.setCell ⟨gb49,0,none⟩ (.string ((rd_T114 l0 x3_1).f0))).setCell ⟨gb49,1,none⟩ (.string ((rd_T114 l0 x3_1).f1))).setCell ⟨gb49,2,none⟩ (.string ((rd_T114 l0 x3_1).f2)))):=⟨bs HB⟩;(try clear BK49);(try clear HB)
        generalize (((w6.setCell ⟨gb49,0,none⟩ (.string ((rd_T114 l0 x3_1).f0))).setCell ⟨gb49,1,none⟩ (.string ((rd_T114 l0 x3_1).f1))).setCell ⟨gb49,2,none⟩ (.string ((rd_T114 l0 x3_1).f2)))=w26 at n0_ n1_ ⊢
        have BK49:=n0_;have HB:=n1_;clear n0_ n1_;replace BK49:=am (blk_drew BK49.out);replace HB:=am (below_drew1 HB.out);refine sta 30 (hb3 BK49) (fun hHeld=>?_);refine with_tabW spec_CrossRight.tab7 spec_CrossRight.bits7 (fun HT_ HW_=>?_)
        generalize w26.drew=w27 at BK49 HB hHeld ⊢
        refine pA 0 19 HT_ ?_;refine tA 1 20 HT_ HW_ hHeld ?_;refine oA 2 21 HT_ (fun K hK=>?_);refine gA Tryz.func48 #[.string ((rd_T114 l0 x3_1).f0)] ?_;(with_reducible refine (spec_l01Name.calls k1 ((rd_T114 l0 x3_1).f0) true _ A8.out).mono ?_);rintro e w' ⟨rfl,⟨nd,rfl⟩⟩;refine ⟨_,rfl,?_⟩;refine hK.out _ _ (hb3 BK49).out (fun hHeld=>?_);clear hK K;refine nA 21 ?_;refine pA 3 22 HT_ ?_;refine pA 4 23 HT_ ?_;refine pA 5 24 HT_ ?_;refine tA 6 25 HT_ HW_ hHeld ?_;refine oA 7 26 HT_ (fun K hK=>?_);refine gA Tryz.func48 #[.string ((rd_T114 l0 x3_1).f1)] ?_;(with_reducible refine (spec_l01Name.calls k1 ((rd_T114 l0 x3_1).f1) false _ A10.out).mono ?_);rintro e w' ⟨rfl,⟨nd,rfl⟩⟩;refine ⟨_,rfl,?_⟩;refine hK.out _ _ (hb3 BK49).out (fun hHeld=>?_);clear hK K;refine nA 26 ?_;refine pA 8 27 HT_ ?_;refine pA 9 28 HT_ ?_;refine pA 10 29 HT_ ?_;refine pB 11 30 HT_ ?_;refine pB 12 31 HT_ ?_;refine pB 13 32 HT_ ?_;refine pB 14 33 HT_ ?_;refine pA 15 34 HT_ ?_;refine pA 16 35 HT_ ?_;refine pB 17 36 HT_ ?_;refine pB 18 37 HT_ ?_;refine pB 19 38 HT_ ?_;refine pB 20 39 HT_ ?_;refine pB 21 40 HT_ ?_;refine pB 22 41 HT_ ?_;refine pB 23 42 HT_ ?_;refine pB 24 43 HT_ ?_;refine pB 25 44 HT_ ?_;refine pB 26 45 HT_ ?_;refine pB 27 46 HT_ ?_;refine pB 28 47 HT_ ?_;refine pA 29 48 HT_ ?_;refine done_ (done_of HT_.out (by kernel_rfl)) ?_
        try go_wp2
        go_meet
        case rel=>exact ⟨_,(true),fg,H',⟨by have:=HK1.out;first|omega|exact Nat.le_refl _⟩,⟨ks BK49⟩,⟨bs HB⟩⟩
      ·replace H:=itF H;have H':=am H;clear H
       try go_wp2
       have n0_:Aside0 ((((w6.setCell ⟨gb49,0,none⟩ (.string ((rd_T114 l0 x3_1).f0))).setCell ⟨gb49,1,none⟩ (.string ((rd_T114 l0 x3_1).f1))).setCell ⟨gb49,2,none⟩ (.string ((rd_T114 l0 x3_1).f2))).heap[gb49]? = some (.cells #[.string ((rd_T114 l0 x3_1).f0),.string ((rd_T114 l0 x3_1).f1),.string ((rd_T114 l0 x3_1).f2)] 114 (0,0))):=⟨kp BK49⟩;have n1_:Aside0 (Below w.heap.size w (((w6.setCell ⟨gb49,0,none⟩ (.string ((rd_T114 l0 x3_1).f0))).setCell ⟨gb49,1,none⟩ (.string ((rd_T114 l0 x3_1).f1))).setCell ⟨gb49,2,none⟩ (.string ((rd_T114 l0 x3_1).f2)))):=⟨bs HB⟩;(try clear BK49);(try clear HB)
       generalize (((w6.setCell ⟨gb49,0,none⟩ (.string ((rd_T114 l0 x3_1).f0))).setCell ⟨gb49,1,none⟩ (.string ((rd_T114 l0 x3_1).f1))).setCell ⟨gb49,2,none⟩ (.string ((rd_T114 l0 x3_1).f2)))=w28 at n0_ n1_ ⊢
       have BK49:=n0_;have HB:=n1_;clear n0_ n1_;replace BK49:=am (blk_drew BK49.out);replace HB:=am (below_drew1 HB.out);refine sta 30 (hb3 BK49) (fun hHeld=>?_);refine with_tabW spec_CrossRight.tab7 spec_CrossRight.bits7 (fun HT_ HW_=>?_)
       generalize w28.drew=w29 at BK49 HB hHeld ⊢
       refine pA 0 19 HT_ ?_;refine tA 1 20 HT_ HW_ hHeld ?_;refine oA 2 21 HT_ (fun K hK=>?_);refine gA Tryz.func48 #[.string ((rd_T114 l0 x3_1).f0)] ?_;(with_reducible refine (spec_l01Name.calls k1 ((rd_T114 l0 x3_1).f0) false _ A8.out).mono ?_);rintro e w' ⟨rfl,⟨nd,rfl⟩⟩;refine ⟨_,rfl,?_⟩;refine hK.out _ _ (hb3 BK49).out (fun hHeld=>?_);clear hK K;refine nA 21 ?_;refine pA 3 22 HT_ ?_;refine pA 4 23 HT_ ?_;refine pB 5 24 HT_ ?_;refine pB 6 25 HT_ ?_;refine pB 7 26 HT_ ?_;refine pB 8 27 HT_ ?_;refine pA 9 28 HT_ ?_;refine pA 10 29 HT_ ?_;refine pB 11 30 HT_ ?_;refine pB 12 31 HT_ ?_;refine pB 13 32 HT_ ?_;refine pB 14 33 HT_ ?_;refine pA 15 34 HT_ ?_;refine pA 16 35 HT_ ?_;refine pB 17 36 HT_ ?_;refine pB 18 37 HT_ ?_;refine pB 19 38 HT_ ?_;refine pB 20 39 HT_ ?_;refine pB 21 40 HT_ ?_;refine pB 22 41 HT_ ?_;refine pB 23 42 HT_ ?_;refine pB 24 43 HT_ ?_;refine pB 25 44 HT_ ?_;refine pB 26 45 HT_ ?_;refine pB 27 46 HT_ ?_;refine pB 28 47 HT_ ?_;refine pA 29 48 HT_ ?_;refine done_ (done_of HT_.out (by kernel_rfl)) ?_
       try go_wp2
       go_meet
       case rel=>exact ⟨_,(true),fg,H',⟨by have:=HK1.out;first|omega|exact Nat.le_refl _⟩,⟨ks BK49⟩,⟨bs HB⟩⟩
     case rest =>
      clear HC5
      obtain ⟨kq,x48_4,rfl,HA,HJ4,BK49,HB⟩:=hcut
      cases kq with
      | zero=>exact absurd HA.out (by simp [spec_CrossRight.j1])
      | succ kj4 =>
       have H:=HA.out;clear HA;simp only [spec_CrossRight.j1] at H
       obtain rfl|rfl:=bt x48_4
       ·replace H:=itT H;obtain rfl:=si H
        go_wp2
        go_ret
        exact ⟨ff,bs HB⟩
       ·replace H:=itF H;have H':=am H;clear H
        go_wp2
        go_loopg [5] kj4 (fun kq v5 w'=>∃ (x5_3:Int),v5=.int .i64 x5_3∧Aside0 (spec_CrossRight.l1 kq l0 x3_1 x5_3 ((rd_T114 l0 x3_1).f0) ((rd_T114 l0 x3_1).f1) ((rd_T114 l0 x3_1).f2)=some r)∧Aside0 (kq≤kj4)∧Aside0 (w'.heap[gb49]? = some (.cells #[.string ((rd_T114 l0 x3_1).f0),.string ((rd_T114 l0 x3_1).f1),.string ((rd_T114 l0 x3_1).f2)] 114 (0,0)))∧Aside0 (Below w.heap.size w w'))
        case atStart=>exact ⟨(0),fg,H',⟨Nat.le_refl _⟩,⟨ks BK49⟩,⟨bs HB⟩⟩
        case round =>
         clear H'
         try clear BK49
         obtain ⟨x5_3,rfl,HA,HK3,BK49,HB⟩:=hrel
         cases gk with
         | zero=>exact absurd HA.out (by simp [spec_CrossRight.l1])
         | succ k3 =>
          have H:=HA.out;clear HA;simp only [spec_CrossRight.l1] at H
          revert H;refine id2 ?_ ?_
          ·intro c31b0 H
           revert H;refine id1 ?_
           intro c32b0 H
           revert H;refine id1 ?_
           intro c33b0 H
           revert H;refine ie2 ?_ ?_
           ·intro c34b0 c34b1 H
            revert H;refine ie2 ?_ ?_
            ·intro c35b0 c35b1 H;obtain rfl:=si H
             try go_wp2
             replace BK49:=am (blk_drew BK49.out);replace HB:=am (below_drew1 HB.out);have p50:0≤(x5_3:Int):=oa;have q50:x5_3<(l0.length:Int):=oa;obtain ⟨ad50,e50,hx50_0,hx50_1,hx50_2⟩:=at_T114 HR0.out x5_3 p50 q50;have hw50_2:=hx50_2;have hw50_1:=hx50_1;have hw50_0:=hx50_0;obtain rfl:ad53=ad50:=(by injection e50);replace hx50_0:=cb HB hx50_0;replace hx50_1:=cb HB hx50_1;replace hx50_2:=cb HB hx50_2;replace p50:=eq_true p50;replace q50:=eq_true q50;have p51:0≤(x5_3:Int):=oa;have q51:x5_3<(l0.length:Int):=oa;obtain ⟨ad51,e51,hx51_0,hx51_1,hx51_2⟩:=at_T114 HR0.out x5_3 p51 q51;have hw51_2:=hx51_2;have hw51_1:=hx51_1;have hw51_0:=hx51_0;obtain rfl:ad53=ad51:=(by injection e51);replace hx51_0:=cb HB hx51_0;replace hx51_1:=cb HB hx51_1;replace hx51_2:=cb HB hx51_2;replace p51:=eq_true p51;replace q51:=eq_true q51;refine sta 18 (hb3a BK49 (hca (cb HB hw50_0) (hca (cb HB hw50_1) (hca (cb HB hw50_2) (hca (cb HB hw51_0) (hca (cb HB hw51_1) (hc (cb HB hw51_2)))))))) (fun hHeld=>?_);refine with_tabW spec_CrossRight.tab12 spec_CrossRight.bits12 (fun HT_ HW_=>?_)
             generalize wr.drew=w36 at BK49 HB hx50_0 hx50_1 hx50_2 hx51_0 hx51_1 hx51_2 hHeld ⊢
             refine pA 0 54 HT_ ?_;refine pA 1 55 HT_ ?_;refine pA 2 56 HT_ ?_;refine pA 3 57 HT_ ?_;refine pA 5 59 HT_ ?_;refine tA 4 58 HT_ HW_ hHeld ?_;refine tA 6 60 HT_ HW_ hHeld ?_;refine pA 7 61 HT_ ?_;refine pA 8 62 HT_ ?_;refine pA 9 63 HT_ ?_;refine pA 10 64 HT_ ?_;refine pA 11 65 HT_ ?_;refine pA 12 66 HT_ ?_;refine pA 14 68 HT_ ?_;refine tA 13 67 HT_ HW_ hHeld ?_;refine tA 15 69 HT_ HW_ hHeld ?_;refine pA 16 70 HT_ ?_;refine pA 17 71 HT_ ?_;refine done_ (done_of HT_.out (by kernel_rfl)) ?_
             try go_wp2
             go_ret
             exact ⟨ff,bs HB⟩
            ·intro c35 c35b0 c35b1 H;have H':=am H;clear H
             try go_wp2
             replace BK49:=am (blk_drew BK49.out);replace HB:=am (below_drew1 HB.out);have p50:0≤(x5_3:Int):=oa;have q50:x5_3<(l0.length:Int):=oa;obtain ⟨ad50,e50,hx50_0,hx50_1,hx50_2⟩:=at_T114 HR0.out x5_3 p50 q50;have hw50_2:=hx50_2;have hw50_1:=hx50_1;have hw50_0:=hx50_0;obtain rfl:ad53=ad50:=(by injection e50);replace hx50_0:=cb HB hx50_0;replace hx50_1:=cb HB hx50_1;replace hx50_2:=cb HB hx50_2;replace p50:=eq_true p50;replace q50:=eq_true q50;have p51:0≤(x5_3:Int):=oa;have q51:x5_3<(l0.length:Int):=oa;obtain ⟨ad51,e51,hx51_0,hx51_1,hx51_2⟩:=at_T114 HR0.out x5_3 p51 q51;have hw51_2:=hx51_2;have hw51_1:=hx51_1;have hw51_0:=hx51_0;obtain rfl:ad53=ad51:=(by injection e51);replace hx51_0:=cb HB hx51_0;replace hx51_1:=cb HB hx51_1;replace hx51_2:=cb HB hx51_2;replace p51:=eq_true p51;replace q51:=eq_true q51;refine sta 18 (hb3a BK49 (hca (cb HB hw50_0) (hca (cb HB hw50_1) (hca (cb HB hw50_2) (hca (cb HB hw51_0) (hca (cb HB hw51_1) (hc (cb HB hw51_2)))))))) (fun hHeld=>?_);refine with_tabW spec_CrossRight.tab12 spec_CrossRight.bits12 (fun HT_ HW_=>?_)
             generalize wr.drew=w37 at BK49 HB hx50_0 hx50_1 hx50_2 hx51_0 hx51_1 hx51_2 hHeld ⊢
             refine pA 0 54 HT_ ?_;refine pA 1 55 HT_ ?_;refine pA 2 56 HT_ ?_;refine pA 3 57 HT_ ?_;refine pA 5 59 HT_ ?_;refine tA 4 58 HT_ HW_ hHeld ?_;refine tA 6 60 HT_ HW_ hHeld ?_;refine pA 7 61 HT_ ?_;refine pA 8 62 HT_ ?_;refine pA 9 63 HT_ ?_;refine pA 10 64 HT_ ?_;refine pA 11 65 HT_ ?_;refine pA 12 66 HT_ ?_;refine pA 14 68 HT_ ?_;refine tA 13 67 HT_ HW_ hHeld ?_;refine tA 15 69 HT_ HW_ hHeld ?_;refine pA 16 70 HT_ ?_;refine pA 17 71 HT_ ?_;refine done_ (done_of HT_.out (by kernel_rfl)) ?_
             try go_wp2
             go_roundg k3
             case measure=>have:=HK1.out;have:=HJ4.out;have:=HK3.out;omega
             case rel=>exact ⟨(wrap64 (x5_3+1)),fg,H',⟨by have:=HK1.out;have:=HJ4.out;have:=HK3.out;omega⟩,⟨ks BK49⟩,⟨bs HB⟩⟩
           ·intro c34 c34b0 c34b1 H;have H':=am H;clear H
            try go_wp2
            replace BK49:=am (blk_drew BK49.out);replace HB:=am (below_drew1 HB.out);have p50:0≤(x5_3:Int):=oa;have q50:x5_3<(l0.length:Int):=oa;obtain ⟨ad50,e50,hx50_0,hx50_1,hx50_2⟩:=at_T114 HR0.out x5_3 p50 q50;have hw50_2:=hx50_2;have hw50_1:=hx50_1;have hw50_0:=hx50_0;obtain rfl:ad53=ad50:=(by injection e50);replace hx50_0:=cb HB hx50_0;replace hx50_1:=cb HB hx50_1;replace hx50_2:=cb HB hx50_2;replace p50:=eq_true p50;replace q50:=eq_true q50;refine sta 18 (hb3a BK49 (hca (cb HB hw50_0) (hca (cb HB hw50_1) (hc (cb HB hw50_2))))) (fun hHeld=>?_);refine with_tabW spec_CrossRight.tab12 spec_CrossRight.bits12 (fun HT_ HW_=>?_)
            generalize wr.drew=w38 at BK49 HB hx50_0 hx50_1 hx50_2 hHeld ⊢
            refine pA 0 54 HT_ ?_;refine pA 1 55 HT_ ?_;refine pA 2 56 HT_ ?_;refine pA 3 57 HT_ ?_;refine pA 5 59 HT_ ?_;refine tA 4 58 HT_ HW_ hHeld ?_;refine tA 6 60 HT_ HW_ hHeld ?_;refine pA 7 61 HT_ ?_;refine pA 8 62 HT_ ?_;refine pB 9 63 HT_ ?_;refine pB 10 64 HT_ ?_;refine pB 11 65 HT_ ?_;refine pB 12 66 HT_ ?_;refine pB 13 67 HT_ ?_;refine pB 14 68 HT_ ?_;refine pB 15 69 HT_ ?_;refine pB 16 70 HT_ ?_;refine pA 17 71 HT_ ?_;refine done_ (done_of HT_.out (by kernel_rfl)) ?_
            try go_wp2
            go_roundg k3
            case measure=>have:=HK1.out;have:=HJ4.out;have:=HK3.out;omega
            case rel=>exact ⟨(wrap64 (x5_3+1)),fg,H',⟨by have:=HK1.out;have:=HJ4.out;have:=HK3.out;omega⟩,⟨ks BK49⟩,⟨bs HB⟩⟩
          ·intro c31b0 H;have H':=am H;clear H
           go_wp2
           go_roundg k3
           case measure=>have:=HK1.out;have:=HJ4.out;have:=HK3.out;omega
           case rel=>exact ⟨(wrap64 (x3_1+1)),fg,H',⟨by have:=HK1.out;have:=HJ4.out;have:=HK3.out;omega⟩,⟨bs HB⟩⟩
    ·intro c3b0 H;obtain rfl:=si H
     go_wp2
     go_ret
     exact ⟨ff,bs HB⟩
theorem spec_l01Qty.calls (a0:Int) (r:Bool) (w:World) (H:spec_l01Qty.f a0=some r) :
  Calls Tryz.prog 154 #[.int .i64 a0] w fun e w'=>e=.returned (.bool r)∧Drawn0 w w':=by
 unfold spec_l01Qty.f at H
 revert H;refine ip2 ?_ ?_
 ·intro c2 H;have c2b0:decide (1≤a0)=true:=decide_eq_true c2;clear c2;obtain rfl:=si H
  go_in
  go_wp2
  go_ret
  exact ⟨fg,dr⟩
 ·intro c2 H;have c2b0:decide (1≤a0)=false:=decide_eq_false c2;clear c2;obtain rfl:=si H
  go_in
  go_wp2
  go_ret
  exact ⟨fg,dr⟩
theorem spec_LineRight.calls (k:Nat) (a0_0:ByteArray) (a0_1:ByteArray) (a0_2:Int) (a0_3:ByteArray) (a0_4:Int) (a0_5:Int) (a0_6:Int) (a0_7:Int) (r:Bool) (w:World) (H:spec_LineRight.f k a0_0 a0_1 a0_2 a0_3 a0_4 a0_5 a0_6 a0_7=some r) :
  Calls Tryz.prog 141 #[.agg #[.string a0_0,.string a0_1,.int .i64 a0_2,.string a0_3,.int .i64 a0_4,.int .i64 a0_5,.int .i64 a0_6,.int .i64 a0_7]] w fun e w'=>e=.returned (.bool r)∧Below w.heap.size w w':=by
 have hu161:=Tryz.underlying161;have HB:=am (Below.refl w.heap.size w);unfold spec_LineRight.f at H;replace H:=bo H;obtain ⟨t16,A2,H⟩:=H
 go_in
 try go_wp2_with (first|((with_reducible refine gate_dst (N:=1) rfl ?_);refine bz 1 (cs:=#[.string a0_0,.string a0_1,.int .i64 a0_2,.string a0_3,.int .i64 a0_4,.int .i64 a0_5,.int .i64 a0_6,.int .i64 a0_7]) (t:=161) HB ?_;clear HB;intro gb11 hg w3 BK11 GW11 hb HB;clear hb hg;have hcz4:=cf8 BK11))
 go_at_call 48;(with_reducible refine (spec_l01Name.calls k a0_0 t16 _ A2.out).mono ?_);rintro e w' ⟨rfl,⟨nd,rfl⟩⟩
 obtain rfl|rfl:=bt t16
 ·replace H:=itT H;replace H:=bo H;obtain ⟨t30,A6,H⟩:=H;have hcz7:=cf8 BK11
  try go_wp2_with (fail)
  go_at_call 48;(with_reducible refine (spec_l01Name.calls k a0_1 t30 _ A6.out).mono ?_);rintro e w' ⟨rfl,⟨nd,rfl⟩⟩
  obtain rfl|rfl:=bt t30
  ·replace H:=itT H;replace H:=bo H;obtain ⟨t31,A9,H⟩:=H;have hcz10:=cf8 BK11
   try go_wp2_with (fail)
   go_at_call 48;(with_reducible refine (spec_l01Name.calls k a0_3 t31 _ A9.out).mono ?_);rintro e w' ⟨rfl,⟨nd,rfl⟩⟩
   obtain rfl|rfl:=bt t31
   ·replace H:=itT H
    revert H;refine ip2 ?_ ?_
    ·intro c12 H;have c12b0:decide (1≤a0_2)=true:=decide_eq_true c12;clear c12
     revert H;refine id2 ?_ ?_
     ·intro c13b0 H;replace H:=bo H;obtain ⟨t32,A14,H⟩:=H;have hcz15:=cf8 BK11
      try go_wp2_with (fail)
      go_at_call 154;(with_reducible refine (spec_l01Qty.calls a0_4 t32 _ A14.out).mono ?_);rintro e w' ⟨rfl,⟨nd,rfl⟩⟩
      obtain rfl|rfl:=bt t32
      ·replace H:=itT H
       revert H;refine ip2 ?_ ?_
       ·intro c17 H;have c17b0:decide (0≤a0_5)=true:=decide_eq_true c17;clear c17
        revert H;refine ip2 ?_ ?_
        ·intro c18 H;have c18b0:decide (0≤a0_6)=true:=decide_eq_true c18;clear c18
         revert H;refine ip2 ?_ ?_
         ·intro c19 H;have c19b0:decide (0≤a0_7)=true:=decide_eq_true c19;clear c19
          revert H;refine id2 ?_ ?_
          ·intro c20b0 H
           revert H;refine id2 ?_ ?_
           ·intro c21b0 H;obtain rfl:=si H;have hcz22:=cf8 BK11
            go_wp2
            go_ret
            exact ⟨ff,bs HB⟩
           ·intro c21b0 H;obtain rfl:=si H;have hcz23:=cf8 BK11
            go_wp2
            go_ret
            exact ⟨ff,bs HB⟩
          ·intro c20b0 H;obtain rfl:=si H;have hcz24:=cf8 BK11
           go_wp2
           go_ret
           exact ⟨ff,bs HB⟩
         ·intro c19 H;have c19b0:decide (0≤a0_7)=false:=decide_eq_false c19;clear c19;obtain rfl:=si H;have hcz25:=cf8 BK11
          go_wp2
          go_ret
          exact ⟨ff,bs HB⟩
        ·intro c18 H;have c18b0:decide (0≤a0_6)=false:=decide_eq_false c18;clear c18;obtain rfl:=si H;have hcz26:=cf8 BK11
         go_wp2
         go_ret
         exact ⟨ff,bs HB⟩
       ·intro c17 H;have c17b0:decide (0≤a0_5)=false:=decide_eq_false c17;clear c17;obtain rfl:=si H;have hcz27:=cf8 BK11
        go_wp2
        go_ret
        exact ⟨ff,bs HB⟩
      ·replace H:=itF H;obtain rfl:=si H
       go_wp2
       go_ret
       exact ⟨ff,bs HB⟩
     ·intro c13b0 H;obtain rfl:=si H;have hcz28:=cf8 BK11
      go_wp2
      go_ret
      exact ⟨ff,bs HB⟩
    ·intro c12 H;have c12b0:decide (1≤a0_2)=false:=decide_eq_false c12;clear c12;obtain rfl:=si H;have hcz29:=cf8 BK11
     go_wp2
     go_ret
     exact ⟨ff,bs HB⟩
   ·replace H:=itF H;obtain rfl:=si H
    go_wp2
    go_ret
    exact ⟨ff,bs HB⟩
  ·replace H:=itF H;obtain rfl:=si H
   go_wp2
   go_ret
   exact ⟨ff,bs HB⟩
 ·replace H:=itF H;obtain rfl:=si H
  go_wp2
  go_ret
  exact ⟨ff,bs HB⟩
theorem spec_l09Before.calls (a0_0:ByteArray) (a0_1:ByteArray) (a0_2:Int) (a0_3:ByteArray) (a0_4:Int) (a0_5:Int) (a0_6:Int) (a0_7:Int) (a1_0:ByteArray) (a1_1:ByteArray) (a1_2:Int) (a1_3:ByteArray) (a1_4:Int) (a1_5:Int) (a1_6:Int) (a1_7:Int) (r:Bool) (w:World) (H:spec_l09Before.f a0_0 a0_1 a0_2 a0_3 a0_4 a0_5 a0_6 a0_7 a1_0 a1_1 a1_2 a1_3 a1_4 a1_5 a1_6 a1_7=some r) :
  Calls Tryz.prog 142 #[.agg #[.string a0_0,.string a0_1,.int .i64 a0_2,.string a0_3,.int .i64 a0_4,.int .i64 a0_5,.int .i64 a0_6,.int .i64 a0_7],.agg #[.string a1_0,.string a1_1,.int .i64 a1_2,.string a1_3,.int .i64 a1_4,.int .i64 a1_5,.int .i64 a1_6,.int .i64 a1_7]] w fun e w'=>e=.returned (.bool r)∧Below w.heap.size w w':=by
 have hu161:=Tryz.underlying161;have HB:=am (Below.refl w.heap.size w);unfold spec_l09Before.f at H
 revert H;refine ie2 ?_ ?_
 ·intro c3b0 c3b1 H
  revert H;refine ie2 ?_ ?_
  ·intro c4b0 c4b1 H;obtain rfl:=si H
   go_in
   go_wp2_with (first|((with_reducible refine gate_dst (N:=2) rfl ?_);refine bz 2 (cs:=#[.string a0_0,.string a0_1,.int .i64 a0_2,.string a0_3,.int .i64 a0_4,.int .i64 a0_5,.int .i64 a0_6,.int .i64 a0_7]) (t:=161) HB ?_;clear HB;intro gb20 hg w5 BK20 GW20 hb HB;clear hb hg)|((with_reducible refine gate_dst (N:=3) rfl ?_);refine bz 3 (cs:=#[.string a1_0,.string a1_1,.int .i64 a1_2,.string a1_3,.int .i64 a1_4,.int .i64 a1_5,.int .i64 a1_6,.int .i64 a1_7]) (t:=161) HB ?_;clear HB;intro gb21 hg w6 BK21 GW21 hb HB;have NB20_21:=na hg BK20;have NB21_20:=nc hg BK20;replace BK20:=bb BK20 hb;clear hb hg;have hnb7:=NB20_21.out;have hnc7:=NB21_20.out;have hcz8:=cf8 BK20;have hcz9:=cf8 BK21))
   go_ret
   exact ⟨ff,bs HB⟩
  ·intro c4 c4b0 c4b1 H;obtain rfl:=si H
   go_in
   go_wp2_with (first|((with_reducible refine gate_dst (N:=2) rfl ?_);refine bz 2 (cs:=#[.string a0_0,.string a0_1,.int .i64 a0_2,.string a0_3,.int .i64 a0_4,.int .i64 a0_5,.int .i64 a0_6,.int .i64 a0_7]) (t:=161) HB ?_;clear HB;intro gb20 hg w10 BK20 GW20 hb HB;clear hb hg)|((with_reducible refine gate_dst (N:=3) rfl ?_);refine bz 3 (cs:=#[.string a1_0,.string a1_1,.int .i64 a1_2,.string a1_3,.int .i64 a1_4,.int .i64 a1_5,.int .i64 a1_6,.int .i64 a1_7]) (t:=161) HB ?_;clear HB;intro gb21 hg w11 BK21 GW21 hb HB;have NB20_21:=na hg BK20;have NB21_20:=nc hg BK20;replace BK20:=bb BK20 hb;clear hb hg;have hnb12:=NB20_21.out;have hnc12:=NB21_20.out;have hcz13:=cf8 BK20;have hcz14:=cf8 BK21))
   go_ret
   exact ⟨ff,bs HB⟩
 ·intro c3 c3b0 c3b1 H;obtain rfl:=si H
  go_in
  go_wp2_with (first|((with_reducible refine gate_dst (N:=2) rfl ?_);refine bz 2 (cs:=#[.string a0_0,.string a0_1,.int .i64 a0_2,.string a0_3,.int .i64 a0_4,.int .i64 a0_5,.int .i64 a0_6,.int .i64 a0_7]) (t:=161) HB ?_;clear HB;intro gb20 hg w15 BK20 GW20 hb HB;clear hb hg)|((with_reducible refine gate_dst (N:=3) rfl ?_);refine bz 3 (cs:=#[.string a1_0,.string a1_1,.int .i64 a1_2,.string a1_3,.int .i64 a1_4,.int .i64 a1_5,.int .i64 a1_6,.int .i64 a1_7]) (t:=161) HB ?_;clear HB;intro gb21 hg w16 BK21 GW21 hb HB;have NB20_21:=na hg BK20;have NB21_20:=nc hg BK20;replace BK20:=bb BK20 hb;clear hb hg;have hnb17:=NB20_21.out;have hnc17:=NB21_20.out;have hcz18:=cf8 BK20;have hcz19:=cf8 BK21))
  go_ret
  exact ⟨ff,bs HB⟩
def spec_LinesRight.T6:Bool × List (List Nat × List Nat):=(true,[([],[]),([],[]),([0,1],[0,1]),([2],[2]),([3],[3]),([4],[4]),([5,4],[5]),([6],[6]),([7,6],[6,7]),([8,6,6],[6,8]),([9],[9]),([9],[9]),([11,9],[9,11]),([10,12,9],[9,10,12]),([13,9],[9,13]),([9],[9]),([9],[9]),([15,16,9],[9,15,16]),([17,9],[9,17]),([14,18,9,9],[9,14,18]),([19,9],[9,19]),([9,20,6],[6,9,20]),([6,21],[6,21])])
def spec_LinesRight.B6:List Nat:=[0,0,3,7,15,31,63,127,255,511,1023,1023,3071,8191,16383,1023,1023,99327,230399,524287,1048575,2097151,4194303]
theorem spec_LinesRight.tab6:rtab .any (opsOf Tryz.f115 6)=spec_LinesRight.T6:=by kernel_rfl
theorem spec_LinesRight.bits6:waitsOk spec_LinesRight.T6.2 spec_LinesRight.B6=true:=by kernel_rfl
theorem spec_LinesRight.calls (k:Nat) (A0:Option Addr) (c0:Nat) (l0:List (S161)) (r:Bool) (w:World) (hr0:Kd.C k161 w A0 l0.length l0) (hc0:l0.length≤c0) (H:spec_LinesRight.f k l0=some r) :
  Calls Tryz.prog 115 #[.slice A0 l0.length c0] w fun e w'=>e=.returned (.bool r)∧Below w.heap.size w w':=by
 have hu161:=Tryz.underlying161;have HR0:=am hr0;have HC0:=am hc0;clear hr0 hc0;have HB:=am (Below.refl w.heap.size w);unfold spec_LinesRight.f at H
 revert H;refine ip2 ?_ ?_
 ·intro c2 H;have c2b0:decide (200<(l0.length:Int))=true:=decide_eq_true c2;have c2b1:decide (200<l0.length)=true:=decide_eq_true (by omega);clear c2;obtain rfl:=si H
  go_in
  go_wp2
  go_ret
  exact ⟨ff,bs HB⟩
 ·intro c2 H;have c2b0:decide (200<(l0.length:Int))=false:=decide_eq_false c2;have c2b1:decide (200<l0.length)=false:=decide_eq_false (by omega);clear c2;have H':=am H;clear H
  go_in
  go_wp2
  go_loopg [3] k (fun kq v3 w'=>∃ (x3_1:Int),v3=.int .i64 x3_1∧Aside0 (spec_LinesRight.l0 kq l0 x3_1=some r)∧Aside0 (kq≤k)∧Aside0 (Below w.heap.size w w'))
  case atStart=>exact ⟨(0),fg,H',⟨Nat.le_refl _⟩,⟨bs HB⟩⟩
  case round =>
   clear H'
   try clear c2
   try clear c2b0
   try clear c2b1
   obtain ⟨x3_1,rfl,HA,HK1,HB⟩:=hrel
   cases gk with
   | zero=>exact absurd HA.out (by simp [spec_LinesRight.l0])
   | succ k1 =>
    have H:=HA.out;clear HA;simp only [spec_LinesRight.l0] at H
    revert H;refine id2 ?_ ?_
    ·intro c3b0 H
     revert H;refine id1 ?_
     intro c4b0 H;replace H:=bo H;obtain ⟨t40,A5,H⟩:=H
     obtain rfl|rfl:=bt t40
     ·replace H:=itT H
      revert H;refine ip2 ?_ ?_
      ·intro c7 H;have c7b0:decide (0<x3_1)=true:=decide_eq_true c7;clear c7;obtain ⟨ji8,hji8⟩:∃ j_:Int,(wrap64 (x3_1 - 1))=j_:=⟨_,rfl⟩
       replace H:(if 0≤(ji8) then (if (ji8)<(l0.length:Int) then ((spec_l09Before.f ((rd_T161 l0 (ji8)).f0) ((rd_T161 l0 (ji8)).f1) ((rd_T161 l0 (ji8)).f2) ((rd_T161 l0 (ji8)).f3) ((rd_T161 l0 (ji8)).f4) ((rd_T161 l0 (ji8)).f5) ((rd_T161 l0 (ji8)).f6) ((rd_T161 l0 (ji8)).f7) ((rd_T161 l0 x3_1).f0) ((rd_T161 l0 x3_1).f1) ((rd_T161 l0 x3_1).f2) ((rd_T161 l0 x3_1).f3) ((rd_T161 l0 x3_1).f4) ((rd_T161 l0 x3_1).f5) ((rd_T161 l0 x3_1).f6) ((rd_T161 l0 x3_1).f7)).bind fun t39=>(if t39=true then (spec_LinesRight.l0 k1 l0 (wrap64 (x3_1+1))) else (some false))) else (none)) else (none))=some r:=by first|(rw [hji8] at H;exact H)|(simp only [hji8] at H ⊢;exact H)
       (try rw [hji8] at A5)
       have hji8w:(IntKind.i64.wrap (x3_1 - 1))=ji8:=(i64_w _).trans hji8
       revert H;refine id1 ?_
       intro c9b0 H
       revert H;refine id1 ?_
       intro c10b0 H;replace H:=bo H;obtain ⟨t39,A11,H⟩:=H
       obtain rfl|rfl:=bt t39
       ·replace H:=itT H;have H':=am H;clear H
        try go_wp2
        replace HB:=am (below_drew1 HB.out);have p36:0≤(x3_1:Int):=oa;have q36:x3_1<(l0.length:Int):=oa;obtain ⟨ad36,e36,hx36_0,hx36_1,hx36_2,hx36_3,hx36_4,hx36_5,hx36_6,hx36_7⟩:=at_T161 HR0.out x3_1 p36 q36;have hw36_7:=hx36_7;have hw36_6:=hx36_6;have hw36_5:=hx36_5;have hw36_4:=hx36_4;have hw36_3:=hx36_3;have hw36_2:=hx36_2;have hw36_1:=hx36_1;have hw36_0:=hx36_0
        cases e36
        replace hx36_0:=cb HB hx36_0;replace hx36_1:=cb HB hx36_1;replace hx36_2:=cb HB hx36_2;replace hx36_3:=cb HB hx36_3;replace hx36_4:=cb HB hx36_4;replace hx36_5:=cb HB hx36_5;replace hx36_6:=cb HB hx36_6;replace hx36_7:=cb HB hx36_7;replace p36:=eq_true p36;replace q36:=eq_true q36;have p37:0≤((ji8):Int):=oa;have q37:(ji8)<(l0.length:Int):=oa;obtain ⟨ad37,e37,hx37_0,hx37_1,hx37_2,hx37_3,hx37_4,hx37_5,hx37_6,hx37_7⟩:=at_T161 HR0.out (ji8) p37 q37;have hw37_7:=hx37_7;have hw37_6:=hx37_6;have hw37_5:=hx37_5;have hw37_4:=hx37_4;have hw37_3:=hx37_3;have hw37_2:=hx37_2;have hw37_1:=hx37_1;have hw37_0:=hx37_0;obtain rfl:ad36=ad37:=(by injection e37);replace hx37_0:=cb HB hx37_0;replace hx37_1:=cb HB hx37_1;replace hx37_2:=cb HB hx37_2;replace hx37_3:=cb HB hx37_3;replace hx37_4:=cb HB hx37_4;replace hx37_5:=cb HB hx37_5;replace hx37_6:=cb HB hx37_6;replace hx37_7:=cb HB hx37_7;replace p37:=eq_true p37;replace q37:=eq_true q37;have p38:0≤(x3_1:Int):=oa;have q38:x3_1<(l0.length:Int):=oa;obtain ⟨ad38,e38,hx38_0,hx38_1,hx38_2,hx38_3,hx38_4,hx38_5,hx38_6,hx38_7⟩:=at_T161 HR0.out x3_1 p38 q38;have hw38_7:=hx38_7;have hw38_6:=hx38_6;have hw38_5:=hx38_5;have hw38_4:=hx38_4;have hw38_3:=hx38_3;have hw38_2:=hx38_2;have hw38_1:=hx38_1;have hw38_0:=hx38_0;obtain rfl:ad36=ad38:=(by injection e38);replace hx38_0:=cb HB hx38_0;replace hx38_1:=cb HB hx38_1;replace hx38_2:=cb HB hx38_2;replace hx38_3:=cb HB hx38_3;replace hx38_4:=cb HB hx38_4;replace hx38_5:=cb HB hx38_5;replace hx38_6:=cb HB hx38_6;replace hx38_7:=cb HB hx38_7;replace p38:=eq_true p38;replace q38:=eq_true q38;refine sta 23 (hca (cb HB hw36_0) (hca (cb HB hw36_1) (hca (cb HB hw36_2) (hca (cb HB hw36_3) (hca (cb HB hw36_4) (hca (cb HB hw36_5) (hca (cb HB hw36_6) (hca (cb HB hw36_7) (hca (cb HB hw37_0) (hca (cb HB hw37_1) (hca (cb HB hw37_2) (hca (cb HB hw37_3) (hca (cb HB hw37_4) (hca (cb HB hw37_5) (hca (cb HB hw37_6) (hca (cb HB hw37_7) (hca (cb HB hw38_0) (hca (cb HB hw38_1) (hca (cb HB hw38_2) (hca (cb HB hw38_3) (hca (cb HB hw38_4) (hca (cb HB hw38_5) (hca (cb HB hw38_6) (hc (cb HB hw38_7))))))))))))))))))))))))) (fun hHeld=>?_);refine with_tabW spec_LinesRight.tab6 spec_LinesRight.bits6 (fun HT_ HW_=>?_)
        generalize wr.drew=w13 at HB hx36_0 hx36_1 hx36_2 hx36_3 hx36_4 hx36_5 hx36_6 hx36_7 hx37_0 hx37_1 hx37_2 hx37_3 hx37_4 hx37_5 hx37_6 hx37_7 hx38_0 hx38_1 hx38_2 hx38_3 hx38_4 hx38_5 hx38_6 hx38_7 hHeld ⊢
        refine pA 0 13 HT_ ?_;refine pA 1 14 HT_ ?_;refine pA 2 15 HT_ ?_;refine tA 3 16 HT_ HW_ hHeld ?_;refine oA 4 17 HT_ (fun K hK=>?_);refine gA Tryz.func141 #[.agg #[.string ((rd_T161 l0 x3_1).f0),.string ((rd_T161 l0 x3_1).f1),.int .i64 ((rd_T161 l0 x3_1).f2),.string ((rd_T161 l0 x3_1).f3),.int .i64 ((rd_T161 l0 x3_1).f4),.int .i64 ((rd_T161 l0 x3_1).f5),.int .i64 ((rd_T161 l0 x3_1).f6),.int .i64 ((rd_T161 l0 x3_1).f7)]] ?_;(with_reducible refine (spec_LineRight.calls k1 ((rd_T161 l0 x3_1).f0) ((rd_T161 l0 x3_1).f1) ((rd_T161 l0 x3_1).f2) ((rd_T161 l0 x3_1).f3) ((rd_T161 l0 x3_1).f4) ((rd_T161 l0 x3_1).f5) ((rd_T161 l0 x3_1).f6) ((rd_T161 l0 x3_1).f7) true _ A5.out).mono ?_);rintro e w14 ⟨rfl,hb⟩;refine ⟨_,rfl,?_⟩;replace HB:=bq HB hb;(try clear hb);(try clear hb2);(try clear hk);(try clear hi);refine hK.out _ _ (hca (cb HB hw36_0) (hca (cb HB hw36_1) (hca (cb HB hw36_2) (hca (cb HB hw36_3) (hca (cb HB hw36_4) (hca (cb HB hw36_5) (hca (cb HB hw36_6) (hca (cb HB hw36_7) (hca (cb HB hw37_0) (hca (cb HB hw37_1) (hca (cb HB hw37_2) (hca (cb HB hw37_3) (hca (cb HB hw37_4) (hca (cb HB hw37_5) (hca (cb HB hw37_6) (hca (cb HB hw37_7) (hca (cb HB hw38_0) (hca (cb HB hw38_1) (hca (cb HB hw38_2) (hca (cb HB hw38_3) (hca (cb HB hw38_4) (hca (cb HB hw38_5) (hca (cb HB hw38_6) (hc (cb HB hw38_7))))))))))))))))))))))))).out (fun hHeld=>?_);clear hK K;refine nA 17 ?_;refine pA 5 18 HT_ ?_;refine pA 6 19 HT_ ?_;refine pA 7 20 HT_ ?_;refine pA 8 21 HT_ ?_;refine pA 9 22 HT_ ?_;refine pA 10 23 HT_ ?_;refine pA 11 24 HT_ ?_;refine pA 12 25 HT_ ?_;refine pA 13 26 HT_ ?_;refine pA 15 28 HT_ ?_;refine pA 16 29 HT_ ?_;refine pA 17 30 HT_ ?_;refine tA 14 27 HT_ HW_ hHeld ?_;refine tA 18 31 HT_ HW_ hHeld ?_;refine oA 19 32 HT_ (fun K hK=>?_);refine goes_ Tryz.func142 (by kernel_rfl) rfl #[.agg #[.string ((rd_T161 l0 (ji8)).f0),.string ((rd_T161 l0 (ji8)).f1),.int .i64 ((rd_T161 l0 (ji8)).f2),.string ((rd_T161 l0 (ji8)).f3),.int .i64 ((rd_T161 l0 (ji8)).f4),.int .i64 ((rd_T161 l0 (ji8)).f5),.int .i64 ((rd_T161 l0 (ji8)).f6),.int .i64 ((rd_T161 l0 (ji8)).f7)],.agg #[.string ((rd_T161 l0 x3_1).f0),.string ((rd_T161 l0 x3_1).f1),.int .i64 ((rd_T161 l0 x3_1).f2),.string ((rd_T161 l0 x3_1).f3),.int .i64 ((rd_T161 l0 x3_1).f4),.int .i64 ((rd_T161 l0 x3_1).f5),.int .i64 ((rd_T161 l0 x3_1).f6),.int .i64 ((rd_T161 l0 x3_1).f7)]] (by rfl) rfl rfl (by (try simp only [List.map_toArray,List.map_cons,List.map_nil]);first|done|(simp only [hji8];rfl)|rfl|(simp only [List.length_drop,List.length_take];rfl)) ?_;(with_reducible refine (spec_l09Before.calls ((rd_T161 l0 (ji8)).f0) ((rd_T161 l0 (ji8)).f1) ((rd_T161 l0 (ji8)).f2) ((rd_T161 l0 (ji8)).f3) ((rd_T161 l0 (ji8)).f4) ((rd_T161 l0 (ji8)).f5) ((rd_T161 l0 (ji8)).f6) ((rd_T161 l0 (ji8)).f7) ((rd_T161 l0 x3_1).f0) ((rd_T161 l0 x3_1).f1) ((rd_T161 l0 x3_1).f2) ((rd_T161 l0 x3_1).f3) ((rd_T161 l0 x3_1).f4) ((rd_T161 l0 x3_1).f5) ((rd_T161 l0 x3_1).f6) ((rd_T161 l0 x3_1).f7) true _ A11.out).mono ?_);rintro e w15 ⟨rfl,hb⟩;refine ⟨_,rfl,?_⟩;replace HB:=bq HB hb;(try clear hb);(try clear hb2);(try clear hk);(try clear hi);refine hK.out _ _ (hca (cb HB hw36_0) (hca (cb HB hw36_1) (hca (cb HB hw36_2) (hca (cb HB hw36_3) (hca (cb HB hw36_4) (hca (cb HB hw36_5) (hca (cb HB hw36_6) (hca (cb HB hw36_7) (hca (cb HB hw37_0) (hca (cb HB hw37_1) (hca (cb HB hw37_2) (hca (cb HB hw37_3) (hca (cb HB hw37_4) (hca (cb HB hw37_5) (hca (cb HB hw37_6) (hca (cb HB hw37_7) (hca (cb HB hw38_0) (hca (cb HB hw38_1) (hca (cb HB hw38_2) (hca (cb HB hw38_3) (hca (cb HB hw38_4) (hca (cb HB hw38_5) (hca (cb HB hw38_6) (hc (cb HB hw38_7))))))))))))))))))))))))).out (fun hHeld=>?_);clear hK K;refine nA 32 ?_;refine pA 20 33 HT_ ?_;refine pA 21 34 HT_ ?_;refine pA 22 35 HT_ ?_;refine done_ (done_of HT_.out (by kernel_rfl)) ?_
        try go_wp2
        go_roundg k1
        case measure=>have:=HK1.out;omega
        case rel=>exact ⟨(wrap64 (x3_1+1)),fg,H',⟨by have:=HK1.out;omega⟩,⟨bs HB⟩⟩
       ·replace H:=itF H;obtain rfl:=si H
        try go_wp2
        replace HB:=am (below_drew1 HB.out);have p36:0≤(x3_1:Int):=oa;have q36:x3_1<(l0.length:Int):=oa;obtain ⟨ad36,e36,hx36_0,hx36_1,hx36_2,hx36_3,hx36_4,hx36_5,hx36_6,hx36_7⟩:=at_T161 HR0.out x3_1 p36 q36;have hw36_7:=hx36_7;have hw36_6:=hx36_6;have hw36_5:=hx36_5;have hw36_4:=hx36_4;have hw36_3:=hx36_3;have hw36_2:=hx36_2;have hw36_1:=hx36_1;have hw36_0:=hx36_0
        cases e36
        replace hx36_0:=cb HB hx36_0;replace hx36_1:=cb HB hx36_1;replace hx36_2:=cb HB hx36_2;replace hx36_3:=cb HB hx36_3;replace hx36_4:=cb HB hx36_4;replace hx36_5:=cb HB hx36_5;replace hx36_6:=cb HB hx36_6;replace hx36_7:=cb HB hx36_7;replace p36:=eq_true p36;replace q36:=eq_true q36;have p37:0≤((ji8):Int):=oa;have q37:(ji8)<(l0.length:Int):=oa;obtain ⟨ad37,e37,hx37_0,hx37_1,hx37_2,hx37_3,hx37_4,hx37_5,hx37_6,hx37_7⟩:=at_T161 HR0.out (ji8) p37 q37;have hw37_7:=hx37_7;have hw37_6:=hx37_6;have hw37_5:=hx37_5;have hw37_4:=hx37_4;have hw37_3:=hx37_3;have hw37_2:=hx37_2;have hw37_1:=hx37_1;have hw37_0:=hx37_0;obtain rfl:ad36=ad37:=(by injection e37);replace hx37_0:=cb HB hx37_0;replace hx37_1:=cb HB hx37_1;replace hx37_2:=cb HB hx37_2;replace hx37_3:=cb HB hx37_3;replace hx37_4:=cb HB hx37_4;replace hx37_5:=cb HB hx37_5;replace hx37_6:=cb HB hx37_6;replace hx37_7:=cb HB hx37_7;replace p37:=eq_true p37;replace q37:=eq_true q37;have p38:0≤(x3_1:Int):=oa;have q38:x3_1<(l0.length:Int):=oa;obtain ⟨ad38,e38,hx38_0,hx38_1,hx38_2,hx38_3,hx38_4,hx38_5,hx38_6,hx38_7⟩:=at_T161 HR0.out x3_1 p38 q38;have hw38_7:=hx38_7;have hw38_6:=hx38_6;have hw38_5:=hx38_5;have hw38_4:=hx38_4;have hw38_3:=hx38_3;have hw38_2:=hx38_2;have hw38_1:=hx38_1;have hw38_0:=hx38_0;obtain rfl:ad36=ad38:=(by injection e38);replace hx38_0:=cb HB hx38_0;replace hx38_1:=cb HB hx38_1;replace hx38_2:=cb HB hx38_2;replace hx38_3:=cb HB hx38_3;replace hx38_4:=cb HB hx38_4;replace hx38_5:=cb HB hx38_5;replace hx38_6:=cb HB hx38_6;replace hx38_7:=cb HB hx38_7;replace p38:=eq_true p38;replace q38:=eq_true q38;refine sta 23 (hca (cb HB hw36_0) (hca (cb HB hw36_1) (hca (cb HB hw36_2) (hca (cb HB hw36_3) (hca (cb HB hw36_4) (hca (cb HB hw36_5) (hca (cb HB hw36_6) (hca (cb HB hw36_7) (hca (cb HB hw37_0) (hca (cb HB hw37_1) (hca (cb HB hw37_2) (hca (cb HB hw37_3) (hca (cb HB hw37_4) (hca (cb HB hw37_5) (hca (cb HB hw37_6) (hca (cb HB hw37_7) (hca (cb HB hw38_0) (hca (cb HB hw38_1) (hca (cb HB hw38_2) (hca (cb HB hw38_3) (hca (cb HB hw38_4) (hca (cb HB hw38_5) (hca (cb HB hw38_6) (hc (cb HB hw38_7))))))))))))))))))))))))) (fun hHeld=>?_);refine with_tabW spec_LinesRight.tab6 spec_LinesRight.bits6 (fun HT_ HW_=>?_)
        generalize wr.drew=w16 at HB hx36_0 hx36_1 hx36_2 hx36_3 hx36_4 hx36_5 hx36_6 hx36_7 hx37_0 hx37_1 hx37_2 hx37_3 hx37_4 hx37_5 hx37_6 hx37_7 hx38_0 hx38_1 hx38_2 hx38_3 hx38_4 hx38_5 hx38_6 hx38_7 hHeld ⊢
        refine pA 0 13 HT_ ?_;refine pA 1 14 HT_ ?_;refine pA 2 15 HT_ ?_;refine tA 3 16 HT_ HW_ hHeld ?_;refine oA 4 17 HT_ (fun K hK=>?_);refine gA Tryz.func141 #[.agg #[.string ((rd_T161 l0 x3_1).f0),.string ((rd_T161 l0 x3_1).f1),.int .i64 ((rd_T161 l0 x3_1).f2),.string ((rd_T161 l0 x3_1).f3),.int .i64 ((rd_T161 l0 x3_1).f4),.int .i64 ((rd_T161 l0 x3_1).f5),.int .i64 ((rd_T161 l0 x3_1).f6),.int .i64 ((rd_T161 l0 x3_1).f7)]] ?_;(with_reducible refine (spec_LineRight.calls k1 ((rd_T161 l0 x3_1).f0) ((rd_T161 l0 x3_1).f1) ((rd_T161 l0 x3_1).f2) ((rd_T161 l0 x3_1).f3) ((rd_T161 l0 x3_1).f4) ((rd_T161 l0 x3_1).f5) ((rd_T161 l0 x3_1).f6) ((rd_T161 l0 x3_1).f7) true _ A5.out).mono ?_);rintro e w17 ⟨rfl,hb⟩;refine ⟨_,rfl,?_⟩;replace HB:=bq HB hb;(try clear hb);(try clear hb2);(try clear hk);(try clear hi);refine hK.out _ _ (hca (cb HB hw36_0) (hca (cb HB hw36_1) (hca (cb HB hw36_2) (hca (cb HB hw36_3) (hca (cb HB hw36_4) (hca (cb HB hw36_5) (hca (cb HB hw36_6) (hca (cb HB hw36_7) (hca (cb HB hw37_0) (hca (cb HB hw37_1) (hca (cb HB hw37_2) (hca (cb HB hw37_3) (hca (cb HB hw37_4) (hca (cb HB hw37_5) (hca (cb HB hw37_6) (hca (cb HB hw37_7) (hca (cb HB hw38_0) (hca (cb HB hw38_1) (hca (cb HB hw38_2) (hca (cb HB hw38_3) (hca (cb HB hw38_4) (hca (cb HB hw38_5) (hca (cb HB hw38_6) (hc (cb HB hw38_7))))))))))))))))))))))))).out (fun hHeld=>?_);clear hK K;refine nA 17 ?_;refine pA 5 18 HT_ ?_;refine pA 6 19 HT_ ?_;refine pA 7 20 HT_ ?_;refine pA 8 21 HT_ ?_;refine pA 9 22 HT_ ?_;refine pA 10 23 HT_ ?_;refine pA 11 24 HT_ ?_;refine pA 12 25 HT_ ?_;refine pA 13 26 HT_ ?_;refine pA 15 28 HT_ ?_;refine pA 16 29 HT_ ?_;refine pA 17 30 HT_ ?_;refine tA 14 27 HT_ HW_ hHeld ?_;refine tA 18 31 HT_ HW_ hHeld ?_;refine oA 19 32 HT_ (fun K hK=>?_);refine goes_ Tryz.func142 (by kernel_rfl) rfl #[.agg #[.string ((rd_T161 l0 (ji8)).f0),.string ((rd_T161 l0 (ji8)).f1),.int .i64 ((rd_T161 l0 (ji8)).f2),.string ((rd_T161 l0 (ji8)).f3),.int .i64 ((rd_T161 l0 (ji8)).f4),.int .i64 ((rd_T161 l0 (ji8)).f5),.int .i64 ((rd_T161 l0 (ji8)).f6),.int .i64 ((rd_T161 l0 (ji8)).f7)],.agg #[.string ((rd_T161 l0 x3_1).f0),.string ((rd_T161 l0 x3_1).f1),.int .i64 ((rd_T161 l0 x3_1).f2),.string ((rd_T161 l0 x3_1).f3),.int .i64 ((rd_T161 l0 x3_1).f4),.int .i64 ((rd_T161 l0 x3_1).f5),.int .i64 ((rd_T161 l0 x3_1).f6),.int .i64 ((rd_T161 l0 x3_1).f7)]] (by rfl) rfl rfl (by (try simp only [List.map_toArray,List.map_cons,List.map_nil]);first|done|(simp only [hji8];rfl)|rfl|(simp only [List.length_drop,List.length_take];rfl)) ?_;(with_reducible refine (spec_l09Before.calls ((rd_T161 l0 (ji8)).f0) ((rd_T161 l0 (ji8)).f1) ((rd_T161 l0 (ji8)).f2) ((rd_T161 l0 (ji8)).f3) ((rd_T161 l0 (ji8)).f4) ((rd_T161 l0 (ji8)).f5) ((rd_T161 l0 (ji8)).f6) ((rd_T161 l0 (ji8)).f7) ((rd_T161 l0 x3_1).f0) ((rd_T161 l0 x3_1).f1) ((rd_T161 l0 x3_1).f2) ((rd_T161 l0 x3_1).f3) ((rd_T161 l0 x3_1).f4) ((rd_T161 l0 x3_1).f5) ((rd_T161 l0 x3_1).f6) ((rd_T161 l0 x3_1).f7) false _ A11.out).mono ?_);rintro e w18 ⟨rfl,hb⟩;refine ⟨_,rfl,?_⟩;replace HB:=bq HB hb;(try clear hb);(try clear hb2);(try clear hk);(try clear hi);refine hK.out _ _ (hca (cb HB hw36_0) (hca (cb HB hw36_1) (hca (cb HB hw36_2) (hca (cb HB hw36_3) (hca (cb HB hw36_4) (hca (cb HB hw36_5) (hca (cb HB hw36_6) (hca (cb HB hw36_7) (hca (cb HB hw37_0) (hca (cb HB hw37_1) (hca (cb HB hw37_2) (hca (cb HB hw37_3) (hca (cb HB hw37_4) (hca (cb HB hw37_5) (hca (cb HB hw37_6) (hca (cb HB hw37_7) (hca (cb HB hw38_0) (hca (cb HB hw38_1) (hca (cb HB hw38_2) (hca (cb HB hw38_3) (hca (cb HB hw38_4) (hca (cb HB hw38_5) (hca (cb HB hw38_6) (hc (cb HB hw38_7))))))))))))))))))))))))).out (fun hHeld=>?_);clear hK K;refine nA 32 ?_;refine pA 20 33 HT_ ?_;refine pA 21 34 HT_ ?_;refine pA 22 35 HT_ ?_;refine done_ (done_of HT_.out (by kernel_rfl)) ?_
        try go_wp2
        go_ret
        exact ⟨by first|rfl|(simp [errW_none,errW_some] <;> rfl)|(simp only [← hji8];first|rfl|(simp [errW_none,errW_some] <;> rfl))|(simp [*,errW_none,errW_some] <;> rfl),bs HB⟩
      ·intro c7 H;have c7b0:decide (0<x3_1)=false:=decide_eq_false c7;clear c7;have H':=am H;clear H
       try go_wp2
       replace HB:=am (below_drew1 HB.out);have p36:0≤(x3_1:Int):=oa;have q36:x3_1<(l0.length:Int):=oa;obtain ⟨ad36,e36,hx36_0,hx36_1,hx36_2,hx36_3,hx36_4,hx36_5,hx36_6,hx36_7⟩:=at_T161 HR0.out x3_1 p36 q36;have hw36_7:=hx36_7;have hw36_6:=hx36_6;have hw36_5:=hx36_5;have hw36_4:=hx36_4;have hw36_3:=hx36_3;have hw36_2:=hx36_2;have hw36_1:=hx36_1;have hw36_0:=hx36_0
       cases e36
       replace hx36_0:=cb HB hx36_0;replace hx36_1:=cb HB hx36_1;replace hx36_2:=cb HB hx36_2;replace hx36_3:=cb HB hx36_3;replace hx36_4:=cb HB hx36_4;replace hx36_5:=cb HB hx36_5;replace hx36_6:=cb HB hx36_6;replace hx36_7:=cb HB hx36_7;replace p36:=eq_true p36;replace q36:=eq_true q36;refine sta 23 (hca (cb HB hw36_0) (hca (cb HB hw36_1) (hca (cb HB hw36_2) (hca (cb HB hw36_3) (hca (cb HB hw36_4) (hca (cb HB hw36_5) (hca (cb HB hw36_6) (hc (cb HB hw36_7))))))))) (fun hHeld=>?_);refine with_tabW spec_LinesRight.tab6 spec_LinesRight.bits6 (fun HT_ HW_=>?_)
       generalize wr.drew=w19 at HB hx36_0 hx36_1 hx36_2 hx36_3 hx36_4 hx36_5 hx36_6 hx36_7 hHeld ⊢
       refine pA 0 13 HT_ ?_;refine pA 1 14 HT_ ?_;refine pA 2 15 HT_ ?_;refine tA 3 16 HT_ HW_ hHeld ?_;refine oA 4 17 HT_ (fun K hK=>?_);refine gA Tryz.func141 #[.agg #[.string ((rd_T161 l0 x3_1).f0),.string ((rd_T161 l0 x3_1).f1),.int .i64 ((rd_T161 l0 x3_1).f2),.string ((rd_T161 l0 x3_1).f3),.int .i64 ((rd_T161 l0 x3_1).f4),.int .i64 ((rd_T161 l0 x3_1).f5),.int .i64 ((rd_T161 l0 x3_1).f6),.int .i64 ((rd_T161 l0 x3_1).f7)]] ?_;(with_reducible refine (spec_LineRight.calls k1 ((rd_T161 l0 x3_1).f0) ((rd_T161 l0 x3_1).f1) ((rd_T161 l0 x3_1).f2) ((rd_T161 l0 x3_1).f3) ((rd_T161 l0 x3_1).f4) ((rd_T161 l0 x3_1).f5) ((rd_T161 l0 x3_1).f6) ((rd_T161 l0 x3_1).f7) true _ A5.out).mono ?_);rintro e w20 ⟨rfl,hb⟩;refine ⟨_,rfl,?_⟩;replace HB:=bq HB hb;(try clear hb);(try clear hb2);(try clear hk);(try clear hi);refine hK.out _ _ (hca (cb HB hw36_0) (hca (cb HB hw36_1) (hca (cb HB hw36_2) (hca (cb HB hw36_3) (hca (cb HB hw36_4) (hca (cb HB hw36_5) (hca (cb HB hw36_6) (hc (cb HB hw36_7))))))))).out (fun hHeld=>?_);clear hK K;refine nA 17 ?_;refine pA 5 18 HT_ ?_;refine pA 6 19 HT_ ?_;refine pA 7 20 HT_ ?_;refine pA 8 21 HT_ ?_;refine pA 9 22 HT_ ?_;refine pB 10 23 HT_ ?_;refine pB 11 24 HT_ ?_;refine pB 12 25 HT_ ?_;refine pB 13 26 HT_ ?_;refine pB 14 27 HT_ ?_;refine pB 15 28 HT_ ?_;refine pB 16 29 HT_ ?_;refine pB 17 30 HT_ ?_;refine pB 18 31 HT_ ?_;refine pB 19 32 HT_ ?_;refine pB 20 33 HT_ ?_;refine pA 21 34 HT_ ?_;refine pA 22 35 HT_ ?_;refine done_ (done_of HT_.out (by kernel_rfl)) ?_
       try go_wp2
       go_roundg k1
       case measure=>have:=HK1.out;omega
       case rel=>exact ⟨(wrap64 (x3_1+1)),fg,H',⟨by have:=HK1.out;omega⟩,⟨bs HB⟩⟩
     ·replace H:=itF H;obtain rfl:=si H
      try go_wp2
      replace HB:=am (below_drew1 HB.out);have p36:0≤(x3_1:Int):=oa;have q36:x3_1<(l0.length:Int):=oa;obtain ⟨ad36,e36,hx36_0,hx36_1,hx36_2,hx36_3,hx36_4,hx36_5,hx36_6,hx36_7⟩:=at_T161 HR0.out x3_1 p36 q36;have hw36_7:=hx36_7;have hw36_6:=hx36_6;have hw36_5:=hx36_5;have hw36_4:=hx36_4;have hw36_3:=hx36_3;have hw36_2:=hx36_2;have hw36_1:=hx36_1;have hw36_0:=hx36_0
      cases e36
      replace hx36_0:=cb HB hx36_0;replace hx36_1:=cb HB hx36_1;replace hx36_2:=cb HB hx36_2;replace hx36_3:=cb HB hx36_3;replace hx36_4:=cb HB hx36_4;replace hx36_5:=cb HB hx36_5;replace hx36_6:=cb HB hx36_6;replace hx36_7:=cb HB hx36_7;replace p36:=eq_true p36;replace q36:=eq_true q36;refine sta 23 (hca (cb HB hw36_0) (hca (cb HB hw36_1) (hca (cb HB hw36_2) (hca (cb HB hw36_3) (hca (cb HB hw36_4) (hca (cb HB hw36_5) (hca (cb HB hw36_6) (hc (cb HB hw36_7))))))))) (fun hHeld=>?_);refine with_tabW spec_LinesRight.tab6 spec_LinesRight.bits6 (fun HT_ HW_=>?_)
      generalize wr.drew=w21 at HB hx36_0 hx36_1 hx36_2 hx36_3 hx36_4 hx36_5 hx36_6 hx36_7 hHeld ⊢
      refine pA 0 13 HT_ ?_;refine pA 1 14 HT_ ?_;refine pA 2 15 HT_ ?_;refine tA 3 16 HT_ HW_ hHeld ?_;refine oA 4 17 HT_ (fun K hK=>?_);refine gA Tryz.func141 #[.agg #[.string ((rd_T161 l0 x3_1).f0),.string ((rd_T161 l0 x3_1).f1),.int .i64 ((rd_T161 l0 x3_1).f2),.string ((rd_T161 l0 x3_1).f3),.int .i64 ((rd_T161 l0 x3_1).f4),.int .i64 ((rd_T161 l0 x3_1).f5),.int .i64 ((rd_T161 l0 x3_1).f6),.int .i64 ((rd_T161 l0 x3_1).f7)]] ?_;(with_reducible refine (spec_LineRight.calls k1 ((rd_T161 l0 x3_1).f0) ((rd_T161 l0 x3_1).f1) ((rd_T161 l0 x3_1).f2) ((rd_T161 l0 x3_1).f3) ((rd_T161 l0 x3_1).f4) ((rd_T161 l0 x3_1).f5) ((rd_T161 l0 x3_1).f6) ((rd_T161 l0 x3_1).f7) false _ A5.out).mono ?_);rintro e w22 ⟨rfl,hb⟩;refine ⟨_,rfl,?_⟩;replace HB:=bq HB hb;(try clear hb);(try clear hb2);(try clear hk);(try clear hi);refine hK.out _ _ (hca (cb HB hw36_0) (hca (cb HB hw36_1) (hca (cb HB hw36_2) (hca (cb HB hw36_3) (hca (cb HB hw36_4) (hca (cb HB hw36_5) (hca (cb HB hw36_6) (hc (cb HB hw36_7))))))))).out (fun hHeld=>?_);clear hK K;refine nA 17 ?_;refine pA 5 18 HT_ ?_;refine pA 6 19 HT_ ?_;refine pB 7 20 HT_ ?_;refine pB 8 21 HT_ ?_;refine pB 9 22 HT_ ?_;refine pB 10 23 HT_ ?_;refine pB 11 24 HT_ ?_;refine pB 12 25 HT_ ?_;refine pB 13 26 HT_ ?_;refine pB 14 27 HT_ ?_;refine pB 15 28 HT_ ?_;refine pB 16 29 HT_ ?_;refine pB 17 30 HT_ ?_;refine pB 18 31 HT_ ?_;refine pB 19 32 HT_ ?_;refine pB 20 33 HT_ ?_;refine pB 21 34 HT_ ?_;refine pA 22 35 HT_ ?_;refine done_ (done_of HT_.out (by kernel_rfl)) ?_
      try go_wp2
      go_ret
      exact ⟨ff,bs HB⟩
    ·intro c3b0 H;obtain rfl:=si H
     go_wp2
     go_ret
     exact ⟨ff,bs HB⟩
end Go.Proofs.YtomoflpgdbjojaaGreat.QN
