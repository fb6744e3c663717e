-- Merged by a program of this session (wip/tool/pack.py) out of its own texts for this claim.
import Derived.Test.YtomoflpgdbjojaaGreatKFnExactGatePartner13
set_option maxHeartbeats 8000000
set_option maxRecDepth 100000
set_option linter.unusedSimpArgs false
set_option linter.unusedVariables false
namespace Go.Proofs.YtomoflpgdbjojaaGreat.QO
open Go.RowKit Go.Proofs.YtomoflpgdbjojaaGreatW.PrintWords Go.Proofs.YtomoflpgdbjojaaGreatW.PrintLast Go.Proofs.YtomoflpgdbjojaaGreatW.PrintMore
attribute [local go_sem] max2_int min2_int max_two min_two max_three min_three max_four min_four   -- for this text's walks alone
def impl_PartnerRight.T4:Bool × List (List Nat × List Nat):=(true,[([],[]),([0],[0]),([],[]),([2],[2]),([1,3],[1,3]),([4],[4]),([5,4],[5]),([6],[6]),([7,6],[6,7]),([6],[6]),([9,6],[6,9]),([8,10,6],[6,8,10]),([11,6],[6,11]),([6,12],[6,12]),([13,6],[13]),([14],[14]),([15,14],[14,15]),([16,14,14],[14,16]),([17,14],[14,17]),([14,18],[14,18]),([19,17],[19]),([20],[20]),([21,20],[20,21]),([22,20,20],[20,22]),([23,20],[20,23]),([20,24],[20,24]),([25,23],[25]),([26],[26]),([27,26],[26,27]),([28,26,26],[26,28]),([29],[29]),([30,29],[29,30]),([29],[29]),([32,29],[29,32]),([29],[29]),([34,29],[29,34]),([33,35,29],[29,33,35]),([36,29],[29,36]),([37,29],[29,37]),([31,38,29],[29,31,38]),([29,39,26],[26,29,39]),([26,40],[26,40])])
def impl_PartnerRight.B4:List Nat:=[0,1,0,4,15,31,63,127,255,127,639,2047,4095,8191,16383,32767,65535,131071,262143,524287,1048575,2097151,4194303,8388607,16777215,33554431,67108863,134217727,268435455,536870911,1073741823,2147483647,1073741823,5368709119,1073741823,18253611007,65498251263,134217727999,271656681471,549755813887,1099511627775,2199023255551]
theorem impl_PartnerRight.tab4:rtab .any (opsOf Tryz.f83 4)=impl_PartnerRight.T4:=by kernel_rfl
theorem impl_PartnerRight.bits4:waitsOk impl_PartnerRight.T4.2 impl_PartnerRight.B4=true:=by kernel_rfl
theorem impl_PartnerRight.calls (k:Nat) (a0_0:ByteArray) (a0_1:Int) (a0_2:Int) (A0_3:Option Addr) (c0_3:Nat) (l0_3:List (S155)) (r:Bool) (w:World) (hr0_3:Kd.C k155 w A0_3 l0_3.length l0_3) (hc0_3:l0_3.length≤c0_3) (H:impl_PartnerRight.f k a0_0 a0_1 a0_2 l0_3=some r) :
  Calls Tryz.prog 83 #[.agg #[.string a0_0,.int .i64 a0_1,.int .i64 a0_2,.slice A0_3 l0_3.length c0_3]] w fun e w'=>e=.returned (.bool r)∧Below w.heap.size w w':=by
 have hu83:=Tryz.underlying83;have hu155:=Tryz.underlying155;have HR0_3:=am hr0_3;have HC0_3:=am hc0_3;clear hr0_3 hc0_3;have HB:=am (Below.refl w.heap.size w);unfold impl_PartnerRight.f at H;have H':=am H;clear H
 go_in
 go_wp2_with (first|((with_reducible refine gate_dst (N:=1) rfl ?_);refine bz 1 (cs:=#[.string a0_0,.int .i64 a0_1,.int .i64 a0_2,.slice A0_3 l0_3.length c0_3]) (t:=83) HB ?_;clear HB;intro gb62 hg w2 BK62 GW62 hb HB;clear hb hg;have hcz3:=cf4 BK62))
 go_loopg [8] k (fun kq v8 w'=>∃ (x8_1:Int),v8=.int .i64 x8_1∧Aside0 (impl_PartnerRight.l0 kq l0_3 (l0_3.length:Int) x8_1 a0_0 a0_1 a0_2 l0_3=some r)∧Aside0 (kq≤k)∧Aside0 (w'.heap[gb62]? = some (.cells #[.string a0_0,.int .i64 a0_1,.int .i64 a0_2,(.slice A0_3 l0_3.length c0_3)] 83 (0,0)))∧Aside0 (Below w.heap.size w w'))
 case atStart=>exact ⟨(0),fg,H',⟨Nat.le_refl _⟩,⟨ks BK62⟩,⟨bs HB⟩⟩
 case round =>
  clear H'
  try clear hcz3
  try clear BK62
  obtain ⟨x8_1,rfl,HA,HK1,BK62,HB⟩:=hrel
  cases gk with
  | zero=>exact absurd HA.out (by simp [impl_PartnerRight.l0])
  | succ k1 =>
   have H:=HA.out;clear HA;simp only [impl_PartnerRight.l0] at H
   revert H;refine id2 ?_ ?_
   ·intro c4b0 H
    revert H;refine id1 ?_
    intro c5b0 H
    revert H;refine id1 ?_
    intro c6b0 H;replace H:=bo H;obtain ⟨t67,A7,H⟩:=H
    obtain rfl|rfl:=bt t67
    ·replace H:=itT H
     revert H;refine ip2 ?_ ?_
     ·intro c9 H;have c9b0:decide (32≤(wrap64 (((rd_T155 l0_3 x8_1).f0) - a0_1)))=true:=decide_eq_true c9;clear c9;obtain rfl:=si H;have p59:0≤(x8_1:Int):=oa;have q59:x8_1<(l0_3.length:Int):=oa;obtain ⟨ad59,e59,hx59_0,hx59_1,hx59_2⟩:=at_T155 HR0_3.out x8_1 p59 q59
      cases e59
      replace hx59_0:=cb HB hx59_0;replace hx59_1:=cb HB hx59_1;replace hx59_2:=cb HB hx59_2;replace p59:=eq_true p59;replace q59:=eq_true q59
      try go_wp2_with (first|((with_reducible refine gate_dst (N:=4) rfl ?_);refine bz 4 (cs:=#[.int .i64 0,.int .i64 0,.int .i64 0]) (t:=155) HB ?_;clear HB;intro gb56 hg w10 BK56 GW56 hb HB;have NB62_56:=na hg BK62;have NB56_62:=nc hg BK62;replace BK62:=bb BK62 hb;clear hb hg;have hnb11:=NB56_62.out;have hnc11:=NB62_56.out;have hcz12:=cf3 BK56))
      have n0_:=kz (((w10.setCell ⟨gb56,0,none⟩ (.int .i64 ((rd_T155 l0_3 x8_1).f0))).setCell ⟨gb56,1,none⟩ (.int .i64 ((rd_T155 l0_3 x8_1).f1))).setCell ⟨gb56,2,none⟩ (.int .i64 ((rd_T155 l0_3 x8_1).f2))) BK62;have n1_:Aside0 ((((w10.setCell ⟨gb56,0,none⟩ (.int .i64 ((rd_T155 l0_3 x8_1).f0))).setCell ⟨gb56,1,none⟩ (.int .i64 ((rd_T155 l0_3 x8_1).f1))).setCell ⟨gb56,2,none⟩ (.int .i64 ((rd_T155 l0_3 x8_1).f2))).heap[gb56]? = some (.cells #[.int .i64 ((rd_T155 l0_3 x8_1).f0),.int .i64 ((rd_T155 l0_3 x8_1).f1),.int .i64 ((rd_T155 l0_3 x8_1).f2)] 155 (0,0))):=⟨kp BK56⟩;have n2_:Aside0 (Below w.heap.size w (((w10.setCell ⟨gb56,0,none⟩ (.int .i64 ((rd_T155 l0_3 x8_1).f0))).setCell ⟨gb56,1,none⟩ (.int .i64 ((rd_T155 l0_3 x8_1).f1))).setCell ⟨gb56,2,none⟩ (.int .i64 ((rd_T155 l0_3 x8_1).f2)))):=⟨bs HB⟩;(try clear BK62);(try clear BK56);(try clear HB)
      generalize (((w10.setCell ⟨gb56,0,none⟩ (.int .i64 ((rd_T155 l0_3 x8_1).f0))).setCell ⟨gb56,1,none⟩ (.int .i64 ((rd_T155 l0_3 x8_1).f1))).setCell ⟨gb56,2,none⟩ (.int .i64 ((rd_T155 l0_3 x8_1).f2)))=w13 at n0_ n1_ n2_ ⊢
      have BK62:=n0_;have BK56:=n1_;have HB:=n2_;clear n0_ n1_ n2_;replace BK62:=am (blk_drew BK62.out);replace BK56:=am (blk_drew BK56.out);replace HB:=am (below_drew1 HB.out);refine sta 42 (hb3a BK56 (hb4 BK62)) (fun hHeld=>?_);refine with_tabW impl_PartnerRight.tab4 impl_PartnerRight.bits4 (fun HT_ HW_=>?_)
      generalize w13.drew=w14 at BK62 BK56 HB hHeld ⊢
      refine pz1 0 ?_;refine pz1 2 ?_;refine ta 1 ?_;refine ta 3 ?_;refine oA 4 17 HT_ (fun K hK=>?_);refine gA Tryz.func105 #[.int .i64 ((rd_T155 l0_3 x8_1).f0),.int .i64 a0_1,.int .i64 999999] ?_;(with_reducible refine (impl_within.calls ((rd_T155 l0_3 x8_1).f0) a0_1 999999 true _ A7.out).mono ?_);rintro e w' ⟨rfl,⟨nd,rfl⟩⟩;refine ⟨_,rfl,?_⟩;refine hK.out _ _ (hb3a BK56 (hb4 BK62)).out (fun hHeld=>?_);clear hK K;refine nA 17 ?_;refine pz3 5 ?_;refine pz1 9 ?_;refine ta 8 ?_;refine ta 10 ?_;refine pz8 11 ?_;refine pz8 19 ?_;refine pz8 27 ?_;refine pz4 35 ?_;refine pz3 39 ?_;refine done_ (done_of HT_.out (by kernel_rfl)) ?_
      try go_wp2
      go_ret
      exact ⟨ff,bs HB⟩
     ·intro c9 H;have c9b0:decide (32≤(wrap64 (((rd_T155 l0_3 x8_1).f0) - a0_1)))=false:=decide_eq_false c9;clear c9;replace H:=bo H;obtain ⟨t68,A15,H⟩:=H
      obtain rfl|rfl:=bt t68
      ·replace H:=itT H;replace H:=bo H;obtain ⟨t69,A17,H⟩:=H
       obtain rfl|rfl:=bt t69
       ·replace H:=itT H
        revert H;refine ip2 ?_ ?_
        ·intro c19 H;have c19b0:decide (0<x8_1)=true:=decide_eq_true c19;clear c19;obtain ⟨ji20,hji20⟩:∃ j_:Int,(wrap64 (x8_1 - 1))=j_:=⟨_,rfl⟩
         replace H:(if 0≤(ji20) then (if (ji20)<(l0_3.length:Int) then (if ((rd_T155 l0_3 x8_1).f0)≤((rd_T155 l0_3 (ji20)).f0) then (some false) else (impl_PartnerRight.l0 k1 l0_3 (l0_3.length:Int) (wrap64 (x8_1+1)) a0_0 a0_1 a0_2 l0_3)) else (none)) else (none))=some r:=by first|(rw [hji20] at H;exact H)|(simp only [hji20] at H ⊢;exact H)
         (try rw [hji20] at A7)
         (try rw [hji20] at A15)
         (try rw [hji20] at A17)
         have hji20w:(IntKind.i64.wrap (x8_1 - 1))=ji20:=(i64_w _).trans hji20
         revert H;refine id1 ?_
         intro c21b0 H
         revert H;refine id1 ?_
         intro c22b0 H
         revert H;refine id2 ?_ ?_
         ·intro c23b0 H;obtain rfl:=si H;have p59:0≤(x8_1:Int):=oa;have q59:x8_1<(l0_3.length:Int):=oa;obtain ⟨ad59,e59,hx59_0,hx59_1,hx59_2⟩:=at_T155 HR0_3.out x8_1 p59 q59
          cases e59
          replace hx59_0:=cb HB hx59_0;replace hx59_1:=cb HB hx59_1;replace hx59_2:=cb HB hx59_2;replace p59:=eq_true p59;replace q59:=eq_true q59
          try go_wp2_with (first|((with_reducible refine gate_dst (N:=4) rfl ?_);refine bz 4 (cs:=#[.int .i64 0,.int .i64 0,.int .i64 0]) (t:=155) HB ?_;clear HB;intro gb56 hg w24 BK56 GW56 hb HB;have NB62_56:=na hg BK62;have NB56_62:=nc hg BK62;replace BK62:=bb BK62 hb;clear hb hg;have hnb25:=NB56_62.out;have hnc25:=NB62_56.out;have hcz26:=cf3 BK56))
          have n0_:=kz (((w24.setCell ⟨gb56,0,none⟩ (.int .i64 ((rd_T155 l0_3 x8_1).f0))).setCell ⟨gb56,1,none⟩ (.int .i64 ((rd_T155 l0_3 x8_1).f1))).setCell ⟨gb56,2,none⟩ (.int .i64 ((rd_T155 l0_3 x8_1).f2))) BK62;have n1_:Aside0 ((((w24.setCell ⟨gb56,0,none⟩ (.int .i64 ((rd_T155 l0_3 x8_1).f0))).setCell ⟨gb56,1,none⟩ (.int .i64 ((rd_T155 l0_3 x8_1).f1))).setCell ⟨gb56,2,none⟩ (.int .i64 ((rd_T155 l0_3 x8_1).f2))).heap[gb56]? = some (.cells #[.int .i64 ((rd_T155 l0_3 x8_1).f0),.int .i64 ((rd_T155 l0_3 x8_1).f1),.int .i64 ((rd_T155 l0_3 x8_1).f2)] 155 (0,0))):=⟨kp BK56⟩;have n2_:Aside0 (Below w.heap.size w (((w24.setCell ⟨gb56,0,none⟩ (.int .i64 ((rd_T155 l0_3 x8_1).f0))).setCell ⟨gb56,1,none⟩ (.int .i64 ((rd_T155 l0_3 x8_1).f1))).setCell ⟨gb56,2,none⟩ (.int .i64 ((rd_T155 l0_3 x8_1).f2)))):=⟨bs HB⟩;(try clear BK62);(try clear BK56);(try clear HB)
          generalize (((w24.setCell ⟨gb56,0,none⟩ (.int .i64 ((rd_T155 l0_3 x8_1).f0))).setCell ⟨gb56,1,none⟩ (.int .i64 ((rd_T155 l0_3 x8_1).f1))).setCell ⟨gb56,2,none⟩ (.int .i64 ((rd_T155 l0_3 x8_1).f2)))=w27 at n0_ n1_ n2_ ⊢
          have BK62:=n0_;have BK56:=n1_;have HB:=n2_;clear n0_ n1_ n2_;replace BK62:=am (blk_drew BK62.out);replace BK56:=am (blk_drew BK56.out);replace HB:=am (below_drew1 HB.out);have p63:0≤((ji20):Int):=oa;have q63:(ji20)<(l0_3.length:Int):=oa;obtain ⟨ad63,e63,hx63_0,hx63_1,hx63_2⟩:=at_T155 HR0_3.out (ji20) p63 q63;have hw63_2:=hx63_2;have hw63_1:=hx63_1;have hw63_0:=hx63_0;obtain rfl:ad59=ad63:=(by injection e63);replace hx63_0:=cb HB hx63_0;replace hx63_1:=cb HB hx63_1;replace hx63_2:=cb HB hx63_2;replace p63:=eq_true p63;replace q63:=eq_true q63;refine sta 42 (hb3a BK56 (hb4a BK62 (hca (cb HB hw63_0) (hca (cb HB hw63_1) (hc (cb HB hw63_2)))))) (fun hHeld=>?_);refine with_tabW impl_PartnerRight.tab4 impl_PartnerRight.bits4 (fun HT_ HW_=>?_)
          generalize w27.drew=w28 at BK62 BK56 HB hx63_0 hx63_1 hx63_2 hHeld ⊢
          refine pz1 0 ?_;refine pz1 2 ?_;refine ta 1 ?_;refine ta 3 ?_;refine oA 4 17 HT_ (fun K hK=>?_);refine gA Tryz.func105 #[.int .i64 ((rd_T155 l0_3 x8_1).f0),.int .i64 a0_1,.int .i64 999999] ?_;(with_reducible refine (impl_within.calls ((rd_T155 l0_3 x8_1).f0) a0_1 999999 true _ A7.out).mono ?_);rintro e w' ⟨rfl,⟨nd,rfl⟩⟩;refine ⟨_,rfl,?_⟩;refine hK.out _ _ (hb3a BK56 (hb4a BK62 (hca (cb HB hw63_0) (hca (cb HB hw63_1) (hc (cb HB hw63_2)))))).out (fun hHeld=>?_);clear hK K;refine nA 17 ?_;refine pz3 5 ?_;refine pz1 9 ?_;refine ta 8 ?_;refine ta 10 ?_;refine pz4 11 ?_;refine pz1 15 ?_;refine ta 16 ?_;refine oA 17 30 HT_ (fun K hK=>?_);refine gA Tryz.func126 #[.int .i64 ((rd_T155 l0_3 x8_1).f1)] ?_;(with_reducible refine (impl_isControl.calls ((rd_T155 l0_3 x8_1).f1) true _ A15.out).mono ?_);rintro e w' ⟨rfl,⟨nd,rfl⟩⟩;refine ⟨_,rfl,?_⟩;refine hK.out _ _ (hb3a BK56 (hb4a BK62 (hca (cb HB hw63_0) (hca (cb HB hw63_1) (hc (cb HB hw63_2)))))).out (fun hHeld=>?_);clear hK K;refine nA 30 ?_;refine pz4 18 ?_;refine ta 22 ?_;refine oA 23 36 HT_ (fun K hK=>?_);refine gA Tryz.func127 #[.int .i64 ((rd_T155 l0_3 x8_1).f2)] ?_;(with_reducible refine (impl_isCode.calls ((rd_T155 l0_3 x8_1).f2) true _ A17.out).mono ?_);rintro e w' ⟨rfl,⟨nd,rfl⟩⟩;refine ⟨_,rfl,?_⟩;refine hK.out _ _ (hb3a BK56 (hb4a BK62 (hca (cb HB hw63_0) (hca (cb HB hw63_1) (hc (cb HB hw63_2)))))).out (fun hHeld=>?_);clear hK K;refine nA 36 ?_;refine pz4 24 ?_;refine pz3 28 ?_;refine pz1 32 ?_;refine pz2 34 ?_;refine ta 31 ?_;refine ta 33 ?_;refine pz2 36 ?_;refine ta 38 ?_;refine pz3 39 ?_;refine done_ (done_of HT_.out (by kernel_rfl)) ?_
          try go_wp2
          go_ret
          exact ⟨by first|rfl|(simp [errW_none,errW_some] <;> rfl)|(simp only [← hji20];first|rfl|(simp [errW_none,errW_some] <;> rfl))|(simp [*,errW_none,errW_some] <;> rfl),bs HB⟩
         ·intro c23b0 H;have H':=am H;clear H;have p59:0≤(x8_1:Int):=oa;have q59:x8_1<(l0_3.length:Int):=oa;obtain ⟨ad59,e59,hx59_0,hx59_1,hx59_2⟩:=at_T155 HR0_3.out x8_1 p59 q59
          cases e59
          replace hx59_0:=cb HB hx59_0;replace hx59_1:=cb HB hx59_1;replace hx59_2:=cb HB hx59_2;replace p59:=eq_true p59;replace q59:=eq_true q59
          try go_wp2_with (first|((with_reducible refine gate_dst (N:=4) rfl ?_);refine bz 4 (cs:=#[.int .i64 0,.int .i64 0,.int .i64 0]) (t:=155) HB ?_;clear HB;intro gb56 hg w29 BK56 GW56 hb HB;have NB62_56:=na hg BK62;have NB56_62:=nc hg BK62;replace BK62:=bb BK62 hb;clear hb hg;have hnb30:=NB56_62.out;have hnc30:=NB62_56.out;have hcz31:=cf3 BK56))
          have n0_:=kz (((w29.setCell ⟨gb56,0,none⟩ (.int .i64 ((rd_T155 l0_3 x8_1).f0))).setCell ⟨gb56,1,none⟩ (.int .i64 ((rd_T155 l0_3 x8_1).f1))).setCell ⟨gb56,2,none⟩ (.int .i64 ((rd_T155 l0_3 x8_1).f2))) BK62;have n1_:Aside0 ((((w29.setCell ⟨gb56,0,none⟩ (.int .i64 ((rd_T155 l0_3 x8_1).f0))).setCell ⟨gb56,1,none⟩ (.int .i64 ((rd_T155 l0_3 x8_1).f1))).setCell ⟨gb56,2,none⟩ (.int .i64 ((rd_T155 l0_3 x8_1).f2))).heap[gb56]? = some (.cells #[.int .i64 ((rd_T155 l0_3 x8_1).f0),.int .i64 ((rd_T155 l0_3 x8_1).f1),.int .i64 ((rd_T155 l0_3 x8_1).f2)] 155 (0,0))):=⟨kp BK56⟩;have n2_:Aside0 (Below w.heap.size w (((w29.setCell ⟨gb56,0,none⟩ (.int .i64 ((rd_T155 l0_3 x8_1).f0))).setCell ⟨gb56,1,none⟩ (.int .i64 ((rd_T155 l0_3 x8_1).f1))).setCell ⟨gb56,2,none⟩ (.int .i64 ((rd_T155 l0_3 x8_1).f2)))):=⟨bs HB⟩;(try clear BK62);(try clear BK56);(try clear HB)
          generalize (((w29.setCell ⟨gb56,0,none⟩ (.int .i64 ((rd_T155 l0_3 x8_1).f0))).setCell ⟨gb56,1,none⟩ (.int .i64 ((rd_T155 l0_3 x8_1).f1))).setCell ⟨gb56,2,none⟩ (.int .i64 ((rd_T155 l0_3 x8_1).f2)))=w32 at n0_ n1_ n2_ ⊢
          have BK62:=n0_;have BK56:=n1_;have HB:=n2_;clear n0_ n1_ n2_;replace BK62:=am (blk_drew BK62.out);replace BK56:=am (blk_drew BK56.out);replace HB:=am (below_drew1 HB.out);have p63:0≤((ji20):Int):=oa;have q63:(ji20)<(l0_3.length:Int):=oa;obtain ⟨ad63,e63,hx63_0,hx63_1,hx63_2⟩:=at_T155 HR0_3.out (ji20) p63 q63;have hw63_2:=hx63_2;have hw63_1:=hx63_1;have hw63_0:=hx63_0;obtain rfl:ad59=ad63:=(by injection e63);replace hx63_0:=cb HB hx63_0;replace hx63_1:=cb HB hx63_1;replace hx63_2:=cb HB hx63_2;replace p63:=eq_true p63;replace q63:=eq_true q63;refine sta 42 (hb3a BK56 (hb4a BK62 (hca (cb HB hw63_0) (hca (cb HB hw63_1) (hc (cb HB hw63_2)))))) (fun hHeld=>?_);refine with_tabW impl_PartnerRight.tab4 impl_PartnerRight.bits4 (fun HT_ HW_=>?_)
          generalize w32.drew=w33 at BK62 BK56 HB hx63_0 hx63_1 hx63_2 hHeld ⊢
          refine pz1 0 ?_;refine pz1 2 ?_;refine ta 1 ?_;refine ta 3 ?_;refine oA 4 17 HT_ (fun K hK=>?_);refine gA Tryz.func105 #[.int .i64 ((rd_T155 l0_3 x8_1).f0),.int .i64 a0_1,.int .i64 999999] ?_;(with_reducible refine (impl_within.calls ((rd_T155 l0_3 x8_1).f0) a0_1 999999 true _ A7.out).mono ?_);rintro e w' ⟨rfl,⟨nd,rfl⟩⟩;refine ⟨_,rfl,?_⟩;refine hK.out _ _ (hb3a BK56 (hb4a BK62 (hca (cb HB hw63_0) (hca (cb HB hw63_1) (hc (cb HB hw63_2)))))).out (fun hHeld=>?_);clear hK K;refine nA 17 ?_;refine pz3 5 ?_;refine pz1 9 ?_;refine ta 8 ?_;refine ta 10 ?_;refine pz4 11 ?_;refine pz1 15 ?_;refine ta 16 ?_;refine oA 17 30 HT_ (fun K hK=>?_);refine gA Tryz.func126 #[.int .i64 ((rd_T155 l0_3 x8_1).f1)] ?_;(with_reducible refine (impl_isControl.calls ((rd_T155 l0_3 x8_1).f1) true _ A15.out).mono ?_);rintro e w' ⟨rfl,⟨nd,rfl⟩⟩;refine ⟨_,rfl,?_⟩;refine hK.out _ _ (hb3a BK56 (hb4a BK62 (hca (cb HB hw63_0) (hca (cb HB hw63_1) (hc (cb HB hw63_2)))))).out (fun hHeld=>?_);clear hK K;refine nA 30 ?_;refine pz4 18 ?_;refine ta 22 ?_;refine oA 23 36 HT_ (fun K hK=>?_);refine gA Tryz.func127 #[.int .i64 ((rd_T155 l0_3 x8_1).f2)] ?_;(with_reducible refine (impl_isCode.calls ((rd_T155 l0_3 x8_1).f2) true _ A17.out).mono ?_);rintro e w' ⟨rfl,⟨nd,rfl⟩⟩;refine ⟨_,rfl,?_⟩;refine hK.out _ _ (hb3a BK56 (hb4a BK62 (hca (cb HB hw63_0) (hca (cb HB hw63_1) (hc (cb HB hw63_2)))))).out (fun hHeld=>?_);clear hK K;refine nA 36 ?_;refine pz4 24 ?_;refine pz3 28 ?_;refine pz1 32 ?_;refine pz2 34 ?_;refine ta 31 ?_;refine ta 33 ?_;refine pz2 36 ?_;refine ta 38 ?_;refine pz3 39 ?_;refine done_ (done_of HT_.out (by kernel_rfl)) ?_
          try go_wp2
          go_roundg k1
          case measure=>have:=HK1.out;omega
          case rel=>exact ⟨(wrap64 (x8_1+1)),fg,H',⟨by have:=HK1.out;omega⟩,⟨ks BK62⟩,⟨bs HB⟩⟩
        ·intro c19 H;have c19b0:decide (0<x8_1)=false:=decide_eq_false c19;clear c19;have H':=am H;clear H;have p59:0≤(x8_1:Int):=oa;have q59:x8_1<(l0_3.length:Int):=oa;obtain ⟨ad59,e59,hx59_0,hx59_1,hx59_2⟩:=at_T155 HR0_3.out x8_1 p59 q59
         cases e59
         replace hx59_0:=cb HB hx59_0;replace hx59_1:=cb HB hx59_1;replace hx59_2:=cb HB hx59_2;replace p59:=eq_true p59;replace q59:=eq_true q59
         try go_wp2_with (first|((with_reducible refine gate_dst (N:=4) rfl ?_);refine bz 4 (cs:=#[.int .i64 0,.int .i64 0,.int .i64 0]) (t:=155) HB ?_;clear HB;intro gb56 hg w34 BK56 GW56 hb HB;have NB62_56:=na hg BK62;have NB56_62:=nc hg BK62;replace BK62:=bb BK62 hb;clear hb hg;have hnb35:=NB56_62.out;have hnc35:=NB62_56.out;have hcz36:=cf3 BK56))
         have n0_:=kz (((w34.setCell ⟨gb56,0,none⟩ (.int .i64 ((rd_T155 l0_3 x8_1).f0))).setCell ⟨gb56,1,none⟩ (.int .i64 ((rd_T155 l0_3 x8_1).f1))).setCell ⟨gb56,2,none⟩ (.int .i64 ((rd_T155 l0_3 x8_1).f2))) BK62;have n1_:Aside0 ((((w34.setCell ⟨gb56,0,none⟩ (.int .i64 ((rd_T155 l0_3 x8_1).f0))).setCell ⟨gb56,1,none⟩ (.int .i64 ((rd_T155 l0_3 x8_1).f1))).setCell ⟨gb56,2,none⟩ (.int .i64 ((rd_T155 l0_3 x8_1).f2))).heap[gb56]? = some (.cells #[.int .i64 ((rd_T155 l0_3 x8_1).f0),.int .i64 ((rd_T155 l0_3 x8_1).f1),.int .i64 ((rd_T155 l0_3 x8_1).f2)] 155 (0,0))):=⟨kp BK56⟩;have n2_:Aside0 (Below w.heap.size w (((w34.setCell ⟨gb56,0,none⟩ (.int .i64 ((rd_T155 l0_3 x8_1).f0))).setCell ⟨gb56,1,none⟩ (.int .i64 ((rd_T155 l0_3 x8_1).f1))).setCell ⟨gb56,2,none⟩ (.int .i64 ((rd_T155 l0_3 x8_1).f2)))):=⟨bs HB⟩;(try clear BK62);(try clear BK56);(try clear HB)
         generalize (((w34.setCell ⟨gb56,0,none⟩ (.int .i64 ((rd_T155 l0_3 x8_1).f0))).setCell ⟨gb56,1,none⟩ (.int .i64 ((rd_T155 l0_3 x8_1).f1))).setCell ⟨gb56,2,none⟩ (.int .i64 ((rd_T155 l0_3 x8_1).f2)))=w37 at n0_ n1_ n2_ ⊢
         have BK62:=n0_;have BK56:=n1_;have HB:=n2_;clear n0_ n1_ n2_;replace BK62:=am (blk_drew BK62.out);replace BK56:=am (blk_drew BK56.out);replace HB:=am (below_drew1 HB.out);refine sta 42 (hb3a BK56 (hb4 BK62)) (fun hHeld=>?_);refine with_tabW impl_PartnerRight.tab4 impl_PartnerRight.bits4 (fun HT_ HW_=>?_)
         generalize w37.drew=w38 at BK62 BK56 HB hHeld ⊢
         refine pz1 0 ?_;refine pz1 2 ?_;refine ta 1 ?_;refine ta 3 ?_;refine oA 4 17 HT_ (fun K hK=>?_);refine gA Tryz.func105 #[.int .i64 ((rd_T155 l0_3 x8_1).f0),.int .i64 a0_1,.int .i64 999999] ?_;(with_reducible refine (impl_within.calls ((rd_T155 l0_3 x8_1).f0) a0_1 999999 true _ A7.out).mono ?_);rintro e w' ⟨rfl,⟨nd,rfl⟩⟩;refine ⟨_,rfl,?_⟩;refine hK.out _ _ (hb3a BK56 (hb4 BK62)).out (fun hHeld=>?_);clear hK K;refine nA 17 ?_;refine pz3 5 ?_;refine pz1 9 ?_;refine ta 8 ?_;refine ta 10 ?_;refine pz4 11 ?_;refine pz1 15 ?_;refine ta 16 ?_;refine oA 17 30 HT_ (fun K hK=>?_);refine gA Tryz.func126 #[.int .i64 ((rd_T155 l0_3 x8_1).f1)] ?_;(with_reducible refine (impl_isControl.calls ((rd_T155 l0_3 x8_1).f1) true _ A15.out).mono ?_);rintro e w' ⟨rfl,⟨nd,rfl⟩⟩;refine ⟨_,rfl,?_⟩;refine hK.out _ _ (hb3a BK56 (hb4 BK62)).out (fun hHeld=>?_);clear hK K;refine nA 30 ?_;refine pz4 18 ?_;refine ta 22 ?_;refine oA 23 36 HT_ (fun K hK=>?_);refine gA Tryz.func127 #[.int .i64 ((rd_T155 l0_3 x8_1).f2)] ?_;(with_reducible refine (impl_isCode.calls ((rd_T155 l0_3 x8_1).f2) true _ A17.out).mono ?_);rintro e w' ⟨rfl,⟨nd,rfl⟩⟩;refine ⟨_,rfl,?_⟩;refine hK.out _ _ (hb3a BK56 (hb4 BK62)).out (fun hHeld=>?_);clear hK K;refine nA 36 ?_;refine pz8 24 ?_;refine pz8 32 ?_;refine pz2 40 ?_;refine done_ (done_of HT_.out (by kernel_rfl)) ?_
         try go_wp2
         go_roundg k1
         case measure=>have:=HK1.out;omega
         case rel=>exact ⟨(wrap64 (x8_1+1)),fg,H',⟨by have:=HK1.out;omega⟩,⟨ks BK62⟩,⟨bs HB⟩⟩
       ·replace H:=itF H;obtain rfl:=si H;have p59:0≤(x8_1:Int):=oa;have q59:x8_1<(l0_3.length:Int):=oa;obtain ⟨ad59,e59,hx59_0,hx59_1,hx59_2⟩:=at_T155 HR0_3.out x8_1 p59 q59
        cases e59
        replace hx59_0:=cb HB hx59_0;replace hx59_1:=cb HB hx59_1;replace hx59_2:=cb HB hx59_2;replace p59:=eq_true p59;replace q59:=eq_true q59
        try go_wp2_with (first|((with_reducible refine gate_dst (N:=4) rfl ?_);refine bz 4 (cs:=#[.int .i64 0,.int .i64 0,.int .i64 0]) (t:=155) HB ?_;clear HB;intro gb56 hg w39 BK56 GW56 hb HB;have NB62_56:=na hg BK62;have NB56_62:=nc hg BK62;replace BK62:=bb BK62 hb;clear hb hg;have hnb40:=NB56_62.out;have hnc40:=NB62_56.out;have hcz41:=cf3 BK56))
        have n0_:=kz (((w39.setCell ⟨gb56,0,none⟩ (.int .i64 ((rd_T155 l0_3 x8_1).f0))).setCell ⟨gb56,1,none⟩ (.int .i64 ((rd_T155 l0_3 x8_1).f1))).setCell ⟨gb56,2,none⟩ (.int .i64 ((rd_T155 l0_3 x8_1).f2))) BK62;have n1_:Aside0 ((((w39.setCell ⟨gb56,0,none⟩ (.int .i64 ((rd_T155 l0_3 x8_1).f0))).setCell ⟨gb56,1,none⟩ (.int .i64 ((rd_T155 l0_3 x8_1).f1))).setCell ⟨gb56,2,none⟩ (.int .i64 ((rd_T155 l0_3 x8_1).f2))).heap[gb56]? = some (.cells #[.int .i64 ((rd_T155 l0_3 x8_1).f0),.int .i64 ((rd_T155 l0_3 x8_1).f1),.int .i64 ((rd_T155 l0_3 x8_1).f2)] 155 (0,0))):=⟨kp BK56⟩;have n2_:Aside0 (Below w.heap.size w (((w39.setCell ⟨gb56,0,none⟩ (.int .i64 ((rd_T155 l0_3 x8_1).f0))).setCell ⟨gb56,1,none⟩ (.int .i64 ((rd_T155 l0_3 x8_1).f1))).setCell ⟨gb56,2,none⟩ (.int .i64 ((rd_T155 l0_3 x8_1).f2)))):=⟨bs HB⟩;(try clear BK62);(try clear BK56);(try clear HB)
        generalize (((w39.setCell ⟨gb56,0,none⟩ (.int .i64 ((rd_T155 l0_3 x8_1).f0))).setCell ⟨gb56,1,none⟩ (.int .i64 ((rd_T155 l0_3 x8_1).f1))).setCell ⟨gb56,2,none⟩ (.int .i64 ((rd_T155 l0_3 x8_1).f2)))=w42 at n0_ n1_ n2_ ⊢
        have BK62:=n0_;have BK56:=n1_;have HB:=n2_;clear n0_ n1_ n2_;replace BK62:=am (blk_drew BK62.out);replace BK56:=am (blk_drew BK56.out);replace HB:=am (below_drew1 HB.out);refine sta 42 (hb3a BK56 (hb4 BK62)) (fun hHeld=>?_);refine with_tabW impl_PartnerRight.tab4 impl_PartnerRight.bits4 (fun HT_ HW_=>?_)
        generalize w42.drew=w43 at BK62 BK56 HB hHeld ⊢
        refine pz1 0 ?_;refine pz1 2 ?_;refine ta 1 ?_;refine ta 3 ?_;refine oA 4 17 HT_ (fun K hK=>?_);refine gA Tryz.func105 #[.int .i64 ((rd_T155 l0_3 x8_1).f0),.int .i64 a0_1,.int .i64 999999] ?_;(with_reducible refine (impl_within.calls ((rd_T155 l0_3 x8_1).f0) a0_1 999999 true _ A7.out).mono ?_);rintro e w' ⟨rfl,⟨nd,rfl⟩⟩;refine ⟨_,rfl,?_⟩;refine hK.out _ _ (hb3a BK56 (hb4 BK62)).out (fun hHeld=>?_);clear hK K;refine nA 17 ?_;refine pz3 5 ?_;refine pz1 9 ?_;refine ta 8 ?_;refine ta 10 ?_;refine pz4 11 ?_;refine pz1 15 ?_;refine ta 16 ?_;refine oA 17 30 HT_ (fun K hK=>?_);refine gA Tryz.func126 #[.int .i64 ((rd_T155 l0_3 x8_1).f1)] ?_;(with_reducible refine (impl_isControl.calls ((rd_T155 l0_3 x8_1).f1) true _ A15.out).mono ?_);rintro e w' ⟨rfl,⟨nd,rfl⟩⟩;refine ⟨_,rfl,?_⟩;refine hK.out _ _ (hb3a BK56 (hb4 BK62)).out (fun hHeld=>?_);clear hK K;refine nA 30 ?_;refine pz4 18 ?_;refine ta 22 ?_;refine oA 23 36 HT_ (fun K hK=>?_);refine gA Tryz.func127 #[.int .i64 ((rd_T155 l0_3 x8_1).f2)] ?_;(with_reducible refine (impl_isCode.calls ((rd_T155 l0_3 x8_1).f2) false _ A17.out).mono ?_);rintro e w' ⟨rfl,⟨nd,rfl⟩⟩;refine ⟨_,rfl,?_⟩;refine hK.out _ _ (hb3a BK56 (hb4 BK62)).out (fun hHeld=>?_);clear hK K;refine nA 36 ?_;refine pz8 24 ?_;refine pz8 32 ?_;refine pz2 40 ?_;refine done_ (done_of HT_.out (by kernel_rfl)) ?_
        try go_wp2
        go_ret
        exact ⟨ff,bs HB⟩
      ·replace H:=itF H;obtain rfl:=si H;have p59:0≤(x8_1:Int):=oa;have q59:x8_1<(l0_3.length:Int):=oa;obtain ⟨ad59,e59,hx59_0,hx59_1,hx59_2⟩:=at_T155 HR0_3.out x8_1 p59 q59
       cases e59
       replace hx59_0:=cb HB hx59_0;replace hx59_1:=cb HB hx59_1;replace hx59_2:=cb HB hx59_2;replace p59:=eq_true p59;replace q59:=eq_true q59
       try go_wp2_with (first|((with_reducible refine gate_dst (N:=4) rfl ?_);refine bz 4 (cs:=#[.int .i64 0,.int .i64 0,.int .i64 0]) (t:=155) HB ?_;clear HB;intro gb56 hg w44 BK56 GW56 hb HB;have NB62_56:=na hg BK62;have NB56_62:=nc hg BK62;replace BK62:=bb BK62 hb;clear hb hg;have hnb45:=NB56_62.out;have hnc45:=NB62_56.out;have hcz46:=cf3 BK56))
       have n0_:=kz (((w44.setCell ⟨gb56,0,none⟩ (.int .i64 ((rd_T155 l0_3 x8_1).f0))).setCell ⟨gb56,1,none⟩ (.int .i64 ((rd_T155 l0_3 x8_1).f1))).setCell ⟨gb56,2,none⟩ (.int .i64 ((rd_T155 l0_3 x8_1).f2))) BK62;have n1_:Aside0 ((((w44.setCell ⟨gb56,0,none⟩ (.int .i64 ((rd_T155 l0_3 x8_1).f0))).setCell ⟨gb56,1,none⟩ (.int .i64 ((rd_T155 l0_3 x8_1).f1))).setCell ⟨gb56,2,none⟩ (.int .i64 ((rd_T155 l0_3 x8_1).f2))).heap[gb56]? = some (.cells #[.int .i64 ((rd_T155 l0_3 x8_1).f0),.int .i64 ((rd_T155 l0_3 x8_1).f1),.int .i64 ((rd_T155 l0_3 x8_1).f2)] 155 (0,0))):=⟨kp BK56⟩;have n2_:Aside0 (Below w.heap.size w (((w44.setCell ⟨gb56,0,none⟩ (.int .i64 ((rd_T155 l0_3 x8_1).f0))).setCell ⟨gb56,1,none⟩ (.int .i64 ((rd_T155 l0_3 x8_1).f1))).setCell ⟨gb56,2,none⟩ (.int .i64 ((rd_T155 l0_3 x8_1).f2)))):=⟨bs HB⟩;(try clear BK62);(try clear BK56);(try clear HB)
       generalize (((w44.setCell ⟨gb56,0,none⟩ (.int .i64 ((rd_T155 l0_3 x8_1).f0))).setCell ⟨gb56,1,none⟩ (.int .i64 ((rd_T155 l0_3 x8_1).f1))).setCell ⟨gb56,2,none⟩ (.int .i64 ((rd_T155 l0_3 x8_1).f2)))=w47 at n0_ n1_ n2_ ⊢
       have BK62:=n0_;have BK56:=n1_;have HB:=n2_;clear n0_ n1_ n2_;replace BK62:=am (blk_drew BK62.out);replace BK56:=am (blk_drew BK56.out);replace HB:=am (below_drew1 HB.out);refine sta 42 (hb3a BK56 (hb4 BK62)) (fun hHeld=>?_);refine with_tabW impl_PartnerRight.tab4 impl_PartnerRight.bits4 (fun HT_ HW_=>?_)
       generalize w47.drew=w48 at BK62 BK56 HB hHeld ⊢
       refine pz1 0 ?_;refine pz1 2 ?_;refine ta 1 ?_;refine ta 3 ?_;refine oA 4 17 HT_ (fun K hK=>?_);refine gA Tryz.func105 #[.int .i64 ((rd_T155 l0_3 x8_1).f0),.int .i64 a0_1,.int .i64 999999] ?_;(with_reducible refine (impl_within.calls ((rd_T155 l0_3 x8_1).f0) a0_1 999999 true _ A7.out).mono ?_);rintro e w' ⟨rfl,⟨nd,rfl⟩⟩;refine ⟨_,rfl,?_⟩;refine hK.out _ _ (hb3a BK56 (hb4 BK62)).out (fun hHeld=>?_);clear hK K;refine nA 17 ?_;refine pz3 5 ?_;refine pz1 9 ?_;refine ta 8 ?_;refine ta 10 ?_;refine pz4 11 ?_;refine pz1 15 ?_;refine ta 16 ?_;refine oA 17 30 HT_ (fun K hK=>?_);refine gA Tryz.func126 #[.int .i64 ((rd_T155 l0_3 x8_1).f1)] ?_;(with_reducible refine (impl_isControl.calls ((rd_T155 l0_3 x8_1).f1) false _ A15.out).mono ?_);rintro e w' ⟨rfl,⟨nd,rfl⟩⟩;refine ⟨_,rfl,?_⟩;refine hK.out _ _ (hb3a BK56 (hb4 BK62)).out (fun hHeld=>?_);clear hK K;refine nA 30 ?_;refine pz8 18 ?_;refine pz8 26 ?_;refine pz8 34 ?_;refine done_ (done_of HT_.out (by kernel_rfl)) ?_
       try go_wp2
       go_ret
       exact ⟨ff,bs HB⟩
    ·replace H:=itF H;obtain rfl:=si H;have p59:0≤(x8_1:Int):=oa;have q59:x8_1<(l0_3.length:Int):=oa;obtain ⟨ad59,e59,hx59_0,hx59_1,hx59_2⟩:=at_T155 HR0_3.out x8_1 p59 q59
     cases e59
     replace hx59_0:=cb HB hx59_0;replace hx59_1:=cb HB hx59_1;replace hx59_2:=cb HB hx59_2;replace p59:=eq_true p59;replace q59:=eq_true q59
     try go_wp2_with (first|((with_reducible refine gate_dst (N:=4) rfl ?_);refine bz 4 (cs:=#[.int .i64 0,.int .i64 0,.int .i64 0]) (t:=155) HB ?_;clear HB;intro gb56 hg w49 BK56 GW56 hb HB;have NB62_56:=na hg BK62;have NB56_62:=nc hg BK62;replace BK62:=bb BK62 hb;clear hb hg;have hnb50:=NB56_62.out;have hnc50:=NB62_56.out;have hcz51:=cf3 BK56))
     have n0_:=kz (((w49.setCell ⟨gb56,0,none⟩ (.int .i64 ((rd_T155 l0_3 x8_1).f0))).setCell ⟨gb56,1,none⟩ (.int .i64 ((rd_T155 l0_3 x8_1).f1))).setCell ⟨gb56,2,none⟩ (.int .i64 ((rd_T155 l0_3 x8_1).f2))) BK62;have n1_:Aside0 ((((w49.setCell ⟨gb56,0,none⟩ (.int .i64 ((rd_T155 l0_3 x8_1).f0))).setCell ⟨gb56,1,none⟩ (.int .i64 ((rd_T155 l0_3 x8_1).f1))).setCell ⟨gb56,2,none⟩ (.int .i64 ((rd_T155 l0_3 x8_1).f2))).heap[gb56]? = some (.cells #[.int .i64 ((rd_T155 l0_3 x8_1).f0),.int .i64 ((rd_T155 l0_3 x8_1).f1),.int .i64 ((rd_T155 l0_3 x8_1).f2)] 155 (0,0))):=⟨kp BK56⟩;have n2_:Aside0 (Below w.heap.size w (((w49.setCell ⟨gb56,0,none⟩ (.int .i64 ((rd_T155 l0_3 x8_1).f0))).setCell ⟨gb56,1,none⟩ (.int .i64 ((rd_T155 l0_3 x8_1).f1))).setCell ⟨gb56,2,none⟩ (.int .i64 ((rd_T155 l0_3 x8_1).f2)))):=⟨bs HB⟩;(try clear BK62);(try clear BK56);(try clear HB)
     generalize (((w49.setCell ⟨gb56,0,none⟩ (.int .i64 ((rd_T155 l0_3 x8_1).f0))).setCell ⟨gb56,1,none⟩ (.int .i64 ((rd_T155 l0_3 x8_1).f1))).setCell ⟨gb56,2,none⟩ (.int .i64 ((rd_T155 l0_3 x8_1).f2)))=w52 at n0_ n1_ n2_ ⊢
     have BK62:=n0_;have BK56:=n1_;have HB:=n2_;clear n0_ n1_ n2_;replace BK62:=am (blk_drew BK62.out);replace BK56:=am (blk_drew BK56.out);replace HB:=am (below_drew1 HB.out);refine sta 42 (hb3a BK56 (hb4 BK62)) (fun hHeld=>?_);refine with_tabW impl_PartnerRight.tab4 impl_PartnerRight.bits4 (fun HT_ HW_=>?_)
     generalize w52.drew=w53 at BK62 BK56 HB hHeld ⊢
     refine pz1 0 ?_;refine pz1 2 ?_;refine ta 1 ?_;refine ta 3 ?_;refine oA 4 17 HT_ (fun K hK=>?_);refine gA Tryz.func105 #[.int .i64 ((rd_T155 l0_3 x8_1).f0),.int .i64 a0_1,.int .i64 999999] ?_;(with_reducible refine (impl_within.calls ((rd_T155 l0_3 x8_1).f0) a0_1 999999 false _ A7.out).mono ?_);rintro e w' ⟨rfl,⟨nd,rfl⟩⟩;refine ⟨_,rfl,?_⟩;refine hK.out _ _ (hb3a BK56 (hb4 BK62)).out (fun hHeld=>?_);clear hK K;refine nA 17 ?_;refine pz8 5 ?_;refine pz8 13 ?_;refine pz8 21 ?_;refine pz8 29 ?_;refine pz4 37 ?_;refine pz1 41 ?_;refine done_ (done_of HT_.out (by kernel_rfl)) ?_
     try go_wp2
     go_ret
     exact ⟨ff,bs HB⟩
   ·intro c4b0 H;replace H:=bo H;obtain ⟨t65,A54,H⟩:=H;have hcz55:=cf4 BK62
    try go_wp2_with (fail)
    go_at_call 53;(with_reducible refine (impl_isName.calls k1 a0_0 t65 _ A54.out).mono ?_);rintro e w' ⟨rfl,⟨nd,rfl⟩⟩
    obtain rfl|rfl:=bt t65
    ·replace H:=itT H;replace H:=bo H;obtain ⟨t66,A57,H⟩:=H;have hcz58:=cf4 BK62
     try go_wp2_with (fail)
     go_at_call 126;(with_reducible refine (impl_isControl.calls a0_1 t66 _ A57.out).mono ?_);rintro e w' ⟨rfl,⟨nd,rfl⟩⟩
     obtain rfl|rfl:=bt t66
     ·replace H:=itT H;replace H:=bo H;obtain ⟨t70,A60,H⟩:=H;obtain rfl:=si H;have hcz61:=cf4 BK62
      go_wp2_with (first|(go_at_call 126;(with_reducible refine (impl_isControl.calls a0_2 t70 _ A60.out).mono ?_);rintro e w' ⟨rfl,⟨nd,rfl⟩⟩))
      go_ret
      exact ⟨ff,bs HB⟩
     ·replace H:=itF H;obtain rfl:=si H
      go_wp2
      go_ret
      exact ⟨ff,bs HB⟩
    ·replace H:=itF H;obtain rfl:=si H
     go_wp2
     go_ret
     exact ⟨ff,bs HB⟩
theorem cmp_isNaN_string.calls (a0:ByteArray) (r:Bool) (w:World) (H:cmp_isNaN_string.f a0=some r) :
  Calls Tryz.prog 155 #[.string a0] w fun e w'=>e=.returned (.bool r)∧Drawn0 w w':=by
 unfold cmp_isNaN_string.f at H;obtain rfl:=si H
 go_in
 go_wp2
 go_ret
 exact ⟨fg,dr⟩
theorem cmp_Compare_string.calls (a0:ByteArray) (a1:ByteArray) (r:Int) (w:World) (H:cmp_Compare_string.f a0 a1=some r) :
  Calls Tryz.prog 145 #[.string a0,.string a1] w fun e w'=>e=.returned (.int .i64 r)∧Drawn0 w w':=by
 unfold cmp_Compare_string.f at H;replace H:=bo H;obtain ⟨t6,A3,H⟩:=H
 go_in
 try go_wp2_with (fail)
 go_at_call 155;(with_reducible refine (cmp_isNaN_string.calls a0 t6 _ A3.out).mono ?_);rintro e w' ⟨rfl,⟨nd,rfl⟩⟩;replace H:=bo H;obtain ⟨t5,A4,H⟩:=H
 try go_wp2_with (fail)
 go_at_call 155;(with_reducible refine (cmp_isNaN_string.calls a1 t5 _ A4.out).mono ?_);rintro e w' ⟨rfl,⟨nd,rfl⟩⟩
 obtain rfl|rfl:=bt t6
 ·replace H:=itT H
  obtain rfl|rfl:=bt t5
  ·replace H:=itT H;obtain rfl:=si H
   go_wp2
   go_ret
   exact ⟨fg,dr⟩
  ·replace H:=itF H;obtain rfl:=si H
   go_wp2
   go_ret
   exact ⟨fg,dr⟩
 ·replace H:=itF H
  obtain rfl|rfl:=bt t5
  ·replace H:=itT H;obtain rfl:=si H
   go_wp2
   go_ret
   exact ⟨fg,dr⟩
  ·replace H:=itF H
   revert H;refine ip2 ?_ ?_
   ·intro c8 H;have c8b0:(Op.bytesLess a0.toList a1.toList)=true:=c8;clear c8;obtain rfl:=si H
    go_wp2
    go_ret
    exact ⟨fg,dr⟩
   ·intro c8 H
    have c8b0:(Op.bytesLess a0.toList a1.toList)=false:=by simpa using c8
    clear c8
    revert H;refine ip2 ?_ ?_
    ·intro c9 H;have c9b0:(Op.bytesLess a1.toList a0.toList)=true:=c9;clear c9;obtain rfl:=si H
     go_wp2
     go_ret
     exact ⟨fg,dr⟩
    ·intro c9 H
     have c9b0:(Op.bytesLess a1.toList a0.toList)=false:=by simpa using c9
     clear c9;obtain rfl:=si H
     go_wp2
     go_ret
     exact ⟨fg,dr⟩
theorem cmp_Or_int.calls (k:Nat) (A0:Option Addr) (c0:Nat) (l0:List Int) (r:Int) (w:World) (hr0:Kd.C (Kd.int .i64) w A0 l0.length l0) (hc0:l0.length≤c0) (H:cmp_Or_int.f k l0=some r) :
  Calls Tryz.prog 144 #[.slice A0 l0.length c0] w fun e w'=>e=.returned (.int .i64 r)∧Drawn0 w w':=by
 have HR0:=am hr0;have HC0:=am hc0;clear hr0 hc0;unfold cmp_Or_int.f at H;have H':=am H;clear H
 go_in
 go_wp2
 go_loopg [8] k (fun kq v8 w'=>∃ (x8_1:Int),v8=.int .i64 x8_1∧Aside0 (cmp_Or_int.l0 kq 0 l0 (l0.length:Int) x8_1=some r)∧Aside0 (kq≤k)∧Drawn0 w w')
 case atStart=>exact ⟨(0),fg,H',⟨Nat.le_refl _⟩,by repeat (first|exact Drawn0.refl _|apply Drawn0.step)⟩
 case round =>
  clear H'
  obtain ⟨x8_1,rfl,HA,HK1,⟨m1,rfl⟩⟩:=hrel
  cases gk with
  | zero=>exact absurd HA.out (by simp [cmp_Or_int.l0])
  | succ k1 =>
   have H:=HA.out;clear HA;simp only [cmp_Or_int.l0] at H
   revert H;refine id2 ?_ ?_
   ·intro c2b0 H
    revert H;refine id1 ?_
    intro c3b0 H
    revert H;refine id1 ?_
    intro c4b0 H
    revert H;refine ie2 ?_ ?_
    ·intro c5b0 c5b1 H;have H':=am H;clear H;have p6:0≤(x8_1:Int):=oa;have q6:x8_1<(l0.length:Int):=oa;obtain ⟨ad6,e6,hx6_0⟩:=Kd.at_int HR0.out x8_1 p6 q6
     cases e6
     replace p6:=eq_true p6;replace q6:=eq_true q6
     go_wp2
     go_roundg k1
     case measure=>have:=HK1.out;omega
     case rel=>exact ⟨(wrap64 (x8_1+1)),fg,H',⟨by have:=HK1.out;omega⟩,by repeat (first|exact Drawn0.refl _|apply Drawn0.step)⟩
    ·intro c5 c5b0 c5b1 H;obtain rfl:=si H;have p6:0≤(x8_1:Int):=oa;have q6:x8_1<(l0.length:Int):=oa;obtain ⟨ad6,e6,hx6_0⟩:=Kd.at_int HR0.out x8_1 p6 q6
     cases e6
     replace p6:=eq_true p6;replace q6:=eq_true q6
     go_wp2
     go_ret
     exact ⟨fg,dr⟩
   ·intro c2b0 H;obtain rfl:=si H
    go_wp2
    go_ret
    exact ⟨fg,dr⟩
def impl_crossOrder.T1:Bool × List (List Nat × List Nat):=(true,[([],[]),([0],[0]),([],[]),([2],[2]),([1,3],[1,3]),([],[]),([5],[5]),([],[]),([7],[7]),([6,8,4],[6,8]),([4,9],[4,9]),([10,9],[10]),([11,11,0,1,2,3,4,5,6,7,8,9,10,11],[11])])
def impl_crossOrder.B1:List Nat:=[0,1,0,4,15,0,32,0,128,511,1023,2047,4095]
theorem impl_crossOrder.tab1:rtab .any (opsOf Tryz.f128 1)=impl_crossOrder.T1:=by kernel_rfl
theorem impl_crossOrder.bits1:waitsOk impl_crossOrder.T1.2 impl_crossOrder.B1=true:=by kernel_rfl
theorem impl_crossOrder.calls (k:Nat) (a0_0:ByteArray) (a0_1:ByteArray) (a0_2:ByteArray) (a1_0:ByteArray) (a1_1:ByteArray) (a1_2:ByteArray) (r:Int) (w:World) (H:impl_crossOrder.f k a0_0 a0_1 a0_2 a1_0 a1_1 a1_2=some r) :
  Calls Tryz.prog 128 #[.agg #[.string a0_0,.string a0_1,.string a0_2],.agg #[.string a1_0,.string a1_1,.string a1_2]] w fun e w'=>e=.returned (.int .i64 r)∧Below w.heap.size w w':=by
 have hu114:=Tryz.underlying114;have HB:=am (Below.refl w.heap.size w);unfold impl_crossOrder.f at H;replace H:=bo H;obtain ⟨t20,A3,H⟩:=H;replace H:=bo H;obtain ⟨t21,A4,H⟩:=H;obtain ⟨y19,hy19⟩:∃ y_:List Int,y_=(([t20,t21]:List Int)):=⟨_,rfl⟩
 replace H:((cmp_Or_int.f k y19).bind fun t22=>(some t22))=some r:=ye hy19 H
 have Ny19:=am hy19;clear hy19;replace H:=bo H;obtain ⟨t22,A5,H⟩:=H;obtain rfl:=si H
 go_in
 try go_wp2_with (first|((with_reducible refine gate_dst (N:=2) rfl ?_);refine bz 2 (cs:=#[.string a0_0,.string a0_1,.string a0_2]) (t:=114) HB ?_;clear HB;intro gb17 hg w6 BK17 GW17 hb HB;clear hb hg)|((with_reducible refine gate_dst (N:=3) rfl ?_);refine bz 3 (cs:=#[.string a1_0,.string a1_1,.string a1_2]) (t:=114) HB ?_;clear HB;intro gb18 hg w7 BK18 GW18 hb HB;have NB17_18:=na hg BK17;have NB18_17:=nc hg BK17;replace BK17:=bb BK17 hb;clear hb hg))
 replace BK17:=am (blk_drew BK17.out);replace BK18:=am (blk_drew BK18.out);replace HB:=am (below_drew1 HB.out);refine sta 13 (hb3a BK17 (hb3 BK18)) (fun hHeld=>?_);refine with_tabW impl_crossOrder.tab1 impl_crossOrder.bits1 (fun HT_ HW_=>?_)
 generalize w7.drew=w8 at BK17 BK18 HB hHeld ⊢
 refine pz1 0 ?_;refine pz1 2 ?_;refine pz1 5 ?_;refine pz1 7 ?_;refine ta 1 ?_;refine ta 3 ?_;refine ta 6 ?_;refine ta 8 ?_;refine oA 4 9 HT_ (fun K hK=>?_);refine gA Tryz.func145 #[.string a0_0,.string a1_0] ?_;(with_reducible refine (cmp_Compare_string.calls a0_0 a1_0 t20 _ A3.out).mono ?_);rintro e w' ⟨rfl,⟨nd,rfl⟩⟩;refine ⟨_,rfl,?_⟩;refine hK.out _ _ (hb3a BK17 (hb3 BK18)).out (fun hHeld=>?_);clear hK K;refine nA 9 ?_;refine oA 9 14 HT_ (fun K hK=>?_);refine gA Tryz.func145 #[.string a0_1,.string a1_1] ?_;(with_reducible refine (cmp_Compare_string.calls a0_1 a1_1 t21 _ A4.out).mono ?_);rintro e w' ⟨rfl,⟨nd,rfl⟩⟩;refine ⟨_,rfl,?_⟩;refine hK.out _ _ (hb3a BK17 (hb3 BK18)).out (fun hHeld=>?_);clear hK K;refine nA 14 ?_;refine oA 10 15 HT_ (fun K hK=>?_);refine Kd.R_lit_step (Kd.int .i64) _ 3 ?hg (N:=15) ?hd (xs:=([t20,t21]:List Int)) (inner:=[.int .i64 t20,.int .i64 t21]) (ok:=fun _=>True) (okp:=fun _=>True) ?hr ?hp (fun _ hk=>hk) trivial (Below.refl _ _) (Nat.le_refl _) (by simp) ?_;(case hd=>rfl);(case hg=>rfl);(case hr=>first|(go_simp;done)|(go_simp;rfl));(case hp=>exact (Reps.one (show Kd.M (Kd.int .i64) _ _ _ t20 [.int .i64 t20] from rfl) (Reps.one (show Kd.M (Kd.int .i64) _ _ _ t21 [.int .i64 t21] from rfl) (Reps.none _ _))));intro v24 w9 ho10 hb hg_ hnew_;clear hg_ hnew_
 (first|rw [← Ny19.out] at ho10|(simp only [Int.reduceToNat] at ho10;rw [← Ny19.out] at ho10))
 have HO23:=am (Kd.R_lower ho10 (below_size (bs HB)));replace BK17:=bb BK17 hb;replace BK18:=bb BK18 hb;replace HB:=bq HB hb;clear hb ho10;obtain ⟨Ao11,co11,eo11⟩:=Kd.R_slice HO23.out
 (first|subst eo11|(injection eo11 with f1_ f2_ f3_;have f4_:=f1_.symm;have f5_:=f3_.symm;clear f1_ f2_ f3_;subst f4_;subst f5_))
 refine hK.out _ _ (hb3a BK17 (hb3 BK18)).out (fun hHeld=>?_);clear hK K;refine nA 15 ?_;refine oA 11 16 HT_ (fun K hK=>?_);refine gA Tryz.func144 #[.slice Ao11 y19.length co11] ?_;(with_reducible refine (cmp_Or_int.calls k _ _ y19 t22 _ ?side1 ?side2 A5.out).mono ?_)
 (case side1=>exact sd (Kd.R_reads' HO23.out).2.2)
 (case side2=>exact (Kd.R_reads' HO23.out).2.1)
 rintro e w' ⟨rfl,⟨nd,rfl⟩⟩;refine ⟨_,rfl,?_⟩;refine hK.out _ _ (hb3a BK17 (hb3 BK18)).out (fun hHeld=>?_);clear hK K;refine nA 16 ?_;refine pz1 12 ?_;refine done_ (done_of HT_.out (by kernel_rfl)) ?_
 try go_wp2
 go_ret
 exact ⟨ff,bs HB⟩
def IsS114 (w0 W:World) (g:Nat) (f0:ByteArray) (f1:ByteArray) (f2:ByteArray):Prop:=W.heap[g]? = some (.cells #[.string f0,.string f1,.string f2] 114 (0,0))∧w0.heap.size≤g
theorem IsS114.grown {w0 W:World} {g:Nat} {f0:ByteArray} {f1:ByteArray} {f2:ByteArray} {W1:World} {row:Option Nat} (h:IsS114 w0 W g f0 f1 f2) (hw:W.grownBy W1 row) (hne:some g≠row):IsS114 w0 W1 g f0 f1 f2:=by
 obtain ⟨hb,hg⟩:=h
 exact ⟨blk_grown hb hw hne,hg⟩
theorem IsS114.kept {w0 W:World} {g:Nat} {f0:ByteArray} {f1:ByteArray} {f2:ByteArray} {W1:World} {S:Nat→Prop} (h:IsS114 w0 W g f0 f1 f2) (hk:Kept W W1 S) (hne:¬ S g):IsS114 w0 W1 g f0 f1 f2:=by
 obtain ⟨hb,hg⟩:=h
 exact ⟨blk_kept hb hk hne,hg⟩
theorem IsS114.below {w0 W:World} {g:Nat} {f0:ByteArray} {f1:ByteArray} {f2:ByteArray} {W1:World} (h:IsS114 w0 W g f0 f1 f2) (hw:Below W.heap.size W W1):IsS114 w0 W1 g f0 f1 f2:=h.grown (grown_of_below hw none) (by simp)
theorem IsS114.alloc {w0 W:World} {g:Nat} {f0:ByteArray} {f1:ByteArray} {f2:ByteArray} (h:IsS114 w0 W g f0 f1 f2) (o:Obj):IsS114 w0 (W.alloc o) g f0 f1 f2:=h.below (below_alloc (Below.refl _ _) o)
theorem IsS114.drewN {w0 W:World} {g:Nat} {f0:ByteArray} {f1:ByteArray} {f2:ByteArray} (h:IsS114 w0 W g f0 f1 f2) (m:Nat):IsS114 w0 (W.drewN m) g f0 f1 f2:=h
theorem IsS114.drew {w0 W:World} {g:Nat} {f0:ByteArray} {f1:ByteArray} {f2:ByteArray} (h:IsS114 w0 W g f0 f1 f2):IsS114 w0 W.drew g f0 f1 f2:=h
theorem IsS114.at_ {w0 W:World} {g:Nat} {f0:ByteArray} {f1:ByteArray} {f2:ByteArray} {w':World} {m:Nat} (hq:W.drewN m=w') (h:IsS114 w0 W g f0 f1 f2):IsS114 w0 w' g f0 f1 f2:=by subst hq;exact IsS114.drewN h m
theorem IsS114.apart {w0 W:World} {g:Nat} {f0:ByteArray} {f1:ByteArray} {f2:ByteArray} {α:Type} {d:Kd α} {e:Nat} {base:Nat} {ok:Nat→Prop} {v:Value} {xs:List α} (h:IsS114 w0 W g f0 f1 f2) (ho:d.R e W base ok v xs) (ht:∀ q,q ∈ e :: d.E→q≠114):d.R e W base (fun k=>ok k∧k≠g) v xs:=by
 obtain ⟨hb,hg⟩:=h
 exact Kd.R_types ho hb ht
theorem IsS114.own_ne {w0 W:World} {g:Nat} {f0:ByteArray} {f1:ByteArray} {f2:ByteArray} {α:Type} {d:Kd α} {e:Nat} {base:Nat} {ok:Nat→Prop} {v:Value} {xs:List α} (h:IsS114 w0 W g f0 f1 f2) (ho:d.R e W base ok v xs) (ht:e≠114):some g≠v.ownBlock:=by
 obtain ⟨hb,hg⟩:=h
 exact Kd.R_ne ho hb ht
theorem IsS114.lt {w0 W:World} {g:Nat} {f0:ByteArray} {f1:ByteArray} {f2:ByteArray} (h:IsS114 w0 W g f0 f1 f2):g<W.heap.size:=by
 obtain ⟨hb,hg⟩:=h
 exact blk_lt hb
theorem IsS114.ge {w0 W:World} {g:Nat} {f0:ByteArray} {f1:ByteArray} {f2:ByteArray} (h:IsS114 w0 W g f0 f1 f2):w0.heap.size≤g:=by
 obtain ⟨hb,hg⟩:=h
 exact hg
theorem IsS114.far {w0 W:World} {g:Nat} {f0:ByteArray} {f1:ByteArray} {f2:ByteArray} {p:Addr} (h:IsS114 w0 W g f0 f1 f2) (hne:g≠p.block) (u:Value):IsS114 w0 (W.setCell p u) g f0 f1 f2:=by
 obtain ⟨hb,hg⟩:=h
 exact ⟨blk_far hb hne u,hg⟩
theorem cellS114_0 {W:World} {g:Nat} {f0:ByteArray} {f1:ByteArray} {f2:ByteArray} (h:W.heap[g]? = some (.cells #[.string f0,.string f1,.string f2] 114 (0,0))):W.cell? ⟨g,0,none⟩=some (.string f0):=(blk_cell h 0).trans rfl
theorem IsS114.set_0 {w0 W:World} {g:Nat} {f0:ByteArray} {f1:ByteArray} {f2:ByteArray} (h:IsS114 w0 W g f0 f1 f2) (x:ByteArray):IsS114 w0 (W.setCell ⟨g,0,none⟩ (.string x)) g x f1 f2:=by
 obtain ⟨hb,hg⟩:=h
 exact ⟨by simpa using blk_set hb 0 (.string x),hg⟩
theorem cellS114_1 {W:World} {g:Nat} {f0:ByteArray} {f1:ByteArray} {f2:ByteArray} (h:W.heap[g]? = some (.cells #[.string f0,.string f1,.string f2] 114 (0,0))):W.cell? ⟨g,1,none⟩=some (.string f1):=(blk_cell h 1).trans rfl
theorem IsS114.set_1 {w0 W:World} {g:Nat} {f0:ByteArray} {f1:ByteArray} {f2:ByteArray} (h:IsS114 w0 W g f0 f1 f2) (x:ByteArray):IsS114 w0 (W.setCell ⟨g,1,none⟩ (.string x)) g f0 x f2:=by
 obtain ⟨hb,hg⟩:=h
 exact ⟨by simpa using blk_set hb 1 (.string x),hg⟩
theorem cellS114_2 {W:World} {g:Nat} {f0:ByteArray} {f1:ByteArray} {f2:ByteArray} (h:W.heap[g]? = some (.cells #[.string f0,.string f1,.string f2] 114 (0,0))):W.cell? ⟨g,2,none⟩=some (.string f2):=(blk_cell h 2).trans rfl
theorem IsS114.set_2 {w0 W:World} {g:Nat} {f0:ByteArray} {f1:ByteArray} {f2:ByteArray} (h:IsS114 w0 W g f0 f1 f2) (x:ByteArray):IsS114 w0 (W.setCell ⟨g,2,none⟩ (.string x)) g f0 f1 x:=by
 obtain ⟨hb,hg⟩:=h
 exact ⟨by simpa using blk_set hb 2 (.string x),hg⟩
theorem impl_CrossRight_1.calls (a0_0:ByteArray) (a0_1:ByteArray) (a0_2:ByteArray) (g:Nat) (s1_0:ByteArray) (s1_1:ByteArray) (s1_2:ByteArray) (r1:Bool) (r2:ByteArray) (r3:ByteArray) (r4:ByteArray) (w0 w:World) (hI:IsS114 w0 w g s1_0 s1_1 s1_2) (hB:Below w0.heap.size w0 w) (H:impl_CrossRight_1.f a0_0 a0_1 a0_2 s1_0 s1_1 s1_2=some (r1,r2,r3,r4)) :
  Calls Tryz.prog 130 #[.agg #[.string a0_0,.string a0_1,.string a0_2],.pointer (some ⟨g,0,none⟩)] w fun e w'=>e=.returned (.bool r1)∧IsS114 w0 w' g r2 r3 r4∧Below w0.heap.size w0 w'∧KeepBut w w' g none:=by
 have hu114:=Tryz.underlying114;have HI1:=am hI;have HK:=am (KeepBut.refl w g none);have HL:=am hB.size;clear hI;have HW0:=am hB.size;have HB:=am hB;clear hB;unfold impl_CrossRight_1.f at H
 revert H;refine ie2 ?_ ?_
 ·intro c3b0 c3b1 H;replace H:=sj4 H;obtain ⟨rfl,rfl,rfl,rfl⟩:=H
  go_in
  go_wp2_with (first|((with_reducible refine gate_dst (N:=2) rfl ?_);refine bx 2 (cs:=#[.string a0_0,.string a0_1,.string a0_2]) (t:=114) ?_;intro gb12 hg w4 hbox hb;have n0_:=am (IsS114.below (by repeat (first|(with_reducible first|exact HI1.out|apply IsS114.alloc|apply IsS114.drewN|apply IsS114.drew|apply IsS114.set_0|apply IsS114.set_1|apply IsS114.set_2)|exact HI1.out)) hb);have n1_:=am (KeepBut.trans (by repeat (first|(with_reducible first|exact HK.out|apply KeepBut.set_|apply keep_drewN|apply keep_drew|apply keep_alloc)|exact HK.out)) (KeepBut.of_below hb g none) (.inl rfl));have n2_:=am (below_step (by repeat (first|(with_reducible first|exact HB.out|apply below_alloc|apply pw_below_drewN|apply below_drew1|refine below_set ?_ (IsS114.ge HI1.out))|exact HB.out)) hb);have n3_:=am (hbox);have n4_:=am ((by rw [hg];exact (keep_size (w:=w) (g:=g) (row:=none) (by repeat (first|(with_reducible first|exact HK.out|apply KeepBut.set_|apply keep_drewN|apply keep_drew|apply keep_alloc)|exact HK.out))):w.heap.size≤gb12));have n5_:=am ((Nat.le_trans HW0.out (by rw [hg];exact (keep_size (w:=w) (g:=g) (row:=none) (by repeat (first|(with_reducible first|exact HK.out|apply KeepBut.set_|apply keep_drewN|apply keep_drew|apply keep_alloc)|exact HK.out))):w.heap.size≤gb12):w0.heap.size≤gb12));have n6_:=am ((by rw [hg];exact Nat.ne_of_lt (IsS114.lt (show IsS114 w0 _ g s1_0 s1_1 s1_2 from by repeat (first|(with_reducible first|exact HI1.out|apply IsS114.alloc|apply IsS114.drewN|apply IsS114.drew|apply IsS114.set_0|apply IsS114.set_1|apply IsS114.set_2)|exact HI1.out))):g≠gb12));have n7_:=am ((by rw [hg];exact Nat.ne_of_gt (IsS114.lt (show IsS114 w0 _ g s1_0 s1_1 s1_2 from by repeat (first|(with_reducible first|exact HI1.out|apply IsS114.alloc|apply IsS114.drewN|apply IsS114.drew|apply IsS114.set_0|apply IsS114.set_1|apply IsS114.set_2)|exact HI1.out))):gb12≠g));clear HI1;clear HK;clear HB;have HI1:=n0_;have HK:=n1_;have HB:=n2_;have BK12:=n3_;have GW12:=n4_;have GE12:=n5_;have NB1_12:=n6_;have NB12_1:=n7_;clear n0_ n1_ n2_ n3_ n4_ n5_ n6_ n7_;clear hb hbox hg;have hnb5:=NB12_1.out;have hnc5:=NB1_12.out;have hcz6:=cf3 BK12;obtain ⟨HGz7,hgz7⟩:=HI1.out;have hcz7_0:=cellS114_0 HGz7;have hcz7_1:=cellS114_1 HGz7;have hcz7_2:=cellS114_2 HGz7;have hfz7_0:=blk_frozen HGz7 0;have hfz7_1:=blk_frozen HGz7 1;have hfz7_2:=blk_frozen HGz7 2;clear HGz7 hgz7))
  go_ret
  exact ⟨ff,by repeat (first|(with_reducible first|exact HI1.out|apply IsS114.alloc|apply IsS114.drewN|apply IsS114.drew|apply IsS114.set_0|apply IsS114.set_1|apply IsS114.set_2|refine IsS114.far ?_ NB1_12.out _)|exact HI1.out),by repeat (first|(with_reducible first|exact HB.out|apply below_alloc|apply pw_below_drewN|apply below_drew1|refine below_set ?_ (IsS114.ge HI1.out)|refine below_set ?_ GE12.out)|exact HB.out),by repeat (first|(with_reducible first|exact HK.out|apply KeepBut.set_|apply keep_drewN|apply keep_drew|apply keep_alloc|refine keep_far ?_ GW12.out _)|exact HK.out)⟩
 ·intro c3 c3b0 c3b1 H;replace H:=sj4 H;obtain ⟨rfl,rfl,rfl,rfl⟩:=H
  go_in
  go_wp2_with (first|((with_reducible refine gate_dst (N:=2) rfl ?_);refine bx 2 (cs:=#[.string a0_0,.string a0_1,.string a0_2]) (t:=114) ?_;intro gb12 hg w8 hbox hb;have n0_:=am (IsS114.below (by repeat (first|(with_reducible first|exact HI1.out|apply IsS114.alloc|apply IsS114.drewN|apply IsS114.drew|apply IsS114.set_0|apply IsS114.set_1|apply IsS114.set_2)|exact HI1.out)) hb);have n1_:=am (KeepBut.trans (by repeat (first|(with_reducible first|exact HK.out|apply KeepBut.set_|apply keep_drewN|apply keep_drew|apply keep_alloc)|exact HK.out)) (KeepBut.of_below hb g none) (.inl rfl));have n2_:=am (below_step (by repeat (first|(with_reducible first|exact HB.out|apply below_alloc|apply pw_below_drewN|apply below_drew1|refine below_set ?_ (IsS114.ge HI1.out))|exact HB.out)) hb);have n3_:=am (hbox);have n4_:=am ((by rw [hg];exact (keep_size (w:=w) (g:=g) (row:=none) (by repeat (first|(with_reducible first|exact HK.out|apply KeepBut.set_|apply keep_drewN|apply keep_drew|apply keep_alloc)|exact HK.out))):w.heap.size≤gb12));have n5_:=am ((Nat.le_trans HW0.out (by rw [hg];exact (keep_size (w:=w) (g:=g) (row:=none) (by repeat (first|(with_reducible first|exact HK.out|apply KeepBut.set_|apply keep_drewN|apply keep_drew|apply keep_alloc)|exact HK.out))):w.heap.size≤gb12):w0.heap.size≤gb12));have n6_:=am ((by rw [hg];exact Nat.ne_of_lt (IsS114.lt (show IsS114 w0 _ g s1_0 s1_1 s1_2 from by repeat (first|(with_reducible first|exact HI1.out|apply IsS114.alloc|apply IsS114.drewN|apply IsS114.drew|apply IsS114.set_0|apply IsS114.set_1|apply IsS114.set_2)|exact HI1.out))):g≠gb12));have n7_:=am ((by rw [hg];exact Nat.ne_of_gt (IsS114.lt (show IsS114 w0 _ g s1_0 s1_1 s1_2 from by repeat (first|(with_reducible first|exact HI1.out|apply IsS114.alloc|apply IsS114.drewN|apply IsS114.drew|apply IsS114.set_0|apply IsS114.set_1|apply IsS114.set_2)|exact HI1.out))):gb12≠g));clear HI1;clear HK;clear HB;have HI1:=n0_;have HK:=n1_;have HB:=n2_;have BK12:=n3_;have GW12:=n4_;have GE12:=n5_;have NB1_12:=n6_;have NB12_1:=n7_;clear n0_ n1_ n2_ n3_ n4_ n5_ n6_ n7_;clear hb hbox hg;have hnb9:=NB12_1.out;have hnc9:=NB1_12.out;have hcz10:=cf3 BK12;obtain ⟨HGz11,hgz11⟩:=HI1.out;have hcz11_0:=cellS114_0 HGz11;have hcz11_1:=cellS114_1 HGz11;have hcz11_2:=cellS114_2 HGz11;have hfz11_0:=blk_frozen HGz11 0;have hfz11_1:=blk_frozen HGz11 1;have hfz11_2:=blk_frozen HGz11 2;clear HGz11 hgz11))
  go_ret
  exact ⟨ff,by repeat (first|(with_reducible first|exact HI1.out|apply IsS114.alloc|apply IsS114.drewN|apply IsS114.drew|apply IsS114.set_0|apply IsS114.set_1|apply IsS114.set_2|refine IsS114.far ?_ NB1_12.out _)|exact HI1.out),by repeat (first|(with_reducible first|exact HB.out|apply below_alloc|apply pw_below_drewN|apply below_drew1|refine below_set ?_ (IsS114.ge HI1.out)|refine below_set ?_ GE12.out)|exact HB.out),by repeat (first|(with_reducible first|exact HK.out|apply KeepBut.set_|apply keep_drewN|apply keep_drew|apply keep_alloc|refine keep_far ?_ GW12.out _)|exact HK.out)⟩
theorem impl_Cross_impl_CrossRight_1_146.calls (k:Nat) (A0:Option Addr) (c0:Nat) (l0:List (S114)) (g:Nat) (s1_0:ByteArray) (s1_1:ByteArray) (s1_2:ByteArray) (r1:Int) (r2:ByteArray) (r3:ByteArray) (r4:ByteArray) (w0 w:World) (hI:IsS114 w0 w g s1_0 s1_1 s1_2) (hB:Below w0.heap.size w0 w) (hr0:∀ W_,KeepBut w W_ g none→Kd.C k114 W_ A0 l0.length l0) (hc0:l0.length≤c0) (H:impl_Cross_impl_CrossRight_1_146.f k l0 s1_0 s1_1 s1_2=some (r1,r2,r3,r4)) :
  Calls Tryz.prog 146 #[.slice A0 l0.length c0,.func (.func 130) #[] #[.pointer (some ⟨g,0,none⟩)]] w fun e w'=>e=.returned (.int .i64 r1)∧IsS114 w0 w' g r2 r3 r4∧Below w0.heap.size w0 w'∧KeepBut w w' g none:=by
 have hu114:=Tryz.underlying114;have HR0:=am hr0;have HC0:=am hc0;clear hr0 hc0;have HI1:=am hI;have HK:=am (KeepBut.refl w g none);have HL:=am hB.size;clear hI;have HW0:=am hB.size;have HB:=am hB;clear hB;unfold impl_Cross_impl_CrossRight_1_146.f at H;have H':=am H;clear H
 go_in
 go_wp2
 go_loopg [8] k (fun kq v8 w'=>∃ (x8_1:Int) (x10_1:ByteArray) (x11_1:ByteArray) (x12_1:ByteArray),v8=.int .i64 x8_1∧Aside0 (impl_Cross_impl_CrossRight_1_146.l0 kq l0 (l0.length:Int) x8_1 x10_1 x11_1 x12_1=some (r1,r2,r3,r4))∧Aside0 (kq≤k)∧Aside0 (IsS114 w0 w' g x10_1 x11_1 x12_1)∧Aside0 (KeepBut w w' g none)∧Aside0 (Below w0.heap.size w0 w'))
 case atStart=>exact ⟨(0),(s1_0),(s1_1),(s1_2),fg,H',⟨Nat.le_refl _⟩,⟨by repeat (first|(with_reducible first|exact HI1.out|apply IsS114.alloc|apply IsS114.drewN|apply IsS114.drew|apply IsS114.set_0|apply IsS114.set_1|apply IsS114.set_2)|exact HI1.out)⟩,⟨by repeat (first|(with_reducible first|exact HK.out|apply KeepBut.set_|apply keep_drewN|apply keep_drew|apply keep_alloc)|exact HK.out)⟩,⟨by repeat (first|(with_reducible first|exact HB.out|apply below_alloc|apply pw_below_drewN|apply below_drew1|refine below_set ?_ (IsS114.ge HI1.out))|exact HB.out)⟩⟩
 case round =>
  clear H'
  obtain ⟨x8_1,x10_1,x11_1,x12_1,rfl,HA,HK1,HI1,HK,HB⟩:=hrel
  cases gk with
  | zero=>exact absurd HA.out (by simp [impl_Cross_impl_CrossRight_1_146.l0])
  | succ k1 =>
   have H:=HA.out;clear HA;simp only [impl_Cross_impl_CrossRight_1_146.l0] at H
   revert H;refine id2 ?_ ?_
   ·intro c3b0 H
    revert H;refine id1 ?_
    intro c4b0 H
    revert H;refine id1 ?_
    intro c5b0 H;replace H:=bo H;obtain ⟨⟨t13,t14,t15,t16⟩,A6,H⟩:=H;(try dsimp only at H);have p9:0≤(x8_1:Int):=oa;have q9:x8_1<(l0.length:Int):=oa;obtain ⟨ad9,e9,hx9_0,hx9_1,hx9_2⟩:=at_T114 (Kd.C_foot_now HR0.out HK.out) x8_1 p9 q9
    cases e9
    replace p9:=eq_true p9;replace q9:=eq_true q9
    try go_wp2_with (fail)
    go_at_call 130;(with_reducible refine (impl_CrossRight_1.calls ((rd_T114 l0 x8_1).f0) ((rd_T114 l0 x8_1).f1) ((rd_T114 l0 x8_1).f2) g x10_1 x11_1 x12_1 t13 t14 t15 t16 w0 _ ?side1 ?side2 A6.out).mono ?_);(case side1=>repeat (first|(with_reducible first|exact HI1.out|apply IsS114.alloc|apply IsS114.drewN|apply IsS114.drew|apply IsS114.set_0|apply IsS114.set_1|apply IsS114.set_2)|exact HI1.out));(case side2=>repeat (first|(with_reducible first|exact HB.out|apply below_alloc|apply pw_below_drewN|apply below_drew1|refine below_set ?_ (IsS114.ge HI1.out))|exact HB.out));rintro e w7 ⟨rfl,hi,hb,hk⟩;replace HK:=am (KeepBut.trans (by repeat (first|(with_reducible first|exact HK.out|apply KeepBut.set_|apply keep_drewN|apply keep_drew|apply keep_alloc)|exact HK.out)) hk (.inl rfl));replace HB:=am (hb);replace HI1:=am (hi);(try clear hb);(try clear hb2);(try clear hk);(try clear hi)
    obtain rfl|rfl:=bt t13
    ·replace H:=itT H;replace H:=sj4 H;obtain ⟨rfl,rfl,rfl,rfl⟩:=H
     go_wp2
     go_ret
     exact ⟨ff,by repeat (first|(with_reducible first|exact HI1.out|apply IsS114.alloc|apply IsS114.drewN|apply IsS114.drew|apply IsS114.set_0|apply IsS114.set_1|apply IsS114.set_2)|exact HI1.out),by repeat (first|(with_reducible first|exact HB.out|apply below_alloc|apply pw_below_drewN|apply below_drew1|refine below_set ?_ (IsS114.ge HI1.out))|exact HB.out),by repeat (first|(with_reducible first|exact HK.out|apply KeepBut.set_|apply keep_drewN|apply keep_drew|apply keep_alloc)|exact HK.out)⟩
    ·replace H:=itF H;have H':=am H;clear H
     go_wp2
     go_roundg k1
     case measure=>have:=HK1.out;omega
     case rel=>exact ⟨(wrap64 (x8_1+1)),(t14),(t15),(t16),fg,H',⟨by have:=HK1.out;omega⟩,⟨by repeat (first|(with_reducible first|exact HI1.out|apply IsS114.alloc|apply IsS114.drewN|apply IsS114.drew|apply IsS114.set_0|apply IsS114.set_1|apply IsS114.set_2)|exact HI1.out)⟩,⟨by repeat (first|(with_reducible first|exact HK.out|apply KeepBut.set_|apply keep_drewN|apply keep_drew|apply keep_alloc)|exact HK.out)⟩,⟨by repeat (first|(with_reducible first|exact HB.out|apply below_alloc|apply pw_below_drewN|apply below_drew1|refine below_set ?_ (IsS114.ge HI1.out))|exact HB.out)⟩⟩
   ·intro c3b0 H;replace H:=sj4 H;obtain ⟨rfl,rfl,rfl,rfl⟩:=H
    go_wp2
    go_ret
    exact ⟨ff,by repeat (first|(with_reducible first|exact HI1.out|apply IsS114.alloc|apply IsS114.drewN|apply IsS114.drew|apply IsS114.set_0|apply IsS114.set_1|apply IsS114.set_2)|exact HI1.out),by repeat (first|(with_reducible first|exact HB.out|apply below_alloc|apply pw_below_drewN|apply below_drew1|refine below_set ?_ (IsS114.ge HI1.out))|exact HB.out),by repeat (first|(with_reducible first|exact HK.out|apply KeepBut.set_|apply keep_drewN|apply keep_drew|apply keep_alloc)|exact HK.out)⟩
theorem impl_Cross_impl_CrossRight_1_129.calls (k:Nat) (A0:Option Addr) (c0:Nat) (l0:List (S114)) (g:Nat) (s1_0:ByteArray) (s1_1:ByteArray) (s1_2:ByteArray) (r1:Bool) (r2:ByteArray) (r3:ByteArray) (r4:ByteArray) (w0 w:World) (hI:IsS114 w0 w g s1_0 s1_1 s1_2) (hB:Below w0.heap.size w0 w) (hr0:∀ W_,KeepBut w W_ g none→Kd.C k114 W_ A0 l0.length l0) (hc0:l0.length≤c0) (H:impl_Cross_impl_CrossRight_1_129.f k l0 s1_0 s1_1 s1_2=some (r1,r2,r3,r4)) :
  Calls Tryz.prog 129 #[.slice A0 l0.length c0,.func (.func 130) #[] #[.pointer (some ⟨g,0,none⟩)]] w fun e w'=>e=.returned (.bool r1)∧IsS114 w0 w' g r2 r3 r4∧Below w0.heap.size w0 w'∧KeepBut w w' g none:=by
 have HR0:=am hr0;have HC0:=am hc0;clear hr0 hc0;have HI1:=am hI;have HK:=am (KeepBut.refl w g none);have HL:=am hB.size;clear hI;have HW0:=am hB.size;have HB:=am hB;clear hB;unfold impl_Cross_impl_CrossRight_1_129.f at H;replace H:=bo H;obtain ⟨⟨t5,t6,t8,t9⟩,A3,H⟩:=H;(try dsimp only at H);replace H:=sj4 H;obtain ⟨rfl,rfl,rfl,rfl⟩:=H
 go_in
 go_wp2_with (first|((first|((with_reducible refine gate_callee (f:=146) rfl ?_);refine goesL_ (some 7) rfl rfl Tryz.func146 (by kernel_rfl) rfl #[.slice A0 l0.length c0,.func (.func 130) #[] #[.pointer (some ⟨g,0,none⟩)]] rfl (by (try simp only [List.map_toArray,List.map_cons,List.map_nil]);first|done|rfl|(simp only [List.length_drop,List.length_take];rfl)) ?_;(with_reducible refine (impl_Cross_impl_CrossRight_1_146.calls k _ _ l0 g s1_0 s1_1 s1_2 t5 t6 t8 t9 w0 _ ?side1 ?side2 ?side3 HC0.out A3.out).mono ?_);(case side1=>repeat (first|(with_reducible first|exact HI1.out|apply IsS114.alloc|apply IsS114.drewN|apply IsS114.drew|apply IsS114.set_0|apply IsS114.set_1|apply IsS114.set_2)|exact HI1.out));(case side2=>repeat (first|(with_reducible first|exact HB.out|apply below_alloc|apply pw_below_drewN|apply below_drew1|refine below_set ?_ (IsS114.ge HI1.out))|exact HB.out));(case side3=>exact Kd.C_foot_step HR0.out (by repeat (first|(with_reducible first|exact HK.out|apply KeepBut.set_|apply keep_drewN|apply keep_drew|apply keep_alloc)|exact HK.out)));rintro e w4 ⟨rfl,hi,hb,hk⟩;refine ⟨_,rfl,?_⟩)|(go_at_call 146;(with_reducible refine (impl_Cross_impl_CrossRight_1_146.calls k _ _ l0 g s1_0 s1_1 s1_2 t5 t6 t8 t9 w0 _ ?side1 ?side2 ?side3 HC0.out A3.out).mono ?_);(case side1=>repeat (first|(with_reducible first|exact HI1.out|apply IsS114.alloc|apply IsS114.drewN|apply IsS114.drew|apply IsS114.set_0|apply IsS114.set_1|apply IsS114.set_2)|exact HI1.out));(case side2=>repeat (first|(with_reducible first|exact HB.out|apply below_alloc|apply pw_below_drewN|apply below_drew1|refine below_set ?_ (IsS114.ge HI1.out))|exact HB.out));(case side3=>exact Kd.C_foot_step HR0.out (by repeat (first|(with_reducible first|exact HK.out|apply KeepBut.set_|apply keep_drewN|apply keep_drew|apply keep_alloc)|exact HK.out)));rintro e w4 ⟨rfl,hi,hb,hk⟩));replace HK:=am (KeepBut.trans (by repeat (first|(with_reducible first|exact HK.out|apply KeepBut.set_|apply keep_drewN|apply keep_drew|apply keep_alloc)|exact HK.out)) hk (.inl rfl));replace HB:=am (hb);replace HI1:=am (hi);(try clear hb);(try clear hb2);(try clear hk);(try clear hi)))
 go_ret
 exact ⟨ff,by repeat (first|(with_reducible first|exact HI1.out|apply IsS114.alloc|apply IsS114.drewN|apply IsS114.drew|apply IsS114.set_0|apply IsS114.set_1|apply IsS114.set_2)|exact HI1.out),by repeat (first|(with_reducible first|exact HB.out|apply below_alloc|apply pw_below_drewN|apply below_drew1|refine below_set ?_ (IsS114.ge HI1.out))|exact HB.out),by repeat (first|(with_reducible first|exact HK.out|apply KeepBut.set_|apply keep_drewN|apply keep_drew|apply keep_alloc)|exact HK.out)⟩
end Go.Proofs.YtomoflpgdbjojaaGreat.QO
