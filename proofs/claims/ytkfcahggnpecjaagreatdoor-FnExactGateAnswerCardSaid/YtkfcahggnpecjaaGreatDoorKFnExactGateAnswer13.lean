-- Merged by a program of this session (wip/tool/pack.py) out of its own texts for this claim.
import Derived.Test.YtkfcahggnpecjaaGreatDoorKFnExactGateAnswer12
set_option maxHeartbeats 8000000
set_option maxRecDepth 100000
set_option linter.unusedSimpArgs false
set_option linter.unusedVariables false
namespace Go.Proofs.YtkfcahggnpecjaaGreatDoor.QW
open Go.RowKit Go.Proofs.YtkfcahggnpecjaaGreatDoorW.PrintWords Go.Proofs.YtkfcahggnpecjaaGreatDoorW.PrintLast Go.Proofs.YtkfcahggnpecjaaGreatDoorW.PrintMore
attribute [local go_sem] max2_int min2_int max_two min_two max_three min_three max_four min_four   -- for this text's walks alone
theorem impl_isName.calls (k:Nat) (a0:ByteArray) (r:Bool) (w:World) (H:impl_isName.f k a0=some r) :
  Calls Tryz.prog 29 #[.string a0] w fun e w'=>e=.returned (.bool r)∧Drawn0 w w':=by
 unfold impl_isName.f at H;have H':=am H;clear H
 go_in
 go_wp2
 go_loopg [6] k (fun kq v6 w'=>∃ (x6_1:Int),v6=.int .i64 x6_1∧Aside0 (impl_isName.l0 kq a0 (a0.size:Int) x6_1=some r)∧Aside0 (kq≤k)∧Drawn0 w w')
 case atStart=>exact ⟨(0),fg,H',⟨Nat.le_refl _⟩,by repeat (first|exact Drawn0.refl _|apply Drawn0.step)⟩
 case round =>
  clear H';obtain ⟨x6_1,rfl,HA,HK1,⟨m1,rfl⟩⟩:=hrel
  cases gk with
  | zero=>exact absurd HA.out (by simp [impl_isName.l0])
  | succ k1 =>
   have H:=HA.out;clear HA;simp only [impl_isName.l0] at H
   revert H;refine id2 ?_ ?_
   ·intro c2b0 H
    revert H;refine id1 ?_
    intro c3b0 H
    revert H;refine id1 ?_
    intro c4b0 H;replace H:=bo H;obtain ⟨t7,A6,H⟩:=H;have p5:0≤(x6_1:Int):=oa;have q5:x6_1<(a0.size:Int):=oa;have hx5:=bt_at a0 x6_1;replace p5:=eq_true p5;replace q5:=eq_true q5
    try go_wp2_with (fail)
    go_at_call 74;(with_reducible refine (impl_isGreat.calls (bt a0 x6_1) t7 _ A6.out).mono ?_);rintro e w' ⟨rfl,⟨nd,rfl⟩⟩
    obtain rfl|rfl:=bt t7
    ·replace H:=itT H;have H':=am H;clear H
     go_wp2
     go_roundg k1
     case measure=>have:=HK1.out;omega
     case rel=>exact ⟨(wrap64 (x6_1+1)),fg,H',⟨by have:=HK1.out;omega⟩,by repeat (first|exact Drawn0.refl _|apply Drawn0.step)⟩
    ·replace H:=itF H
     revert H;refine ie2 ?_ ?_
     ·intro c8b0 c8b1 H;obtain rfl:=si H
      go_wp2
      go_ret
      exact ⟨fg,dr⟩
     ·intro c8 c8b0 c8b1 H;replace H:=bo H;obtain ⟨t11,A10,H⟩:=H;have p9:0≤(x6_1:Int):=oa;have q9:x6_1<(a0.size:Int):=oa;have hx9:=bt_at a0 x6_1;replace p9:=eq_true p9;replace q9:=eq_true q9
      try go_wp2_with (fail)
      go_at_call 75;(with_reducible refine (impl_isDigit.calls (bt a0 x6_1) t11 _ A10.out).mono ?_);rintro e w' ⟨rfl,⟨nd,rfl⟩⟩
      obtain rfl|rfl:=bt t11
      ·replace H:=itT H;have H':=am H;clear H
       go_wp2
       go_roundg k1
       case measure=>have:=HK1.out;omega
       case rel=>exact ⟨(wrap64 (x6_1+1)),fg,H',⟨by have:=HK1.out;omega⟩,by repeat (first|exact Drawn0.refl _|apply Drawn0.step)⟩
      ·replace H:=itF H
       revert H;refine ie2 ?_ ?_
       ·intro c13b0 c13b1 H;have H':=am H;clear H;have p12:0≤(x6_1:Int):=oa;have q12:x6_1<(a0.size:Int):=oa;have hx12:=bt_at a0 x6_1;replace p12:=eq_true p12;replace q12:=eq_true q12
        go_wp2
        go_roundg k1
        case measure=>have:=HK1.out;omega
        case rel=>exact ⟨(wrap64 (x6_1+1)),fg,H',⟨by have:=HK1.out;omega⟩,by repeat (first|exact Drawn0.refl _|apply Drawn0.step)⟩
       ·intro c13 c13b0 c13b1 H;obtain rfl:=si H;have p12:0≤(x6_1:Int):=oa;have q12:x6_1<(a0.size:Int):=oa;have hx12:=bt_at a0 x6_1;replace p12:=eq_true p12;replace q12:=eq_true q12
        go_wp2
        go_ret
        exact ⟨fg,dr⟩
   ·intro c2b0 H;replace H:=bo H;obtain ⟨t15,A14,H⟩:=H;obtain rfl:=si H
    go_wp2_with (first|((first|((with_reducible refine gate_callee (f:=32) rfl ?_);refine goesL_ (some 34) rfl rfl Tryz.func32 (by kernel_rfl) rfl #[.int .i64 (a0.size:Int),.int .i64 1,.int .i64 12] rfl (by (try simp only [List.map_toArray,List.map_cons,List.map_nil]);first|done|rfl|(simp only [List.length_drop,List.length_take];rfl)) ?_;(with_reducible refine (impl_within.calls (a0.size:Int) 1 12 t15 _ A14.out).mono ?_);rintro e w' ⟨rfl,⟨nd,rfl⟩⟩;refine ⟨_,rfl,?_⟩)|(go_at_call 32;(with_reducible refine (impl_within.calls (a0.size:Int) 1 12 t15 _ A14.out).mono ?_);rintro e w' ⟨rfl,⟨nd,rfl⟩⟩))))
    go_ret
    exact ⟨fg,dr⟩
theorem impl_isDay.calls (a0:Int) (r:Bool) (w:World) (H:impl_isDay.f a0=some r) :
  Calls Tryz.prog 69 #[.int .i64 a0] w fun e w'=>e=.returned (.bool r)∧Drawn0 w w':=by
 unfold impl_isDay.f at H;replace H:=bo H;obtain ⟨t1,A2,H⟩:=H;obtain rfl:=si H
 go_in
 go_wp2_with (first|((first|((with_reducible refine gate_callee (f:=32) rfl ?_);refine goesL_ (some 4) rfl rfl Tryz.func32 (by kernel_rfl) rfl #[.int .i64 a0,.int .i64 0,.int .i64 100000] rfl (by (try simp only [List.map_toArray,List.map_cons,List.map_nil]);first|done|rfl|(simp only [List.length_drop,List.length_take];rfl)) ?_;(with_reducible refine (impl_within.calls a0 0 100000 t1 _ A2.out).mono ?_);rintro e w' ⟨rfl,⟨nd,rfl⟩⟩;refine ⟨_,rfl,?_⟩)|(go_at_call 32;(with_reducible refine (impl_within.calls a0 0 100000 t1 _ A2.out).mono ?_);rintro e w' ⟨rfl,⟨nd,rfl⟩⟩))))
 go_ret
 exact ⟨fg,dr⟩
theorem impl_isControl.calls (a0:Int) (r:Bool) (w:World) (H:impl_isControl.f a0=some r) :
  Calls Tryz.prog 30 #[.int .i64 a0] w fun e w'=>e=.returned (.bool r)∧Drawn0 w w':=by
 unfold impl_isControl.f at H;replace H:=bo H;obtain ⟨t3,A2,H⟩:=H;obtain rfl:=si H
 go_in
 go_wp2_with (first|((first|((with_reducible refine gate_callee (f:=32) rfl ?_);refine goesL_ (some 4) rfl rfl Tryz.func32 (by kernel_rfl) rfl #[.int .i64 a0,.int .i64 1,.int .i64 999999] rfl (by (try simp only [List.map_toArray,List.map_cons,List.map_nil]);first|done|rfl|(simp only [List.length_drop,List.length_take];rfl)) ?_;(with_reducible refine (impl_within.calls a0 1 999999 t3 _ A2.out).mono ?_);rintro e w' ⟨rfl,⟨nd,rfl⟩⟩;refine ⟨_,rfl,?_⟩)|(go_at_call 32;(with_reducible refine (impl_within.calls a0 1 999999 t3 _ A2.out).mono ?_);rintro e w' ⟨rfl,⟨nd,rfl⟩⟩))))
 go_ret
 exact ⟨fg,dr⟩
theorem impl_isCode.calls (a0:Int) (r:Bool) (w:World) (H:impl_isCode.f a0=some r) :
  Calls Tryz.prog 31 #[.int .i64 a0] w fun e w'=>e=.returned (.bool r)∧Drawn0 w w':=by
 unfold impl_isCode.f at H;replace H:=bo H;obtain ⟨t1,A2,H⟩:=H;obtain rfl:=si H
 go_in
 go_wp2_with (first|((first|((with_reducible refine gate_callee (f:=32) rfl ?_);refine goesL_ (some 4) rfl rfl Tryz.func32 (by kernel_rfl) rfl #[.int .i64 a0,.int .i64 0,.int .i64 13] rfl (by (try simp only [List.map_toArray,List.map_cons,List.map_nil]);first|done|rfl|(simp only [List.length_drop,List.length_take];rfl)) ?_;(with_reducible refine (impl_within.calls a0 0 13 t1 _ A2.out).mono ?_);rintro e w' ⟨rfl,⟨nd,rfl⟩⟩;refine ⟨_,rfl,?_⟩)|(go_at_call 32;(with_reducible refine (impl_within.calls a0 0 13 t1 _ A2.out).mono ?_);rintro e w' ⟨rfl,⟨nd,rfl⟩⟩))))
 go_ret
 exact ⟨fg,dr⟩
def impl_PartnerRight.T4:Bool × List (List Nat × List Nat):=(true,[([],[]),([0],[0]),([],[]),([2],[2]),([1,3],[1,3]),([4],[4]),([5,4],[5]),([6],[6]),([7,6],[6,7]),([6],[6]),([9,6],[6,9]),([8,10,6],[6,8,10]),([11,6],[6,11]),([6,12],[6,12]),([13,6],[13]),([14],[14]),([15,14],[14,15]),([16,14,14],[14,16]),([17,14],[14,17]),([14,18],[14,18]),([19,17],[19]),([20],[20]),([21,20],[20,21]),([22,20,20],[20,22]),([23,20],[20,23]),([20,24],[20,24]),([25,23],[25]),([26],[26]),([27,26],[26,27]),([28,26,26],[26,28]),([29],[29]),([30,29],[29,30]),([29],[29]),([32,29],[29,32]),([29],[29]),([34,29],[29,34]),([33,35,29],[29,33,35]),([36,29],[29,36]),([37,29],[29,37]),([31,38,29],[29,31,38]),([29,39,26],[26,29,39]),([26,40],[26,40])])
def impl_PartnerRight.B4:List Nat:=[0,1,0,4,15,31,63,127,255,127,639,2047,4095,8191,16383,32767,65535,131071,262143,524287,1048575,2097151,4194303,8388607,16777215,33554431,67108863,134217727,268435455,536870911,1073741823,2147483647,1073741823,5368709119,1073741823,18253611007,65498251263,134217727999,271656681471,549755813887,1099511627775,2199023255551]
theorem impl_PartnerRight.tab4:rtab .any (opsOf Tryz.f70 4)=impl_PartnerRight.T4:=by kernel_rfl
theorem impl_PartnerRight.bits4:waitsOk impl_PartnerRight.T4.2 impl_PartnerRight.B4=true:=by kernel_rfl
theorem impl_PartnerRight.calls (k:Nat) (a0_0:ByteArray) (a0_1:Int) (a0_2:Int) (A0_3:Option Addr) (c0_3:Nat) (l0_3:List (S144)) (r:Bool) (w:World) (hr0_3:Kd.C k144 w A0_3 l0_3.length l0_3) (hc0_3:l0_3.length≤c0_3) (H:impl_PartnerRight.f k a0_0 a0_1 a0_2 l0_3=some r) :
  Calls Tryz.prog 70 #[.agg #[.string a0_0,.int .i64 a0_1,.int .i64 a0_2,.slice A0_3 l0_3.length c0_3]] w fun e w'=>e=.returned (.bool r)∧Below w.heap.size w w':=by
 have hu108:=Tryz.underlying108;have hu144:=Tryz.underlying144;have HR0_3:=am hr0_3;have HC0_3:=am hc0_3;clear hr0_3 hc0_3;have HB:=am (Below.refl w.heap.size w);unfold impl_PartnerRight.f at H;have H':=am H;clear H
 go_in
 go_wp2_with (first|((with_reducible refine gate_dst (N:=1) rfl ?_);refine bz 1 (cs:=#[.string a0_0,.int .i64 a0_1,.int .i64 a0_2,.slice A0_3 l0_3.length c0_3]) (t:=108) HB ?_;clear HB;intro gb62 hg w2 BK62 GW62 hb HB;clear hb hg;have hcz3:=cf4 BK62))
 go_loopg [8] k (fun kq v8 w'=>∃ (x8_1:Int),v8=.int .i64 x8_1∧Aside0 (impl_PartnerRight.l0 kq l0_3 (l0_3.length:Int) x8_1 a0_0 a0_1 a0_2 l0_3=some r)∧Aside0 (kq≤k)∧Aside0 (w'.heap[gb62]? = some (.cells #[.string a0_0,.int .i64 a0_1,.int .i64 a0_2,(.slice A0_3 l0_3.length c0_3)] 108 (0,0)))∧Aside0 (Below w.heap.size w w'))
 case atStart=>exact ⟨(0),fg,H',⟨Nat.le_refl _⟩,⟨ks BK62⟩,⟨bs HB⟩⟩
 case round =>
  clear H'
  try clear hcz3
  obtain ⟨x8_1,rfl,HA,HK1,BK62,HB⟩:=hrel
  cases gk with
  | zero=>exact absurd HA.out (by simp [impl_PartnerRight.l0])
  | succ k1 =>
   have H:=HA.out;clear HA;simp only [impl_PartnerRight.l0] at H
   revert H;refine id2 ?_ ?_
   ·intro c4b0 H
    revert H;refine id1 ?_
    intro c5b0 H
    revert H;refine id1 ?_
    intro c6b0 H;replace H:=bo H;obtain ⟨t67,A7,H⟩:=H
    obtain rfl|rfl:=bt t67
    ·replace H:=itT H
     revert H;refine ip2 ?_ ?_
     ·intro c9 H;have c9b0:decide (32≤(wrap64 (((rd_T144 l0_3 x8_1).f0) - a0_1)))=true:=decide_eq_true c9;clear c9;obtain rfl:=si H;have p59:0≤(x8_1:Int):=oa;have q59:x8_1<(l0_3.length:Int):=oa;obtain ⟨ad59,e59,hx59_0,hx59_1,hx59_2⟩:=at_T144 HR0_3.out x8_1 p59 q59
      cases e59
      replace hx59_0:=cb HB hx59_0;replace hx59_1:=cb HB hx59_1;replace hx59_2:=cb HB hx59_2;replace p59:=eq_true p59;replace q59:=eq_true q59
      try go_wp2_with (first|((with_reducible refine gate_dst (N:=4) rfl ?_);refine bz 4 (cs:=#[.int .i64 0,.int .i64 0,.int .i64 0]) (t:=144) HB ?_;clear HB;intro gb56 hg w10 BK56 GW56 hb HB;have NB62_56:=na hg BK62;have NB56_62:=nc hg BK62;replace BK62:=bb BK62 hb;clear hb hg;have hnb11:=NB56_62.out;have hnc11:=NB62_56.out;have hcz12:=cf3 BK56))
      have n0_:=kz (((w10.setCell ⟨gb56,0,none⟩ (.int .i64 ((rd_T144 l0_3 x8_1).f0))).setCell ⟨gb56,1,none⟩ (.int .i64 ((rd_T144 l0_3 x8_1).f1))).setCell ⟨gb56,2,none⟩ (.int .i64 ((rd_T144 l0_3 x8_1).f2))) BK62;have n1_:Aside0 ((((w10.setCell ⟨gb56,0,none⟩ (.int .i64 ((rd_T144 l0_3 x8_1).f0))).setCell ⟨gb56,1,none⟩ (.int .i64 ((rd_T144 l0_3 x8_1).f1))).setCell ⟨gb56,2,none⟩ (.int .i64 ((rd_T144 l0_3 x8_1).f2))).heap[gb56]? = some (.cells #[.int .i64 ((rd_T144 l0_3 x8_1).f0),.int .i64 ((rd_T144 l0_3 x8_1).f1),.int .i64 ((rd_T144 l0_3 x8_1).f2)] 144 (0,0))):=⟨kp BK56⟩;have n2_:Aside0 (Below w.heap.size w (((w10.setCell ⟨gb56,0,none⟩ (.int .i64 ((rd_T144 l0_3 x8_1).f0))).setCell ⟨gb56,1,none⟩ (.int .i64 ((rd_T144 l0_3 x8_1).f1))).setCell ⟨gb56,2,none⟩ (.int .i64 ((rd_T144 l0_3 x8_1).f2)))):=⟨bs HB⟩;(try clear BK62);(try clear BK56);(try clear HB)
      generalize (((w10.setCell ⟨gb56,0,none⟩ (.int .i64 ((rd_T144 l0_3 x8_1).f0))).setCell ⟨gb56,1,none⟩ (.int .i64 ((rd_T144 l0_3 x8_1).f1))).setCell ⟨gb56,2,none⟩ (.int .i64 ((rd_T144 l0_3 x8_1).f2)))=w13 at n0_ n1_ n2_ ⊢
      have BK62:=n0_;have BK56:=n1_;have HB:=n2_;clear n0_ n1_ n2_;replace BK62:=am (blk_drew BK62.out);replace BK56:=am (blk_drew BK56.out);replace HB:=am (below_drew1 HB.out);refine sta 42 (hb3a BK56 (hb4 BK62)) (fun hHeld=>?_);refine with_tabW impl_PartnerRight.tab4 impl_PartnerRight.bits4 (fun HT_ HW_=>?_)
      generalize w13.drew=w14 at BK62 BK56 HB hHeld ⊢
      refine pA 0 13 HT_ ?_;refine pA 2 15 HT_ ?_;refine tA 1 14 HT_ HW_ hHeld ?_;refine tA 3 16 HT_ HW_ hHeld ?_;refine oA 4 17 HT_ (fun K hK=>?_);refine gA Tryz.func32 #[.int .i64 ((rd_T144 l0_3 x8_1).f0),.int .i64 a0_1,.int .i64 999999] ?_;(with_reducible refine (impl_within.calls ((rd_T144 l0_3 x8_1).f0) a0_1 999999 true _ A7.out).mono ?_);rintro e w' ⟨rfl,⟨nd,rfl⟩⟩;refine ⟨_,rfl,?_⟩;refine hK.out _ _ (hb3a BK56 (hb4 BK62)).out (fun hHeld=>?_);clear hK K;refine nA 17 ?_;refine pA 5 18 HT_ ?_;refine pA 6 19 HT_ ?_;refine pA 7 20 HT_ ?_;refine pA 9 22 HT_ ?_;refine tA 8 21 HT_ HW_ hHeld ?_;refine tA 10 23 HT_ HW_ hHeld ?_;refine pA 11 24 HT_ ?_;refine pA 12 25 HT_ ?_;refine pA 13 26 HT_ ?_;refine pA 14 27 HT_ ?_;refine pB 15 28 HT_ ?_;refine pB 16 29 HT_ ?_;refine pB 17 30 HT_ ?_;refine pB 18 31 HT_ ?_;refine pA 19 32 HT_ ?_;refine pA 20 33 HT_ ?_;refine pB 21 34 HT_ ?_;refine pB 22 35 HT_ ?_;refine pB 23 36 HT_ ?_;refine pB 24 37 HT_ ?_;refine pA 25 38 HT_ ?_;refine pA 26 39 HT_ ?_;refine pB 27 40 HT_ ?_;refine pB 28 41 HT_ ?_;refine pB 29 42 HT_ ?_;refine pB 30 43 HT_ ?_;refine pB 31 44 HT_ ?_;refine pB 32 45 HT_ ?_;refine pB 33 46 HT_ ?_;refine pB 34 47 HT_ ?_;refine pB 35 48 HT_ ?_;refine pB 36 49 HT_ ?_;refine pB 37 50 HT_ ?_;refine pB 38 51 HT_ ?_;refine pB 39 52 HT_ ?_;refine pB 40 53 HT_ ?_;refine pA 41 54 HT_ ?_;refine done_ (done_of HT_.out (by kernel_rfl)) ?_
      try go_wp2
      go_ret
      exact ⟨ff,bs HB⟩
     ·intro c9 H;have c9b0:decide (32≤(wrap64 (((rd_T144 l0_3 x8_1).f0) - a0_1)))=false:=decide_eq_false c9;clear c9;replace H:=bo H;obtain ⟨t68,A15,H⟩:=H
      obtain rfl|rfl:=bt t68
      ·replace H:=itT H;replace H:=bo H;obtain ⟨t69,A17,H⟩:=H
       obtain rfl|rfl:=bt t69
       ·replace H:=itT H
        revert H;refine ip2 ?_ ?_
        ·intro c19 H;have c19b0:decide (0<x8_1)=true:=decide_eq_true c19;clear c19;obtain ⟨ji20,hji20⟩:∃ j_:Int,(wrap64 (x8_1 - 1))=j_:=⟨_,rfl⟩
         replace H:(if 0≤(ji20) then (if (ji20)<(l0_3.length:Int) then (if ((rd_T144 l0_3 x8_1).f0)≤((rd_T144 l0_3 (ji20)).f0) then (some false) else (impl_PartnerRight.l0 k1 l0_3 (l0_3.length:Int) (wrap64 (x8_1+1)) a0_0 a0_1 a0_2 l0_3)) else (none)) else (none))=some r:=by first|(rw [hji20] at H;exact H)|(simp only [hji20] at H ⊢;exact H)
         (try rw [hji20] at A7)
         (try rw [hji20] at A15)
         (try rw [hji20] at A17)
         have hji20w:(IntKind.i64.wrap (x8_1 - 1))=ji20:=(i64_w _).trans hji20
         revert H;refine id1 ?_
         intro c21b0 H
         revert H;refine id1 ?_
         intro c22b0 H
         revert H;refine id2 ?_ ?_
         ·intro c23b0 H;obtain rfl:=si H;have p59:0≤(x8_1:Int):=oa;have q59:x8_1<(l0_3.length:Int):=oa;obtain ⟨ad59,e59,hx59_0,hx59_1,hx59_2⟩:=at_T144 HR0_3.out x8_1 p59 q59
          cases e59
          replace hx59_0:=cb HB hx59_0;replace hx59_1:=cb HB hx59_1;replace hx59_2:=cb HB hx59_2;replace p59:=eq_true p59;replace q59:=eq_true q59
          try go_wp2_with (first|((with_reducible refine gate_dst (N:=4) rfl ?_);refine bz 4 (cs:=#[.int .i64 0,.int .i64 0,.int .i64 0]) (t:=144) HB ?_;clear HB;intro gb56 hg w24 BK56 GW56 hb HB;have NB62_56:=na hg BK62;have NB56_62:=nc hg BK62;replace BK62:=bb BK62 hb;clear hb hg;have hnb25:=NB56_62.out;have hnc25:=NB62_56.out;have hcz26:=cf3 BK56))
          have n0_:=kz (((w24.setCell ⟨gb56,0,none⟩ (.int .i64 ((rd_T144 l0_3 x8_1).f0))).setCell ⟨gb56,1,none⟩ (.int .i64 ((rd_T144 l0_3 x8_1).f1))).setCell ⟨gb56,2,none⟩ (.int .i64 ((rd_T144 l0_3 x8_1).f2))) BK62;have n1_:Aside0 ((((w24.setCell ⟨gb56,0,none⟩ (.int .i64 ((rd_T144 l0_3 x8_1).f0))).setCell ⟨gb56,1,none⟩ (.int .i64 ((rd_T144 l0_3 x8_1).f1))).setCell ⟨gb56,2,none⟩ (.int .i64 ((rd_T144 l0_3 x8_1).f2))).heap[gb56]? = some (.cells #[.int .i64 ((rd_T144 l0_3 x8_1).f0),.int .i64 ((rd_T144 l0_3 x8_1).f1),.int .i64 ((rd_T144 l0_3 x8_1).f2)] 144 (0,0))):=⟨kp BK56⟩;have n2_:Aside0 (Below w.heap.size w (((w24.setCell ⟨gb56,0,none⟩ (.int .i64 ((rd_T144 l0_3 x8_1).f0))).setCell ⟨gb56,1,none⟩ (.int .i64 ((rd_T144 l0_3 x8_1).f1))).setCell ⟨gb56,2,none⟩ (.int .i64 ((rd_T144 l0_3 x8_1).f2)))):=⟨bs HB⟩;(try clear BK62);(try clear BK56);(try clear HB)
          generalize (((w24.setCell ⟨gb56,0,none⟩ (.int .i64 ((rd_T144 l0_3 x8_1).f0))).setCell ⟨gb56,1,none⟩ (.int .i64 ((rd_T144 l0_3 x8_1).f1))).setCell ⟨gb56,2,none⟩ (.int .i64 ((rd_T144 l0_3 x8_1).f2)))=w27 at n0_ n1_ n2_ ⊢
          have BK62:=n0_;have BK56:=n1_;have HB:=n2_;clear n0_ n1_ n2_;replace BK62:=am (blk_drew BK62.out);replace BK56:=am (blk_drew BK56.out);replace HB:=am (below_drew1 HB.out);have p63:0≤((ji20):Int):=oa;have q63:(ji20)<(l0_3.length:Int):=oa;obtain ⟨ad63,e63,hx63_0,hx63_1,hx63_2⟩:=at_T144 HR0_3.out (ji20) p63 q63;have hw63_2:=hx63_2;have hw63_1:=hx63_1;have hw63_0:=hx63_0;obtain rfl:ad59=ad63:=(by injection e63);replace hx63_0:=cb HB hx63_0;replace hx63_1:=cb HB hx63_1;replace hx63_2:=cb HB hx63_2;replace p63:=eq_true p63;replace q63:=eq_true q63;refine sta 42 (hb3a BK56 (hb4a BK62 (hca (cb HB hw63_0) (hca (cb HB hw63_1) (hc (cb HB hw63_2)))))) (fun hHeld=>?_);refine with_tabW impl_PartnerRight.tab4 impl_PartnerRight.bits4 (fun HT_ HW_=>?_)
          generalize w27.drew=w28 at BK62 BK56 HB hx63_0 hx63_1 hx63_2 hHeld ⊢
          refine pA 0 13 HT_ ?_;refine pA 2 15 HT_ ?_;refine tA 1 14 HT_ HW_ hHeld ?_;refine tA 3 16 HT_ HW_ hHeld ?_;refine oA 4 17 HT_ (fun K hK=>?_);refine gA Tryz.func32 #[.int .i64 ((rd_T144 l0_3 x8_1).f0),.int .i64 a0_1,.int .i64 999999] ?_;(with_reducible refine (impl_within.calls ((rd_T144 l0_3 x8_1).f0) a0_1 999999 true _ A7.out).mono ?_);rintro e w' ⟨rfl,⟨nd,rfl⟩⟩;refine ⟨_,rfl,?_⟩;refine hK.out _ _ (hb3a BK56 (hb4a BK62 (hca (cb HB hw63_0) (hca (cb HB hw63_1) (hc (cb HB hw63_2)))))).out (fun hHeld=>?_);clear hK K;refine nA 17 ?_;refine pA 5 18 HT_ ?_;refine pA 6 19 HT_ ?_;refine pA 7 20 HT_ ?_;refine pA 9 22 HT_ ?_;refine tA 8 21 HT_ HW_ hHeld ?_;refine tA 10 23 HT_ HW_ hHeld ?_;refine pA 11 24 HT_ ?_;refine pA 12 25 HT_ ?_;refine pA 13 26 HT_ ?_;refine pA 14 27 HT_ ?_;refine pA 15 28 HT_ ?_;refine tA 16 29 HT_ HW_ hHeld ?_;refine oA 17 30 HT_ (fun K hK=>?_);refine gA Tryz.func30 #[.int .i64 ((rd_T144 l0_3 x8_1).f1)] ?_;(with_reducible refine (impl_isControl.calls ((rd_T144 l0_3 x8_1).f1) true _ A15.out).mono ?_);rintro e w' ⟨rfl,⟨nd,rfl⟩⟩;refine ⟨_,rfl,?_⟩;refine hK.out _ _ (hb3a BK56 (hb4a BK62 (hca (cb HB hw63_0) (hca (cb HB hw63_1) (hc (cb HB hw63_2)))))).out (fun hHeld=>?_);clear hK K;refine nA 30 ?_;refine pA 18 31 HT_ ?_;refine pA 19 32 HT_ ?_;refine pA 20 33 HT_ ?_;refine pA 21 34 HT_ ?_;refine tA 22 35 HT_ HW_ hHeld ?_;refine oA 23 36 HT_ (fun K hK=>?_);refine gA Tryz.func31 #[.int .i64 ((rd_T144 l0_3 x8_1).f2)] ?_;(with_reducible refine (impl_isCode.calls ((rd_T144 l0_3 x8_1).f2) true _ A17.out).mono ?_);rintro e w' ⟨rfl,⟨nd,rfl⟩⟩;refine ⟨_,rfl,?_⟩;refine hK.out _ _ (hb3a BK56 (hb4a BK62 (hca (cb HB hw63_0) (hca (cb HB hw63_1) (hc (cb HB hw63_2)))))).out (fun hHeld=>?_);clear hK K;refine nA 36 ?_;refine pA 24 37 HT_ ?_;refine pA 25 38 HT_ ?_;refine pA 26 39 HT_ ?_;refine pA 27 40 HT_ ?_;refine pA 28 41 HT_ ?_;refine pA 29 42 HT_ ?_;refine pA 30 43 HT_ ?_;refine pA 32 45 HT_ ?_;refine pA 34 47 HT_ ?_;refine pA 35 48 HT_ ?_;refine tA 31 44 HT_ HW_ hHeld ?_;refine tA 33 46 HT_ HW_ hHeld ?_;refine pA 36 49 HT_ ?_;refine pA 37 50 HT_ ?_;refine tA 38 51 HT_ HW_ hHeld ?_;refine pA 39 52 HT_ ?_;refine pA 40 53 HT_ ?_;refine pA 41 54 HT_ ?_;refine done_ (done_of HT_.out (by kernel_rfl)) ?_
          try go_wp2
          go_ret
          exact ⟨by first|rfl|(simp [errW_none,errW_some] <;> rfl)|(simp only [← hji20];first|rfl|(simp [errW_none,errW_some] <;> rfl))|(simp [*,errW_none,errW_some] <;> rfl),bs HB⟩
         ·intro c23b0 H;have H':=am H;clear H;have p59:0≤(x8_1:Int):=oa;have q59:x8_1<(l0_3.length:Int):=oa;obtain ⟨ad59,e59,hx59_0,hx59_1,hx59_2⟩:=at_T144 HR0_3.out x8_1 p59 q59
          cases e59
          replace hx59_0:=cb HB hx59_0;replace hx59_1:=cb HB hx59_1;replace hx59_2:=cb HB hx59_2;replace p59:=eq_true p59;replace q59:=eq_true q59
          try go_wp2_with (first|((with_reducible refine gate_dst (N:=4) rfl ?_);refine bz 4 (cs:=#[.int .i64 0,.int .i64 0,.int .i64 0]) (t:=144) HB ?_;clear HB;intro gb56 hg w29 BK56 GW56 hb HB;have NB62_56:=na hg BK62;have NB56_62:=nc hg BK62;replace BK62:=bb BK62 hb;clear hb hg;have hnb30:=NB56_62.out;have hnc30:=NB62_56.out;have hcz31:=cf3 BK56))
          have n0_:=kz (((w29.setCell ⟨gb56,0,none⟩ (.int .i64 ((rd_T144 l0_3 x8_1).f0))).setCell ⟨gb56,1,none⟩ (.int .i64 ((rd_T144 l0_3 x8_1).f1))).setCell ⟨gb56,2,none⟩ (.int .i64 ((rd_T144 l0_3 x8_1).f2))) BK62;have n1_:Aside0 ((((w29.setCell ⟨gb56,0,none⟩ (.int .i64 ((rd_T144 l0_3 x8_1).f0))).setCell ⟨gb56,1,none⟩ (.int .i64 ((rd_T144 l0_3 x8_1).f1))).setCell ⟨gb56,2,none⟩ (.int .i64 ((rd_T144 l0_3 x8_1).f2))).heap[gb56]? = some (.cells #[.int .i64 ((rd_T144 l0_3 x8_1).f0),.int .i64 ((rd_T144 l0_3 x8_1).f1),.int .i64 ((rd_T144 l0_3 x8_1).f2)] 144 (0,0))):=⟨kp BK56⟩;have n2_:Aside0 (Below w.heap.size w (((w29.setCell ⟨gb56,0,none⟩ (.int .i64 ((rd_T144 l0_3 x8_1).f0))).setCell ⟨gb56,1,none⟩ (.int .i64 ((rd_T144 l0_3 x8_1).f1))).setCell ⟨gb56,2,none⟩ (.int .i64 ((rd_T144 l0_3 x8_1).f2)))):=⟨bs HB⟩;(try clear BK62);(try clear BK56);(try clear HB)
          generalize (((w29.setCell ⟨gb56,0,none⟩ (.int .i64 ((rd_T144 l0_3 x8_1).f0))).setCell ⟨gb56,1,none⟩ (.int .i64 ((rd_T144 l0_3 x8_1).f1))).setCell ⟨gb56,2,none⟩ (.int .i64 ((rd_T144 l0_3 x8_1).f2)))=w32 at n0_ n1_ n2_ ⊢
          have BK62:=n0_;have BK56:=n1_;have HB:=n2_;clear n0_ n1_ n2_;replace BK62:=am (blk_drew BK62.out);replace BK56:=am (blk_drew BK56.out);replace HB:=am (below_drew1 HB.out);have p63:0≤((ji20):Int):=oa;have q63:(ji20)<(l0_3.length:Int):=oa;obtain ⟨ad63,e63,hx63_0,hx63_1,hx63_2⟩:=at_T144 HR0_3.out (ji20) p63 q63;have hw63_2:=hx63_2;have hw63_1:=hx63_1;have hw63_0:=hx63_0;obtain rfl:ad59=ad63:=(by injection e63);replace hx63_0:=cb HB hx63_0;replace hx63_1:=cb HB hx63_1;replace hx63_2:=cb HB hx63_2;replace p63:=eq_true p63;replace q63:=eq_true q63;refine sta 42 (hb3a BK56 (hb4a BK62 (hca (cb HB hw63_0) (hca (cb HB hw63_1) (hc (cb HB hw63_2)))))) (fun hHeld=>?_);refine with_tabW impl_PartnerRight.tab4 impl_PartnerRight.bits4 (fun HT_ HW_=>?_)
          generalize w32.drew=w33 at BK62 BK56 HB hx63_0 hx63_1 hx63_2 hHeld ⊢
          refine pA 0 13 HT_ ?_;refine pA 2 15 HT_ ?_;refine tA 1 14 HT_ HW_ hHeld ?_;refine tA 3 16 HT_ HW_ hHeld ?_;refine oA 4 17 HT_ (fun K hK=>?_);refine gA Tryz.func32 #[.int .i64 ((rd_T144 l0_3 x8_1).f0),.int .i64 a0_1,.int .i64 999999] ?_;(with_reducible refine (impl_within.calls ((rd_T144 l0_3 x8_1).f0) a0_1 999999 true _ A7.out).mono ?_);rintro e w' ⟨rfl,⟨nd,rfl⟩⟩;refine ⟨_,rfl,?_⟩;refine hK.out _ _ (hb3a BK56 (hb4a BK62 (hca (cb HB hw63_0) (hca (cb HB hw63_1) (hc (cb HB hw63_2)))))).out (fun hHeld=>?_);clear hK K;refine nA 17 ?_;refine pA 5 18 HT_ ?_;refine pA 6 19 HT_ ?_;refine pA 7 20 HT_ ?_;refine pA 9 22 HT_ ?_;refine tA 8 21 HT_ HW_ hHeld ?_;refine tA 10 23 HT_ HW_ hHeld ?_;refine pA 11 24 HT_ ?_;refine pA 12 25 HT_ ?_;refine pA 13 26 HT_ ?_;refine pA 14 27 HT_ ?_;refine pA 15 28 HT_ ?_;refine tA 16 29 HT_ HW_ hHeld ?_;refine oA 17 30 HT_ (fun K hK=>?_);refine gA Tryz.func30 #[.int .i64 ((rd_T144 l0_3 x8_1).f1)] ?_;(with_reducible refine (impl_isControl.calls ((rd_T144 l0_3 x8_1).f1) true _ A15.out).mono ?_);rintro e w' ⟨rfl,⟨nd,rfl⟩⟩;refine ⟨_,rfl,?_⟩;refine hK.out _ _ (hb3a BK56 (hb4a BK62 (hca (cb HB hw63_0) (hca (cb HB hw63_1) (hc (cb HB hw63_2)))))).out (fun hHeld=>?_);clear hK K;refine nA 30 ?_;refine pA 18 31 HT_ ?_;refine pA 19 32 HT_ ?_;refine pA 20 33 HT_ ?_;refine pA 21 34 HT_ ?_;refine tA 22 35 HT_ HW_ hHeld ?_;refine oA 23 36 HT_ (fun K hK=>?_);refine gA Tryz.func31 #[.int .i64 ((rd_T144 l0_3 x8_1).f2)] ?_;(with_reducible refine (impl_isCode.calls ((rd_T144 l0_3 x8_1).f2) true _ A17.out).mono ?_);rintro e w' ⟨rfl,⟨nd,rfl⟩⟩;refine ⟨_,rfl,?_⟩;refine hK.out _ _ (hb3a BK56 (hb4a BK62 (hca (cb HB hw63_0) (hca (cb HB hw63_1) (hc (cb HB hw63_2)))))).out (fun hHeld=>?_);clear hK K;refine nA 36 ?_;refine pA 24 37 HT_ ?_;refine pA 25 38 HT_ ?_;refine pA 26 39 HT_ ?_;refine pA 27 40 HT_ ?_;refine pA 28 41 HT_ ?_;refine pA 29 42 HT_ ?_;refine pA 30 43 HT_ ?_;refine pA 32 45 HT_ ?_;refine pA 34 47 HT_ ?_;refine pA 35 48 HT_ ?_;refine tA 31 44 HT_ HW_ hHeld ?_;refine tA 33 46 HT_ HW_ hHeld ?_;refine pA 36 49 HT_ ?_;refine pA 37 50 HT_ ?_;refine tA 38 51 HT_ HW_ hHeld ?_;refine pA 39 52 HT_ ?_;refine pA 40 53 HT_ ?_;refine pA 41 54 HT_ ?_;refine done_ (done_of HT_.out (by kernel_rfl)) ?_
          try go_wp2
          go_roundg k1
          case measure=>have:=HK1.out;omega
          case rel=>exact ⟨(wrap64 (x8_1+1)),fg,H',⟨by have:=HK1.out;omega⟩,⟨ks BK62⟩,⟨bs HB⟩⟩
        ·intro c19 H;have c19b0:decide (0<x8_1)=false:=decide_eq_false c19;clear c19;have H':=am H;clear H;have p59:0≤(x8_1:Int):=oa;have q59:x8_1<(l0_3.length:Int):=oa;obtain ⟨ad59,e59,hx59_0,hx59_1,hx59_2⟩:=at_T144 HR0_3.out x8_1 p59 q59
         cases e59
         replace hx59_0:=cb HB hx59_0;replace hx59_1:=cb HB hx59_1;replace hx59_2:=cb HB hx59_2;replace p59:=eq_true p59;replace q59:=eq_true q59
         try go_wp2_with (first|((with_reducible refine gate_dst (N:=4) rfl ?_);refine bz 4 (cs:=#[.int .i64 0,.int .i64 0,.int .i64 0]) (t:=144) HB ?_;clear HB;intro gb56 hg w34 BK56 GW56 hb HB;have NB62_56:=na hg BK62;have NB56_62:=nc hg BK62;replace BK62:=bb BK62 hb;clear hb hg;have hnb35:=NB56_62.out;have hnc35:=NB62_56.out;have hcz36:=cf3 BK56))
         have n0_:=kz (((w34.setCell ⟨gb56,0,none⟩ (.int .i64 ((rd_T144 l0_3 x8_1).f0))).setCell ⟨gb56,1,none⟩ (.int .i64 ((rd_T144 l0_3 x8_1).f1))).setCell ⟨gb56,2,none⟩ (.int .i64 ((rd_T144 l0_3 x8_1).f2))) BK62;have n1_:Aside0 ((((w34.setCell ⟨gb56,0,none⟩ (.int .i64 ((rd_T144 l0_3 x8_1).f0))).setCell ⟨gb56,1,none⟩ (.int .i64 ((rd_T144 l0_3 x8_1).f1))).setCell ⟨gb56,2,none⟩ (.int .i64 ((rd_T144 l0_3 x8_1).f2))).heap[gb56]? = some (.cells #[.int .i64 ((rd_T144 l0_3 x8_1).f0),.int .i64 ((rd_T144 l0_3 x8_1).f1),.int .i64 ((rd_T144 l0_3 x8_1).f2)] 144 (0,0))):=⟨kp BK56⟩;have n2_:Aside0 (Below w.heap.size w (((w34.setCell ⟨gb56,0,none⟩ (.int .i64 ((rd_T144 l0_3 x8_1).f0))).setCell ⟨gb56,1,none⟩ (.int .i64 ((rd_T144 l0_3 x8_1).f1))).setCell ⟨gb56,2,none⟩ (.int .i64 ((rd_T144 l0_3 x8_1).f2)))):=⟨bs HB⟩;(try clear BK62);(try clear BK56);(try clear HB)
         generalize (((w34.setCell ⟨gb56,0,none⟩ (.int .i64 ((rd_T144 l0_3 x8_1).f0))).setCell ⟨gb56,1,none⟩ (.int .i64 ((rd_T144 l0_3 x8_1).f1))).setCell ⟨gb56,2,none⟩ (.int .i64 ((rd_T144 l0_3 x8_1).f2)))=w37 at n0_ n1_ n2_ ⊢
         have BK62:=n0_;have BK56:=n1_;have HB:=n2_;clear n0_ n1_ n2_;replace BK62:=am (blk_drew BK62.out);replace BK56:=am (blk_drew BK56.out);replace HB:=am (below_drew1 HB.out);refine sta 42 (hb3a BK56 (hb4 BK62)) (fun hHeld=>?_);refine with_tabW impl_PartnerRight.tab4 impl_PartnerRight.bits4 (fun HT_ HW_=>?_)
         generalize w37.drew=w38 at BK62 BK56 HB hHeld ⊢
         refine pA 0 13 HT_ ?_;refine pA 2 15 HT_ ?_;refine tA 1 14 HT_ HW_ hHeld ?_;refine tA 3 16 HT_ HW_ hHeld ?_;refine oA 4 17 HT_ (fun K hK=>?_);refine gA Tryz.func32 #[.int .i64 ((rd_T144 l0_3 x8_1).f0),.int .i64 a0_1,.int .i64 999999] ?_;(with_reducible refine (impl_within.calls ((rd_T144 l0_3 x8_1).f0) a0_1 999999 true _ A7.out).mono ?_);rintro e w' ⟨rfl,⟨nd,rfl⟩⟩;refine ⟨_,rfl,?_⟩;refine hK.out _ _ (hb3a BK56 (hb4 BK62)).out (fun hHeld=>?_);clear hK K;refine nA 17 ?_;refine pA 5 18 HT_ ?_;refine pA 6 19 HT_ ?_;refine pA 7 20 HT_ ?_;refine pA 9 22 HT_ ?_;refine tA 8 21 HT_ HW_ hHeld ?_;refine tA 10 23 HT_ HW_ hHeld ?_;refine pA 11 24 HT_ ?_;refine pA 12 25 HT_ ?_;refine pA 13 26 HT_ ?_;refine pA 14 27 HT_ ?_;refine pA 15 28 HT_ ?_;refine tA 16 29 HT_ HW_ hHeld ?_;refine oA 17 30 HT_ (fun K hK=>?_);refine gA Tryz.func30 #[.int .i64 ((rd_T144 l0_3 x8_1).f1)] ?_;(with_reducible refine (impl_isControl.calls ((rd_T144 l0_3 x8_1).f1) true _ A15.out).mono ?_);rintro e w' ⟨rfl,⟨nd,rfl⟩⟩;refine ⟨_,rfl,?_⟩;refine hK.out _ _ (hb3a BK56 (hb4 BK62)).out (fun hHeld=>?_);clear hK K;refine nA 30 ?_;refine pA 18 31 HT_ ?_;refine pA 19 32 HT_ ?_;refine pA 20 33 HT_ ?_;refine pA 21 34 HT_ ?_;refine tA 22 35 HT_ HW_ hHeld ?_;refine oA 23 36 HT_ (fun K hK=>?_);refine gA Tryz.func31 #[.int .i64 ((rd_T144 l0_3 x8_1).f2)] ?_;(with_reducible refine (impl_isCode.calls ((rd_T144 l0_3 x8_1).f2) true _ A17.out).mono ?_);rintro e w' ⟨rfl,⟨nd,rfl⟩⟩;refine ⟨_,rfl,?_⟩;refine hK.out _ _ (hb3a BK56 (hb4 BK62)).out (fun hHeld=>?_);clear hK K;refine nA 36 ?_;refine pA 24 37 HT_ ?_;refine pA 25 38 HT_ ?_;refine pA 26 39 HT_ ?_;refine pA 27 40 HT_ ?_;refine pA 28 41 HT_ ?_;refine pA 29 42 HT_ ?_;refine pB 30 43 HT_ ?_;refine pB 31 44 HT_ ?_;refine pB 32 45 HT_ ?_;refine pB 33 46 HT_ ?_;refine pB 34 47 HT_ ?_;refine pB 35 48 HT_ ?_;refine pB 36 49 HT_ ?_;refine pB 37 50 HT_ ?_;refine pB 38 51 HT_ ?_;refine pB 39 52 HT_ ?_;refine pA 40 53 HT_ ?_;refine pA 41 54 HT_ ?_;refine done_ (done_of HT_.out (by kernel_rfl)) ?_
         try go_wp2
         go_roundg k1
         case measure=>have:=HK1.out;omega
         case rel=>exact ⟨(wrap64 (x8_1+1)),fg,H',⟨by have:=HK1.out;omega⟩,⟨ks BK62⟩,⟨bs HB⟩⟩
       ·replace H:=itF H;obtain rfl:=si H;have p59:0≤(x8_1:Int):=oa;have q59:x8_1<(l0_3.length:Int):=oa;obtain ⟨ad59,e59,hx59_0,hx59_1,hx59_2⟩:=at_T144 HR0_3.out x8_1 p59 q59
        cases e59
        replace hx59_0:=cb HB hx59_0;replace hx59_1:=cb HB hx59_1;replace hx59_2:=cb HB hx59_2;replace p59:=eq_true p59;replace q59:=eq_true q59
        try go_wp2_with (first|((with_reducible refine gate_dst (N:=4) rfl ?_);refine bz 4 (cs:=#[.int .i64 0,.int .i64 0,.int .i64 0]) (t:=144) HB ?_;clear HB;intro gb56 hg w39 BK56 GW56 hb HB;have NB62_56:=na hg BK62;have NB56_62:=nc hg BK62;replace BK62:=bb BK62 hb;clear hb hg;have hnb40:=NB56_62.out;have hnc40:=NB62_56.out;have hcz41:=cf3 BK56))
        have n0_:=kz (((w39.setCell ⟨gb56,0,none⟩ (.int .i64 ((rd_T144 l0_3 x8_1).f0))).setCell ⟨gb56,1,none⟩ (.int .i64 ((rd_T144 l0_3 x8_1).f1))).setCell ⟨gb56,2,none⟩ (.int .i64 ((rd_T144 l0_3 x8_1).f2))) BK62;have n1_:Aside0 ((((w39.setCell ⟨gb56,0,none⟩ (.int .i64 ((rd_T144 l0_3 x8_1).f0))).setCell ⟨gb56,1,none⟩ (.int .i64 ((rd_T144 l0_3 x8_1).f1))).setCell ⟨gb56,2,none⟩ (.int .i64 ((rd_T144 l0_3 x8_1).f2))).heap[gb56]? = some (.cells #[.int .i64 ((rd_T144 l0_3 x8_1).f0),.int .i64 ((rd_T144 l0_3 x8_1).f1),.int .i64 ((rd_T144 l0_3 x8_1).f2)] 144 (0,0))):=⟨kp BK56⟩;have n2_:Aside0 (Below w.heap.size w (((w39.setCell ⟨gb56,0,none⟩ (.int .i64 ((rd_T144 l0_3 x8_1).f0))).setCell ⟨gb56,1,none⟩ (.int .i64 ((rd_T144 l0_3 x8_1).f1))).setCell ⟨gb56,2,none⟩ (.int .i64 ((rd_T144 l0_3 x8_1).f2)))):=⟨bs HB⟩;(try clear BK62);(try clear BK56);(try clear HB)
        generalize (((w39.setCell ⟨gb56,0,none⟩ (.int .i64 ((rd_T144 l0_3 x8_1).f0))).setCell ⟨gb56,1,none⟩ (.int .i64 ((rd_T144 l0_3 x8_1).f1))).setCell ⟨gb56,2,none⟩ (.int .i64 ((rd_T144 l0_3 x8_1).f2)))=w42 at n0_ n1_ n2_ ⊢
        have BK62:=n0_;have BK56:=n1_;have HB:=n2_;clear n0_ n1_ n2_;replace BK62:=am (blk_drew BK62.out);replace BK56:=am (blk_drew BK56.out);replace HB:=am (below_drew1 HB.out);refine sta 42 (hb3a BK56 (hb4 BK62)) (fun hHeld=>?_);refine with_tabW impl_PartnerRight.tab4 impl_PartnerRight.bits4 (fun HT_ HW_=>?_)
        generalize w42.drew=w43 at BK62 BK56 HB hHeld ⊢
        refine pA 0 13 HT_ ?_;refine pA 2 15 HT_ ?_;refine tA 1 14 HT_ HW_ hHeld ?_;refine tA 3 16 HT_ HW_ hHeld ?_;refine oA 4 17 HT_ (fun K hK=>?_);refine gA Tryz.func32 #[.int .i64 ((rd_T144 l0_3 x8_1).f0),.int .i64 a0_1,.int .i64 999999] ?_;(with_reducible refine (impl_within.calls ((rd_T144 l0_3 x8_1).f0) a0_1 999999 true _ A7.out).mono ?_);rintro e w' ⟨rfl,⟨nd,rfl⟩⟩;refine ⟨_,rfl,?_⟩;refine hK.out _ _ (hb3a BK56 (hb4 BK62)).out (fun hHeld=>?_);clear hK K;refine nA 17 ?_;refine pA 5 18 HT_ ?_;refine pA 6 19 HT_ ?_;refine pA 7 20 HT_ ?_;refine pA 9 22 HT_ ?_;refine tA 8 21 HT_ HW_ hHeld ?_;refine tA 10 23 HT_ HW_ hHeld ?_;refine pA 11 24 HT_ ?_;refine pA 12 25 HT_ ?_;refine pA 13 26 HT_ ?_;refine pA 14 27 HT_ ?_;refine pA 15 28 HT_ ?_;refine tA 16 29 HT_ HW_ hHeld ?_;refine oA 17 30 HT_ (fun K hK=>?_);refine gA Tryz.func30 #[.int .i64 ((rd_T144 l0_3 x8_1).f1)] ?_;(with_reducible refine (impl_isControl.calls ((rd_T144 l0_3 x8_1).f1) true _ A15.out).mono ?_);rintro e w' ⟨rfl,⟨nd,rfl⟩⟩;refine ⟨_,rfl,?_⟩;refine hK.out _ _ (hb3a BK56 (hb4 BK62)).out (fun hHeld=>?_);clear hK K;refine nA 30 ?_;refine pA 18 31 HT_ ?_;refine pA 19 32 HT_ ?_;refine pA 20 33 HT_ ?_;refine pA 21 34 HT_ ?_;refine tA 22 35 HT_ HW_ hHeld ?_;refine oA 23 36 HT_ (fun K hK=>?_);refine gA Tryz.func31 #[.int .i64 ((rd_T144 l0_3 x8_1).f2)] ?_;(with_reducible refine (impl_isCode.calls ((rd_T144 l0_3 x8_1).f2) false _ A17.out).mono ?_);rintro e w' ⟨rfl,⟨nd,rfl⟩⟩;refine ⟨_,rfl,?_⟩;refine hK.out _ _ (hb3a BK56 (hb4 BK62)).out (fun hHeld=>?_);clear hK K;refine nA 36 ?_;refine pA 24 37 HT_ ?_;refine pA 25 38 HT_ ?_;refine pA 26 39 HT_ ?_;refine pB 27 40 HT_ ?_;refine pB 28 41 HT_ ?_;refine pB 29 42 HT_ ?_;refine pB 30 43 HT_ ?_;refine pB 31 44 HT_ ?_;refine pB 32 45 HT_ ?_;refine pB 33 46 HT_ ?_;refine pB 34 47 HT_ ?_;refine pB 35 48 HT_ ?_;refine pB 36 49 HT_ ?_;refine pB 37 50 HT_ ?_;refine pB 38 51 HT_ ?_;refine pB 39 52 HT_ ?_;refine pB 40 53 HT_ ?_;refine pA 41 54 HT_ ?_;refine done_ (done_of HT_.out (by kernel_rfl)) ?_
        try go_wp2
        go_ret
        exact ⟨ff,bs HB⟩
      ·replace H:=itF H;obtain rfl:=si H;have p59:0≤(x8_1:Int):=oa;have q59:x8_1<(l0_3.length:Int):=oa;obtain ⟨ad59,e59,hx59_0,hx59_1,hx59_2⟩:=at_T144 HR0_3.out x8_1 p59 q59
       cases e59
       replace hx59_0:=cb HB hx59_0;replace hx59_1:=cb HB hx59_1;replace hx59_2:=cb HB hx59_2;replace p59:=eq_true p59;replace q59:=eq_true q59
       try go_wp2_with (first|((with_reducible refine gate_dst (N:=4) rfl ?_);refine bz 4 (cs:=#[.int .i64 0,.int .i64 0,.int .i64 0]) (t:=144) HB ?_;clear HB;intro gb56 hg w44 BK56 GW56 hb HB;have NB62_56:=na hg BK62;have NB56_62:=nc hg BK62;replace BK62:=bb BK62 hb;clear hb hg;have hnb45:=NB56_62.out;have hnc45:=NB62_56.out;have hcz46:=cf3 BK56))
       have n0_:=kz (((w44.setCell ⟨gb56,0,none⟩ (.int .i64 ((rd_T144 l0_3 x8_1).f0))).setCell ⟨gb56,1,none⟩ (.int .i64 ((rd_T144 l0_3 x8_1).f1))).setCell ⟨gb56,2,none⟩ (.int .i64 ((rd_T144 l0_3 x8_1).f2))) BK62;have n1_:Aside0 ((((w44.setCell ⟨gb56,0,none⟩ (.int .i64 ((rd_T144 l0_3 x8_1).f0))).setCell ⟨gb56,1,none⟩ (.int .i64 ((rd_T144 l0_3 x8_1).f1))).setCell ⟨gb56,2,none⟩ (.int .i64 ((rd_T144 l0_3 x8_1).f2))).heap[gb56]? = some (.cells #[.int .i64 ((rd_T144 l0_3 x8_1).f0),.int .i64 ((rd_T144 l0_3 x8_1).f1),.int .i64 ((rd_T144 l0_3 x8_1).f2)] 144 (0,0))):=⟨kp BK56⟩;have n2_:Aside0 (Below w.heap.size w (((w44.setCell ⟨gb56,0,none⟩ (.int .i64 ((rd_T144 l0_3 x8_1).f0))).setCell ⟨gb56,1,none⟩ (.int .i64 ((rd_T144 l0_3 x8_1).f1))).setCell ⟨gb56,2,none⟩ (.int .i64 ((rd_T144 l0_3 x8_1).f2)))):=⟨bs HB⟩;(try clear BK62);(try clear BK56);(try clear HB)
       generalize (((w44.setCell ⟨gb56,0,none⟩ (.int .i64 ((rd_T144 l0_3 x8_1).f0))).setCell ⟨gb56,1,none⟩ (.int .i64 ((rd_T144 l0_3 x8_1).f1))).setCell ⟨gb56,2,none⟩ (.int .i64 ((rd_T144 l0_3 x8_1).f2)))=w47 at n0_ n1_ n2_ ⊢
       have BK62:=n0_;have BK56:=n1_;have HB:=n2_;clear n0_ n1_ n2_;replace BK62:=am (blk_drew BK62.out);replace BK56:=am (blk_drew BK56.out);replace HB:=am (below_drew1 HB.out);refine sta 42 (hb3a BK56 (hb4 BK62)) (fun hHeld=>?_);refine with_tabW impl_PartnerRight.tab4 impl_PartnerRight.bits4 (fun HT_ HW_=>?_)
       generalize w47.drew=w48 at BK62 BK56 HB hHeld ⊢
       refine pA 0 13 HT_ ?_;refine pA 2 15 HT_ ?_;refine tA 1 14 HT_ HW_ hHeld ?_;refine tA 3 16 HT_ HW_ hHeld ?_;refine oA 4 17 HT_ (fun K hK=>?_);refine gA Tryz.func32 #[.int .i64 ((rd_T144 l0_3 x8_1).f0),.int .i64 a0_1,.int .i64 999999] ?_;(with_reducible refine (impl_within.calls ((rd_T144 l0_3 x8_1).f0) a0_1 999999 true _ A7.out).mono ?_);rintro e w' ⟨rfl,⟨nd,rfl⟩⟩;refine ⟨_,rfl,?_⟩;refine hK.out _ _ (hb3a BK56 (hb4 BK62)).out (fun hHeld=>?_);clear hK K;refine nA 17 ?_;refine pA 5 18 HT_ ?_;refine pA 6 19 HT_ ?_;refine pA 7 20 HT_ ?_;refine pA 9 22 HT_ ?_;refine tA 8 21 HT_ HW_ hHeld ?_;refine tA 10 23 HT_ HW_ hHeld ?_;refine pA 11 24 HT_ ?_;refine pA 12 25 HT_ ?_;refine pA 13 26 HT_ ?_;refine pA 14 27 HT_ ?_;refine pA 15 28 HT_ ?_;refine tA 16 29 HT_ HW_ hHeld ?_;refine oA 17 30 HT_ (fun K hK=>?_);refine gA Tryz.func30 #[.int .i64 ((rd_T144 l0_3 x8_1).f1)] ?_;(with_reducible refine (impl_isControl.calls ((rd_T144 l0_3 x8_1).f1) false _ A15.out).mono ?_);rintro e w' ⟨rfl,⟨nd,rfl⟩⟩;refine ⟨_,rfl,?_⟩;refine hK.out _ _ (hb3a BK56 (hb4 BK62)).out (fun hHeld=>?_);clear hK K;refine nA 30 ?_;refine pA 18 31 HT_ ?_;refine pA 19 32 HT_ ?_;refine pA 20 33 HT_ ?_;refine pB 21 34 HT_ ?_;refine pB 22 35 HT_ ?_;refine pB 23 36 HT_ ?_;refine pB 24 37 HT_ ?_;refine pA 25 38 HT_ ?_;refine pA 26 39 HT_ ?_;refine pB 27 40 HT_ ?_;refine pB 28 41 HT_ ?_;refine pB 29 42 HT_ ?_;refine pB 30 43 HT_ ?_;refine pB 31 44 HT_ ?_;refine pB 32 45 HT_ ?_;refine pB 33 46 HT_ ?_;refine pB 34 47 HT_ ?_;refine pB 35 48 HT_ ?_;refine pB 36 49 HT_ ?_;refine pB 37 50 HT_ ?_;refine pB 38 51 HT_ ?_;refine pB 39 52 HT_ ?_;refine pB 40 53 HT_ ?_;refine pA 41 54 HT_ ?_;refine done_ (done_of HT_.out (by kernel_rfl)) ?_
       try go_wp2
       go_ret
       exact ⟨ff,bs HB⟩
    ·replace H:=itF H;obtain rfl:=si H;have p59:0≤(x8_1:Int):=oa;have q59:x8_1<(l0_3.length:Int):=oa;obtain ⟨ad59,e59,hx59_0,hx59_1,hx59_2⟩:=at_T144 HR0_3.out x8_1 p59 q59
     cases e59
     replace hx59_0:=cb HB hx59_0;replace hx59_1:=cb HB hx59_1;replace hx59_2:=cb HB hx59_2;replace p59:=eq_true p59;replace q59:=eq_true q59
     try go_wp2_with (first|((with_reducible refine gate_dst (N:=4) rfl ?_);refine bz 4 (cs:=#[.int .i64 0,.int .i64 0,.int .i64 0]) (t:=144) HB ?_;clear HB;intro gb56 hg w49 BK56 GW56 hb HB;have NB62_56:=na hg BK62;have NB56_62:=nc hg BK62;replace BK62:=bb BK62 hb;clear hb hg;have hnb50:=NB56_62.out;have hnc50:=NB62_56.out;have hcz51:=cf3 BK56))
     have n0_:=kz (((w49.setCell ⟨gb56,0,none⟩ (.int .i64 ((rd_T144 l0_3 x8_1).f0))).setCell ⟨gb56,1,none⟩ (.int .i64 ((rd_T144 l0_3 x8_1).f1))).setCell ⟨gb56,2,none⟩ (.int .i64 ((rd_T144 l0_3 x8_1).f2))) BK62;have n1_:Aside0 ((((w49.setCell ⟨gb56,0,none⟩ (.int .i64 ((rd_T144 l0_3 x8_1).f0))).setCell ⟨gb56,1,none⟩ (.int .i64 ((rd_T144 l0_3 x8_1).f1))).setCell ⟨gb56,2,none⟩ (.int .i64 ((rd_T144 l0_3 x8_1).f2))).heap[gb56]? = some (.cells #[.int .i64 ((rd_T144 l0_3 x8_1).f0),.int .i64 ((rd_T144 l0_3 x8_1).f1),.int .i64 ((rd_T144 l0_3 x8_1).f2)] 144 (0,0))):=⟨kp BK56⟩;have n2_:Aside0 (Below w.heap.size w (((w49.setCell ⟨gb56,0,none⟩ (.int .i64 ((rd_T144 l0_3 x8_1).f0))).setCell ⟨gb56,1,none⟩ (.int .i64 ((rd_T144 l0_3 x8_1).f1))).setCell ⟨gb56,2,none⟩ (.int .i64 ((rd_T144 l0_3 x8_1).f2)))):=⟨bs HB⟩;(try clear BK62);(try clear BK56);(try clear HB)
     generalize (((w49.setCell ⟨gb56,0,none⟩ (.int .i64 ((rd_T144 l0_3 x8_1).f0))).setCell ⟨gb56,1,none⟩ (.int .i64 ((rd_T144 l0_3 x8_1).f1))).setCell ⟨gb56,2,none⟩ (.int .i64 ((rd_T144 l0_3 x8_1).f2)))=w52 at n0_ n1_ n2_ ⊢
     have BK62:=n0_;have BK56:=n1_;have HB:=n2_;clear n0_ n1_ n2_;replace BK62:=am (blk_drew BK62.out);replace BK56:=am (blk_drew BK56.out);replace HB:=am (below_drew1 HB.out);refine sta 42 (hb3a BK56 (hb4 BK62)) (fun hHeld=>?_);refine with_tabW impl_PartnerRight.tab4 impl_PartnerRight.bits4 (fun HT_ HW_=>?_)
     generalize w52.drew=w53 at BK62 BK56 HB hHeld ⊢
     refine pA 0 13 HT_ ?_;refine pA 2 15 HT_ ?_;refine tA 1 14 HT_ HW_ hHeld ?_;refine tA 3 16 HT_ HW_ hHeld ?_;refine oA 4 17 HT_ (fun K hK=>?_);refine gA Tryz.func32 #[.int .i64 ((rd_T144 l0_3 x8_1).f0),.int .i64 a0_1,.int .i64 999999] ?_;(with_reducible refine (impl_within.calls ((rd_T144 l0_3 x8_1).f0) a0_1 999999 false _ A7.out).mono ?_);rintro e w' ⟨rfl,⟨nd,rfl⟩⟩;refine ⟨_,rfl,?_⟩;refine hK.out _ _ (hb3a BK56 (hb4 BK62)).out (fun hHeld=>?_);clear hK K;refine nA 17 ?_;refine pA 5 18 HT_ ?_;refine pA 6 19 HT_ ?_;refine pB 7 20 HT_ ?_;refine pB 8 21 HT_ ?_;refine pB 9 22 HT_ ?_;refine pB 10 23 HT_ ?_;refine pB 11 24 HT_ ?_;refine pB 12 25 HT_ ?_;refine pA 13 26 HT_ ?_;refine pA 14 27 HT_ ?_;refine pB 15 28 HT_ ?_;refine pB 16 29 HT_ ?_;refine pB 17 30 HT_ ?_;refine pB 18 31 HT_ ?_;refine pA 19 32 HT_ ?_;refine pA 20 33 HT_ ?_;refine pB 21 34 HT_ ?_;refine pB 22 35 HT_ ?_;refine pB 23 36 HT_ ?_;refine pB 24 37 HT_ ?_;refine pA 25 38 HT_ ?_;refine pA 26 39 HT_ ?_;refine pB 27 40 HT_ ?_;refine pB 28 41 HT_ ?_;refine pB 29 42 HT_ ?_;refine pB 30 43 HT_ ?_;refine pB 31 44 HT_ ?_;refine pB 32 45 HT_ ?_;refine pB 33 46 HT_ ?_;refine pB 34 47 HT_ ?_;refine pB 35 48 HT_ ?_;refine pB 36 49 HT_ ?_;refine pB 37 50 HT_ ?_;refine pB 38 51 HT_ ?_;refine pB 39 52 HT_ ?_;refine pB 40 53 HT_ ?_;refine pA 41 54 HT_ ?_;refine done_ (done_of HT_.out (by kernel_rfl)) ?_
     try go_wp2
     go_ret
     exact ⟨ff,bs HB⟩
   ·intro c4b0 H;replace H:=bo H;obtain ⟨t65,A54,H⟩:=H;have hcz55:=cf4 BK62
    try go_wp2_with (fail)
    go_at_call 29;(with_reducible refine (impl_isName.calls k1 a0_0 t65 _ A54.out).mono ?_);rintro e w' ⟨rfl,⟨nd,rfl⟩⟩
    obtain rfl|rfl:=bt t65
    ·replace H:=itT H;replace H:=bo H;obtain ⟨t66,A57,H⟩:=H;have hcz58:=cf4 BK62
     try go_wp2_with (fail)
     go_at_call 30;(with_reducible refine (impl_isControl.calls a0_1 t66 _ A57.out).mono ?_);rintro e w' ⟨rfl,⟨nd,rfl⟩⟩
     obtain rfl|rfl:=bt t66
     ·replace H:=itT H;replace H:=bo H;obtain ⟨t71,A60,H⟩:=H;obtain rfl:=si H;have hcz61:=cf4 BK62
      go_wp2_with (first|(go_at_call 30;(with_reducible refine (impl_isControl.calls a0_2 t71 _ A60.out).mono ?_);rintro e w' ⟨rfl,⟨nd,rfl⟩⟩))
      go_ret
      exact ⟨ff,bs HB⟩
     ·replace H:=itF H;obtain rfl:=si H
      go_wp2
      go_ret
      exact ⟨ff,bs HB⟩
    ·replace H:=itF H;obtain rfl:=si H
     go_wp2
     go_ret
     exact ⟨ff,bs HB⟩
theorem cmp_isNaN_string.calls (a0:ByteArray) (r:Bool) (w:World) (H:cmp_isNaN_string.f a0=some r) :
  Calls Tryz.prog 121 #[.string a0] w fun e w'=>e=.returned (.bool r)∧Drawn0 w w':=by
 unfold cmp_isNaN_string.f at H;obtain rfl:=si H
 go_in
 go_wp2
 go_ret
 exact ⟨fg,dr⟩
theorem cmp_Compare_string.calls (a0:ByteArray) (a1:ByteArray) (r:Int) (w:World) (H:cmp_Compare_string.f a0 a1=some r) :
  Calls Tryz.prog 113 #[.string a0,.string a1] w fun e w'=>e=.returned (.int .i64 r)∧Drawn0 w w':=by
 unfold cmp_Compare_string.f at H;replace H:=bo H;obtain ⟨t6,A3,H⟩:=H
 go_in
 try go_wp2_with (fail)
 go_at_call 121;(with_reducible refine (cmp_isNaN_string.calls a0 t6 _ A3.out).mono ?_);rintro e w' ⟨rfl,⟨nd,rfl⟩⟩;replace H:=bo H;obtain ⟨t5,A4,H⟩:=H
 try go_wp2_with (fail)
 go_at_call 121;(with_reducible refine (cmp_isNaN_string.calls a1 t5 _ A4.out).mono ?_);rintro e w' ⟨rfl,⟨nd,rfl⟩⟩
 obtain rfl|rfl:=bt t6
 ·replace H:=itT H
  obtain rfl|rfl:=bt t5
  ·replace H:=itT H;obtain rfl:=si H
   go_wp2
   go_ret
   exact ⟨fg,dr⟩
  ·replace H:=itF H;obtain rfl:=si H
   go_wp2
   go_ret
   exact ⟨fg,dr⟩
 ·replace H:=itF H
  obtain rfl|rfl:=bt t5
  ·replace H:=itT H;obtain rfl:=si H
   go_wp2
   go_ret
   exact ⟨fg,dr⟩
  ·replace H:=itF H
   revert H;refine ip2 ?_ ?_
   ·intro c8 H;have c8b0:(Op.bytesLess a0.toList a1.toList)=true:=c8;clear c8;obtain rfl:=si H
    go_wp2
    go_ret
    exact ⟨fg,dr⟩
   ·intro c8 H
    have c8b0:(Op.bytesLess a0.toList a1.toList)=false:=by simpa using c8
    clear c8
    revert H;refine ip2 ?_ ?_
    ·intro c9 H;have c9b0:(Op.bytesLess a1.toList a0.toList)=true:=c9;clear c9;obtain rfl:=si H
     go_wp2
     go_ret
     exact ⟨fg,dr⟩
    ·intro c9 H
     have c9b0:(Op.bytesLess a1.toList a0.toList)=false:=by simpa using c9
     clear c9;obtain rfl:=si H
     go_wp2
     go_ret
     exact ⟨fg,dr⟩
theorem cmp_Or_int.calls (k:Nat) (A0:Option Addr) (c0:Nat) (l0:List Int) (r:Int) (w:World) (hr0:Kd.C (Kd.int .i64) w A0 l0.length l0) (hc0:l0.length≤c0) (H:cmp_Or_int.f k l0=some r) :
  Calls Tryz.prog 112 #[.slice A0 l0.length c0] w fun e w'=>e=.returned (.int .i64 r)∧Drawn0 w w':=by
 have HR0:=am hr0;have HC0:=am hc0;clear hr0 hc0;unfold cmp_Or_int.f at H;have H':=am H;clear H
 go_in
 go_wp2
 go_loopg [8] k (fun kq v8 w'=>∃ (x8_1:Int),v8=.int .i64 x8_1∧Aside0 (cmp_Or_int.l0 kq 0 l0 (l0.length:Int) x8_1=some r)∧Aside0 (kq≤k)∧Drawn0 w w')
 case atStart=>exact ⟨(0),fg,H',⟨Nat.le_refl _⟩,by repeat (first|exact Drawn0.refl _|apply Drawn0.step)⟩
 case round =>
  clear H'
  obtain ⟨x8_1,rfl,HA,HK1,⟨m1,rfl⟩⟩:=hrel
  cases gk with
  | zero=>exact absurd HA.out (by simp [cmp_Or_int.l0])
  | succ k1 =>
   have H:=HA.out;clear HA;simp only [cmp_Or_int.l0] at H
   revert H;refine id2 ?_ ?_
   ·intro c2b0 H
    revert H;refine id1 ?_
    intro c3b0 H
    revert H;refine id1 ?_
    intro c4b0 H
    revert H;refine ie2 ?_ ?_
    ·intro c5b0 c5b1 H;have H':=am H;clear H;have p6:0≤(x8_1:Int):=oa;have q6:x8_1<(l0.length:Int):=oa;obtain ⟨ad6,e6,hx6_0⟩:=Kd.at_int HR0.out x8_1 p6 q6
     cases e6
     replace p6:=eq_true p6;replace q6:=eq_true q6
     go_wp2
     go_roundg k1
     case measure=>have:=HK1.out;omega
     case rel=>exact ⟨(wrap64 (x8_1+1)),fg,H',⟨by have:=HK1.out;omega⟩,by repeat (first|exact Drawn0.refl _|apply Drawn0.step)⟩
    ·intro c5 c5b0 c5b1 H;obtain rfl:=si H;have p6:0≤(x8_1:Int):=oa;have q6:x8_1<(l0.length:Int):=oa;obtain ⟨ad6,e6,hx6_0⟩:=Kd.at_int HR0.out x8_1 p6 q6
     cases e6
     replace p6:=eq_true p6;replace q6:=eq_true q6
     go_wp2
     go_ret
     exact ⟨fg,dr⟩
   ·intro c2b0 H;obtain rfl:=si H
    go_wp2
    go_ret
    exact ⟨fg,dr⟩
def impl_crossOrder.T1:Bool × List (List Nat × List Nat):=(true,[([],[]),([0],[0]),([],[]),([2],[2]),([1,3],[1,3]),([],[]),([5],[5]),([],[]),([7],[7]),([6,8,4],[6,8]),([4,9],[4,9]),([10,9],[10]),([11,11,0,1,2,3,4,5,6,7,8,9,10,11],[11])])
def impl_crossOrder.B1:List Nat:=[0,1,0,4,15,0,32,0,128,511,1023,2047,4095]
theorem impl_crossOrder.tab1:rtab .any (opsOf Tryz.f99 1)=impl_crossOrder.T1:=by kernel_rfl
theorem impl_crossOrder.bits1:waitsOk impl_crossOrder.T1.2 impl_crossOrder.B1=true:=by kernel_rfl
theorem impl_crossOrder.calls (k:Nat) (a0_0:ByteArray) (a0_1:ByteArray) (a0_2:ByteArray) (a1_0:ByteArray) (a1_1:ByteArray) (a1_2:ByteArray) (r:Int) (w:World) (H:impl_crossOrder.f k a0_0 a0_1 a0_2 a1_0 a1_1 a1_2=some r) :
  Calls Tryz.prog 99 #[.agg #[.string a0_0,.string a0_1,.string a0_2],.agg #[.string a1_0,.string a1_1,.string a1_2]] w fun e w'=>e=.returned (.int .i64 r)∧Below w.heap.size w w':=by
 have hu111:=Tryz.underlying111;have HB:=am (Below.refl w.heap.size w);unfold impl_crossOrder.f at H;replace H:=bo H;obtain ⟨t20,A3,H⟩:=H;replace H:=bo H;obtain ⟨t21,A4,H⟩:=H;obtain ⟨y19,hy19⟩:∃ y_:List Int,y_=(([t20,t21]:List Int)):=⟨_,rfl⟩
 replace H:((cmp_Or_int.f k y19).bind fun t22=>(some t22))=some r:=ye hy19 H
 have Ny19:=am hy19;clear hy19;replace H:=bo H;obtain ⟨t22,A5,H⟩:=H;obtain rfl:=si H
 go_in
 try go_wp2_with (first|((with_reducible refine gate_dst (N:=2) rfl ?_);refine bz 2 (cs:=#[.string a0_0,.string a0_1,.string a0_2]) (t:=111) HB ?_;clear HB;intro gb17 hg w6 BK17 GW17 hb HB;clear hb hg)|((with_reducible refine gate_dst (N:=3) rfl ?_);refine bz 3 (cs:=#[.string a1_0,.string a1_1,.string a1_2]) (t:=111) HB ?_;clear HB;intro gb18 hg w7 BK18 GW18 hb HB;have NB17_18:=na hg BK17;have NB18_17:=nc hg BK17;replace BK17:=bb BK17 hb;clear hb hg))
 replace BK17:=am (blk_drew BK17.out);replace BK18:=am (blk_drew BK18.out);replace HB:=am (below_drew1 HB.out);refine sta 13 (hb3a BK17 (hb3 BK18)) (fun hHeld=>?_);refine with_tabW impl_crossOrder.tab1 impl_crossOrder.bits1 (fun HT_ HW_=>?_)
 generalize w7.drew=w8 at BK17 BK18 HB hHeld ⊢
 refine pA 0 5 HT_ ?_;refine pA 2 7 HT_ ?_;refine pA 5 10 HT_ ?_;refine pA 7 12 HT_ ?_;refine tA 1 6 HT_ HW_ hHeld ?_;refine tA 3 8 HT_ HW_ hHeld ?_;refine tA 6 11 HT_ HW_ hHeld ?_;refine tA 8 13 HT_ HW_ hHeld ?_;refine oA 4 9 HT_ (fun K hK=>?_);refine gA Tryz.func113 #[.string a0_0,.string a1_0] ?_;(with_reducible refine (cmp_Compare_string.calls a0_0 a1_0 t20 _ A3.out).mono ?_);rintro e w' ⟨rfl,⟨nd,rfl⟩⟩;refine ⟨_,rfl,?_⟩;refine hK.out _ _ (hb3a BK17 (hb3 BK18)).out (fun hHeld=>?_);clear hK K;refine nA 9 ?_;refine oA 9 14 HT_ (fun K hK=>?_);refine gA Tryz.func113 #[.string a0_1,.string a1_1] ?_;(with_reducible refine (cmp_Compare_string.calls a0_1 a1_1 t21 _ A4.out).mono ?_);rintro e w' ⟨rfl,⟨nd,rfl⟩⟩;refine ⟨_,rfl,?_⟩;refine hK.out _ _ (hb3a BK17 (hb3 BK18)).out (fun hHeld=>?_);clear hK K;refine nA 14 ?_;refine oA 10 15 HT_ (fun K hK=>?_);refine Kd.R_lit_step (Kd.int .i64) _ 3 ?hg (N:=15) ?hd (xs:=([t20,t21]:List Int)) (inner:=[.int .i64 t20,.int .i64 t21]) (ok:=fun _=>True) (okp:=fun _=>True) ?hr ?hp (fun _ hk=>hk) trivial (Below.refl _ _) (Nat.le_refl _) (by simp) ?_;(case hd=>rfl);(case hg=>rfl);(case hr=>first|(go_simp;done)|(go_simp;rfl));(case hp=>exact (Reps.one (show Kd.M (Kd.int .i64) _ _ _ t20 [.int .i64 t20] from rfl) (Reps.one (show Kd.M (Kd.int .i64) _ _ _ t21 [.int .i64 t21] from rfl) (Reps.none _ _))));intro v24 w9 ho10 hb hg_ hnew_;clear hg_ hnew_
 (first|rw [← Ny19.out] at ho10|(simp only [Int.reduceToNat] at ho10;rw [← Ny19.out] at ho10))
 have HO23:=am (Kd.R_lower ho10 (below_size (bs HB)));replace BK17:=bb BK17 hb;replace BK18:=bb BK18 hb;replace HB:=bq HB hb;clear hb ho10;obtain ⟨Ao11,co11,eo11⟩:=Kd.R_slice HO23.out
 (first|subst eo11|(injection eo11 with f1_ f2_ f3_;have f4_:=f1_.symm;have f5_:=f3_.symm;clear f1_ f2_ f3_;subst f4_;subst f5_))
 refine hK.out _ _ (hb3a BK17 (hb3 BK18)).out (fun hHeld=>?_);clear hK K;refine nA 15 ?_;refine oA 11 16 HT_ (fun K hK=>?_);refine gA Tryz.func112 #[.slice Ao11 y19.length co11] ?_;(with_reducible refine (cmp_Or_int.calls k _ _ y19 t22 _ ?side1 ?side2 A5.out).mono ?_)
 (case side1=>exact sd (Kd.R_reads' HO23.out).2.2)
 (case side2=>exact (Kd.R_reads' HO23.out).2.1)
 rintro e w' ⟨rfl,⟨nd,rfl⟩⟩;refine ⟨_,rfl,?_⟩;refine hK.out _ _ (hb3a BK17 (hb3 BK18)).out (fun hHeld=>?_);clear hK K;refine nA 16 ?_;refine pA 12 4 HT_ ?_;refine done_ (done_of HT_.out (by kernel_rfl)) ?_
 try go_wp2
 go_ret
 exact ⟨ff,bs HB⟩
end Go.Proofs.YtkfcahggnpecjaaGreatDoor.QW
