-- Merged by a program of this session (wip/tool/pack.py) out of its own texts for this claim.
import Derived.Test.YtomoflpgdbjojaaGreatKFnExactGatePartner14
set_option maxHeartbeats 8000000
set_option maxRecDepth 100000
set_option linter.unusedSimpArgs false
set_option linter.unusedVariables false
namespace Go.Proofs.YtomoflpgdbjojaaGreat.QO
open Go.RowKit Go.Proofs.YtomoflpgdbjojaaGreatW.PrintWords Go.Proofs.YtomoflpgdbjojaaGreatW.PrintLast Go.Proofs.YtomoflpgdbjojaaGreatW.PrintMore
attribute [local go_sem] max2_int min2_int max_two min_two max_three min_three max_four min_four   -- for this text's walks alone
def impl_CrossRight.T6:Bool × List (List Nat × List Nat):=(true,[([],[]),([0],[0]),([1],[1]),([2],[2]),([3,2],[3]),([4],[4]),([5,4],[4,5]),([6,4,4],[4,6]),([7,4],[4,7]),([4,8],[4,8]),([9,7],[9]),([10],[10]),([11,10],[10,11]),([12,10,10],[10,12]),([13,10],[10,13]),([10,14],[10,14]),([15,13],[15]),([16],[16]),([17,16],[16,17]),([18,16,16],[16,18]),([19],[19]),([19],[19]),([21,19],[19,21]),([20,22,19],[19,20,22]),([23,19],[19,23]),([19],[19]),([24,25,19,19],[19,24,25]),([26,19],[19,26]),([19,27,16],[16,19,27]),([16,28],[16,28])])
def impl_CrossRight.B6:List Nat:=[0,1,3,7,15,31,63,127,255,511,1023,2047,4095,8191,16383,32767,65535,131071,262143,524287,1048575,1048575,3145727,8388607,16777215,1048575,67108863,134217727,268435455,536870911]
theorem impl_CrossRight.tab6:rtab .any (opsOf Tryz.f84 6)=impl_CrossRight.T6:=by kernel_rfl
theorem impl_CrossRight.bits6:waitsOk impl_CrossRight.T6.2 impl_CrossRight.B6=true:=by kernel_rfl
theorem impl_CrossRight.calls (k:Nat) (A0:Option Addr) (c0:Nat) (l0:List (S114)) (r:Bool) (w:World) (hr0:Kd.C k114 w A0 l0.length l0) (hc0:l0.length≤c0) (H:impl_CrossRight.f k l0=some r) :
  Calls Tryz.prog 84 #[.slice A0 l0.length c0] w fun e w'=>e=.returned (.bool r)∧Below w.heap.size w w':=by
 have hu114:=Tryz.underlying114
 have hmf:∀ (fn:Fn) (first cap:Array Value) (w:World),(Instr.makeFunc fn first cap).run Tryz.prog w=.ok (.func fn first cap) w:=fun _ _ _ _=>rfl
 have HR0:=am hr0;have HC0:=am hc0;clear hr0 hc0;have HB:=am (Below.refl w.heap.size w);unfold impl_CrossRight.f at H
 revert H;refine ip2 ?_ ?_
 ·intro c2 H;have c2b0:decide (200<(l0.length:Int))=true:=decide_eq_true c2;have c2b1:decide (200<l0.length)=true:=decide_eq_true (by omega);clear c2;obtain rfl:=si H
  go_in
  go_wp2
  go_ret
  exact ⟨ff,bs HB⟩
 ·intro c2 H;have c2b0:decide (200<(l0.length:Int))=false:=decide_eq_false c2;have c2b1:decide (200<l0.length)=false:=decide_eq_false (by omega);clear c2;have H':=am H;clear H
  go_in
  go_wp2
  go_loopg [10] k (fun kq v10 w'=>∃ (x10_1:Int),v10=.int .i64 x10_1∧Aside0 (impl_CrossRight.l0 kq l0 l0 (l0.length:Int) x10_1=some r)∧Aside0 (kq≤k)∧Aside0 (Below w.heap.size w w'))
  case atStart=>exact ⟨(0),fg,H',⟨Nat.le_refl _⟩,⟨bs HB⟩⟩
  case round =>
   clear H'
   try clear c2
   try clear c2b0
   try clear c2b1
   obtain ⟨x10_1,rfl,HA,HK1,HB⟩:=hrel
   cases gk with
   | zero=>exact absurd HA.out (by simp [impl_CrossRight.l0])
   | succ k1 =>
    have H:=HA.out;clear HA;simp only [impl_CrossRight.l0] at H
    revert H;refine id2 ?_ ?_
    ·intro c3b0 H
     revert H;refine id1 ?_
     intro c4b0 H
     revert H;refine id1 ?_
     intro c5b0 H;have HC6:=am H;clear H;have p47:0≤(x10_1:Int):=oa;have q47:x10_1<(l0.length:Int):=oa;obtain ⟨ad47,e47,hx47_0,hx47_1,hx47_2⟩:=at_T114 HR0.out x10_1 p47 q47
     cases e47
     replace hx47_0:=cb HB hx47_0;replace hx47_1:=cb HB hx47_1;replace hx47_2:=cb HB hx47_2;replace p47:=eq_true p47;replace q47:=eq_true q47
     go_upto_region 6 with (first|((with_reducible refine gate_dst (N:=4) rfl ?_);refine bx 4 (cs:=#[.string (⟨#[]⟩:ByteArray),.string (⟨#[]⟩:ByteArray),.string (⟨#[]⟩:ByteArray)]) (t:=114) ?_;intro gb45 hg w7 hbox hb;have GW45:=gw hg HB;have HI45:=am ((show IsS114 w w7 gb45 (⟨#[]⟩:ByteArray) (⟨#[]⟩:ByteArray) (⟨#[]⟩:ByteArray) from ⟨hbox,(gs hg (bs HB))⟩));replace HB:=bq HB hb;clear hb hbox hg;obtain ⟨HGz8,hgz8⟩:=HI45.out;have hcz8_0:=cellS114_0 HGz8;have hcz8_1:=cellS114_1 HGz8;have hcz8_2:=cellS114_2 HGz8;have hfz8_0:=blk_frozen HGz8 0;have hfz8_1:=blk_frozen HGz8 1;have hfz8_2:=blk_frozen HGz8 2;clear HGz8 hgz8))
     (try simp only [Act.put,List.setIfInBounds_toArray,List.set_cons_zero,List.set_cons_succ])
     go_cut [44] (fun v44 wc=>∃ (kq:Nat) (x44_5:Bool),v44=.bool x44_5∧Aside0 (impl_CrossRight.j1 kq l0 x10_1 l0 (l0.length:Int) x10_1 x44_5 ((rd_T114 l0 x10_1).f0) ((rd_T114 l0 x10_1).f1) ((rd_T114 l0 x10_1).f2)=some r)∧Aside0 (kq≤k1)∧Aside0 (IsS114 w wc gb45 ((rd_T114 l0 x10_1).f0) ((rd_T114 l0 x10_1).f1) ((rd_T114 l0 x10_1).f2))∧Aside0 (Below w.heap.size w wc))
     case first =>
      have H:=HC6.out;clear HC6;replace H:=bo H;obtain ⟨t54,A9,H⟩:=H
      obtain rfl|rfl:=bt t54
      ·replace H:=itT H;replace H:=bo H;obtain ⟨t55,A11,H⟩:=H
       obtain rfl|rfl:=bt t55
       ·replace H:=itT H;replace H:=bo H;obtain ⟨t56,A13,H⟩:=H
        obtain rfl|rfl:=bt t56
        ·replace H:=itT H
         revert H;refine ip2 ?_ ?_
         ·intro c15 H;have c15b0:decide (0<x10_1)=true:=decide_eq_true c15;clear c15
          (first|rw [c15b0]|(simp only [i64_w,i32_w];rw [c15b0])|skip)
          obtain ⟨ji16,hji16⟩:∃ j_:Int,(wrap64 (x10_1 - 1))=j_:=⟨_,rfl⟩
          replace H:(if 0≤(ji16) then (if (ji16)<(l0.length:Int) then ((impl_crossOrder.f k1 ((rd_T114 l0 (ji16)).f0) ((rd_T114 l0 (ji16)).f1) ((rd_T114 l0 (ji16)).f2) ((rd_T114 l0 x10_1).f0) ((rd_T114 l0 x10_1).f1) ((rd_T114 l0 x10_1).f2)).bind fun t49=>(impl_CrossRight.j1 k1 l0 x10_1 l0 (l0.length:Int) x10_1 (decide (t49≥0)) ((rd_T114 l0 x10_1).f0) ((rd_T114 l0 x10_1).f1) ((rd_T114 l0 x10_1).f2))) else (none)) else (none))=some r:=by first|(rw [hji16] at H;exact H)|(simp only [hji16] at H ⊢;exact H)
          (try rw [hji16] at A9)
          (try rw [hji16] at A11)
          (try rw [hji16] at A13)
          have hji16w:(IntKind.i64.wrap (x10_1 - 1))=ji16:=(i64_w _).trans hji16
          revert H;refine id1 ?_
          intro c17b0 H
          revert H;refine id1 ?_
          intro c18b0 H;replace H:=bo H;obtain ⟨t49,A19,H⟩:=H;have H':=am H;clear H
          try go_wp2
          have n0_:Aside0 (IsS114 w (((w7.setCell ⟨gb45,0,none⟩ (.string ((rd_T114 l0 x10_1).f0))).setCell ⟨gb45,1,none⟩ (.string ((rd_T114 l0 x10_1).f1))).setCell ⟨gb45,2,none⟩ (.string ((rd_T114 l0 x10_1).f2))) gb45 ((rd_T114 l0 x10_1).f0) ((rd_T114 l0 x10_1).f1) ((rd_T114 l0 x10_1).f2)):=⟨by repeat (first|(with_reducible first|exact HI45.out|apply IsS114.alloc|apply IsS114.drewN|apply IsS114.drew|apply IsS114.set_0|apply IsS114.set_1|apply IsS114.set_2)|exact HI45.out)⟩;have n1_:Aside0 (Below w.heap.size w (((w7.setCell ⟨gb45,0,none⟩ (.string ((rd_T114 l0 x10_1).f0))).setCell ⟨gb45,1,none⟩ (.string ((rd_T114 l0 x10_1).f1))).setCell ⟨gb45,2,none⟩ (.string ((rd_T114 l0 x10_1).f2)))):=⟨by repeat (first|(with_reducible first|exact HB.out|apply below_alloc|apply pw_below_drewN|apply below_drew1|refine below_set ?_ (IsS114.ge HI45.out))|exact HB.out)⟩;(try clear HI45);(try clear HB)
          generalize (((w7.setCell ⟨gb45,0,none⟩ (.string ((rd_T114 l0 x10_1).f0))).setCell ⟨gb45,1,none⟩ (.string ((rd_T114 l0 x10_1).f1))).setCell ⟨gb45,2,none⟩ (.string ((rd_T114 l0 x10_1).f2)))=w20 at n0_ n1_ ⊢
          have HI45:=n0_;have HB:=n1_;clear n0_ n1_;replace HI45:=am (IsS114.drew HI45.out);replace HB:=am (below_drew1 HB.out);have p46:0≤((ji16):Int):=oa;have q46:(ji16)<(l0.length:Int):=oa;obtain ⟨ad46,e46,hx46_0,hx46_1,hx46_2⟩:=at_T114 HR0.out (ji16) p46 q46;have hw46_2:=hx46_2;have hw46_1:=hx46_1;have hw46_0:=hx46_0;obtain rfl:ad47=ad46:=(by injection e46);replace hx46_0:=cb HB hx46_0;replace hx46_1:=cb HB hx46_1;replace hx46_2:=cb HB hx46_2;replace p46:=eq_true p46;replace q46:=eq_true q46;refine start_ (n:=30) (S:=fun w'=>qk3a w' gb45 (.string ((rd_T114 l0 x10_1).f0)) (.string ((rd_T114 l0 x10_1).f1)) (.string ((rd_T114 l0 x10_1).f2)) (qe3 w' (ad47.add (((ji16)).toNat * 3)) (.string ((rd_T114 l0 (ji16)).f0)) (.string ((rd_T114 l0 (ji16)).f1)) (.string ((rd_T114 l0 (ji16)).f2)))) (ds:=[]) _ (by kernel_rfl) rfl rfl ⟨(by obtain ⟨hb_,_⟩:=HI45.out;exact (cellS114_0 hb_).trans rfl),(by obtain ⟨hb_,_⟩:=HI45.out;exact (cellS114_1 hb_).trans rfl),(by obtain ⟨hb_,_⟩:=HI45.out;exact (cellS114_2 hb_).trans rfl),((cb HB hw46_0).trans rfl),((cb HB hw46_1).trans rfl),((cb HB hw46_2).trans rfl)⟩ (fun hHeld=>?_);refine with_tabW impl_CrossRight.tab6 impl_CrossRight.bits6 (fun HT_ HW_=>?_)
          generalize w20.drew=w21 at HI45 HB hx46_0 hx46_1 hx46_2 hHeld ⊢
          refine pz1 0 ?_;refine ta 1 ?_;refine oA 2 17 HT_ (fun K hK=>?_);refine gA Tryz.func53 #[.string ((rd_T114 l0 x10_1).f0)] ?_;(with_reducible refine (impl_isName.calls k1 ((rd_T114 l0 x10_1).f0) true _ A9.out).mono ?_);rintro e w' ⟨rfl,⟨nd,rfl⟩⟩;refine ⟨_,rfl,?_⟩;refine hK.out _ _ ⟨(by obtain ⟨hb_,_⟩:=HI45.out;exact (cellS114_0 hb_).trans rfl),(by obtain ⟨hb_,_⟩:=HI45.out;exact (cellS114_1 hb_).trans rfl),(by obtain ⟨hb_,_⟩:=HI45.out;exact (cellS114_2 hb_).trans rfl),((cb HB hw46_0).trans rfl),((cb HB hw46_1).trans rfl),((cb HB hw46_2).trans rfl)⟩ (fun hHeld=>?_);clear hK K;refine nA 17 ?_;refine pz3 3 ?_;refine ta 6 ?_;refine oA 7 22 HT_ (fun K hK=>?_);refine gA Tryz.func53 #[.string ((rd_T114 l0 x10_1).f1)] ?_;(with_reducible refine (impl_isName.calls k1 ((rd_T114 l0 x10_1).f1) true _ A11.out).mono ?_);rintro e w' ⟨rfl,⟨nd,rfl⟩⟩;refine ⟨_,rfl,?_⟩;refine hK.out _ _ ⟨(by obtain ⟨hb_,_⟩:=HI45.out;exact (cellS114_0 hb_).trans rfl),(by obtain ⟨hb_,_⟩:=HI45.out;exact (cellS114_1 hb_).trans rfl),(by obtain ⟨hb_,_⟩:=HI45.out;exact (cellS114_2 hb_).trans rfl),((cb HB hw46_0).trans rfl),((cb HB hw46_1).trans rfl),((cb HB hw46_2).trans rfl)⟩ (fun hHeld=>?_);clear hK K;refine nA 22 ?_;refine pz4 8 ?_;refine ta 12 ?_;refine oA 13 28 HT_ (fun K hK=>?_);refine gA Tryz.func53 #[.string ((rd_T114 l0 x10_1).f2)] ?_;(with_reducible refine (impl_isName.calls k1 ((rd_T114 l0 x10_1).f2) true _ A13.out).mono ?_);rintro e w' ⟨rfl,⟨nd,rfl⟩⟩;refine ⟨_,rfl,?_⟩;refine hK.out _ _ ⟨(by obtain ⟨hb_,_⟩:=HI45.out;exact (cellS114_0 hb_).trans rfl),(by obtain ⟨hb_,_⟩:=HI45.out;exact (cellS114_1 hb_).trans rfl),(by obtain ⟨hb_,_⟩:=HI45.out;exact (cellS114_2 hb_).trans rfl),((cb HB hw46_0).trans rfl),((cb HB hw46_1).trans rfl),((cb HB hw46_2).trans rfl)⟩ (fun hHeld=>?_);clear hK K;refine nA 28 ?_;refine pz8 14 ?_;refine pz2 22 ?_;refine ta 24 ?_;refine ta 25 ?_;refine oA 26 41 HT_ (fun K hK=>?_);refine goes_ Tryz.func128 (by kernel_rfl) rfl #[.agg #[.string ((rd_T114 l0 (ji16)).f0),.string ((rd_T114 l0 (ji16)).f1),.string ((rd_T114 l0 (ji16)).f2)],.agg #[.string ((rd_T114 l0 x10_1).f0),.string ((rd_T114 l0 x10_1).f1),.string ((rd_T114 l0 x10_1).f2)]] (by rfl) rfl rfl (by (try simp only [List.map_toArray,List.map_cons,List.map_nil]);first|done|(simp only [hji16];rfl)|rfl|(simp only [List.length_drop,List.length_take];rfl)) ?_;(with_reducible refine (impl_crossOrder.calls k1 ((rd_T114 l0 (ji16)).f0) ((rd_T114 l0 (ji16)).f1) ((rd_T114 l0 (ji16)).f2) ((rd_T114 l0 x10_1).f0) ((rd_T114 l0 x10_1).f1) ((rd_T114 l0 x10_1).f2) t49 _ A19.out).mono ?_);rintro e w22 ⟨rfl,hb⟩;refine ⟨_,rfl,?_⟩;replace HB:=am (below_step (by repeat (first|(with_reducible first|exact HB.out|apply below_alloc|apply pw_below_drewN|apply below_drew1|refine below_set ?_ (IsS114.ge HI45.out))|exact HB.out)) hb);replace HI45:=am (IsS114.below (by repeat (first|(with_reducible first|exact HI45.out|apply IsS114.alloc|apply IsS114.drewN|apply IsS114.drew|apply IsS114.set_0|apply IsS114.set_1|apply IsS114.set_2)|exact HI45.out)) hb);(try clear hb);(try clear hb2);(try clear hk);(try clear hi);refine hK.out _ _ ⟨(by obtain ⟨hb_,_⟩:=HI45.out;exact (cellS114_0 hb_).trans rfl),(by obtain ⟨hb_,_⟩:=HI45.out;exact (cellS114_1 hb_).trans rfl),(by obtain ⟨hb_,_⟩:=HI45.out;exact (cellS114_2 hb_).trans rfl),((cb HB hw46_0).trans rfl),((cb HB hw46_1).trans rfl),((cb HB hw46_2).trans rfl)⟩ (fun hHeld=>?_);clear hK K;refine nA 41 ?_;refine pz3 27 ?_;refine done_ (done_of HT_.out (by kernel_rfl)) ?_
          try go_wp2
          go_meet
          case rel=>exact ⟨_,(decide (t49≥0)),fg,H',⟨by have:=HK1.out;first|omega|exact Nat.le_refl _⟩,⟨by repeat (first|(with_reducible first|exact HI45.out|apply IsS114.alloc|apply IsS114.drewN|apply IsS114.drew|apply IsS114.set_0|apply IsS114.set_1|apply IsS114.set_2)|exact HI45.out)⟩,⟨by repeat (first|(with_reducible first|exact HB.out|apply below_alloc|apply pw_below_drewN|apply below_drew1|refine below_set ?_ (IsS114.ge HI45.out))|exact HB.out)⟩⟩
         ·intro c15 H;have c15b0:decide (0<x10_1)=false:=decide_eq_false c15;clear c15
          (first|rw [c15b0]|(simp only [i64_w,i32_w];rw [c15b0])|skip)
          have H':=am H;clear H
          try go_wp2
          have n0_:Aside0 (IsS114 w (((w7.setCell ⟨gb45,0,none⟩ (.string ((rd_T114 l0 x10_1).f0))).setCell ⟨gb45,1,none⟩ (.string ((rd_T114 l0 x10_1).f1))).setCell ⟨gb45,2,none⟩ (.string ((rd_T114 l0 x10_1).f2))) gb45 ((rd_T114 l0 x10_1).f0) ((rd_T114 l0 x10_1).f1) ((rd_T114 l0 x10_1).f2)):=⟨by repeat (first|(with_reducible first|exact HI45.out|apply IsS114.alloc|apply IsS114.drewN|apply IsS114.drew|apply IsS114.set_0|apply IsS114.set_1|apply IsS114.set_2)|exact HI45.out)⟩;have n1_:Aside0 (Below w.heap.size w (((w7.setCell ⟨gb45,0,none⟩ (.string ((rd_T114 l0 x10_1).f0))).setCell ⟨gb45,1,none⟩ (.string ((rd_T114 l0 x10_1).f1))).setCell ⟨gb45,2,none⟩ (.string ((rd_T114 l0 x10_1).f2)))):=⟨by repeat (first|(with_reducible first|exact HB.out|apply below_alloc|apply pw_below_drewN|apply below_drew1|refine below_set ?_ (IsS114.ge HI45.out))|exact HB.out)⟩;(try clear HI45);(try clear HB)
          generalize (((w7.setCell ⟨gb45,0,none⟩ (.string ((rd_T114 l0 x10_1).f0))).setCell ⟨gb45,1,none⟩ (.string ((rd_T114 l0 x10_1).f1))).setCell ⟨gb45,2,none⟩ (.string ((rd_T114 l0 x10_1).f2)))=w23 at n0_ n1_ ⊢
          have HI45:=n0_;have HB:=n1_;clear n0_ n1_;replace HI45:=am (IsS114.drew HI45.out);replace HB:=am (below_drew1 HB.out);refine start_ (n:=30) (S:=fun w'=>qk3 w' gb45 (.string ((rd_T114 l0 x10_1).f0)) (.string ((rd_T114 l0 x10_1).f1)) (.string ((rd_T114 l0 x10_1).f2))) (ds:=[]) _ (by kernel_rfl) rfl rfl ⟨(by obtain ⟨hb_,_⟩:=HI45.out;exact (cellS114_0 hb_).trans rfl),(by obtain ⟨hb_,_⟩:=HI45.out;exact (cellS114_1 hb_).trans rfl),(by obtain ⟨hb_,_⟩:=HI45.out;exact (cellS114_2 hb_).trans rfl)⟩ (fun hHeld=>?_);refine with_tabW impl_CrossRight.tab6 impl_CrossRight.bits6 (fun HT_ HW_=>?_)
          generalize w23.drew=w24 at HI45 HB hHeld ⊢
          refine pz1 0 ?_;refine ta 1 ?_;refine oA 2 17 HT_ (fun K hK=>?_);refine gA Tryz.func53 #[.string ((rd_T114 l0 x10_1).f0)] ?_;(with_reducible refine (impl_isName.calls k1 ((rd_T114 l0 x10_1).f0) true _ A9.out).mono ?_);rintro e w' ⟨rfl,⟨nd,rfl⟩⟩;refine ⟨_,rfl,?_⟩;refine hK.out _ _ ⟨(by obtain ⟨hb_,_⟩:=HI45.out;exact (cellS114_0 hb_).trans rfl),(by obtain ⟨hb_,_⟩:=HI45.out;exact (cellS114_1 hb_).trans rfl),(by obtain ⟨hb_,_⟩:=HI45.out;exact (cellS114_2 hb_).trans rfl)⟩ (fun hHeld=>?_);clear hK K;refine nA 17 ?_;refine pz3 3 ?_;refine ta 6 ?_;refine oA 7 22 HT_ (fun K hK=>?_);refine gA Tryz.func53 #[.string ((rd_T114 l0 x10_1).f1)] ?_;(with_reducible refine (impl_isName.calls k1 ((rd_T114 l0 x10_1).f1) true _ A11.out).mono ?_);rintro e w' ⟨rfl,⟨nd,rfl⟩⟩;refine ⟨_,rfl,?_⟩;refine hK.out _ _ ⟨(by obtain ⟨hb_,_⟩:=HI45.out;exact (cellS114_0 hb_).trans rfl),(by obtain ⟨hb_,_⟩:=HI45.out;exact (cellS114_1 hb_).trans rfl),(by obtain ⟨hb_,_⟩:=HI45.out;exact (cellS114_2 hb_).trans rfl)⟩ (fun hHeld=>?_);clear hK K;refine nA 22 ?_;refine pz4 8 ?_;refine ta 12 ?_;refine oA 13 28 HT_ (fun K hK=>?_);refine gA Tryz.func53 #[.string ((rd_T114 l0 x10_1).f2)] ?_;(with_reducible refine (impl_isName.calls k1 ((rd_T114 l0 x10_1).f2) true _ A13.out).mono ?_);rintro e w' ⟨rfl,⟨nd,rfl⟩⟩;refine ⟨_,rfl,?_⟩;refine hK.out _ _ ⟨(by obtain ⟨hb_,_⟩:=HI45.out;exact (cellS114_0 hb_).trans rfl),(by obtain ⟨hb_,_⟩:=HI45.out;exact (cellS114_1 hb_).trans rfl),(by obtain ⟨hb_,_⟩:=HI45.out;exact (cellS114_2 hb_).trans rfl)⟩ (fun hHeld=>?_);clear hK K;refine nA 28 ?_;refine pz8 14 ?_;refine pz8 22 ?_;refine done_ (done_of HT_.out (by kernel_rfl)) ?_
          try go_wp2
          go_meet
          case rel=>exact ⟨_,(false),fg,H',⟨by have:=HK1.out;first|omega|exact Nat.le_refl _⟩,⟨by repeat (first|(with_reducible first|exact HI45.out|apply IsS114.alloc|apply IsS114.drewN|apply IsS114.drew|apply IsS114.set_0|apply IsS114.set_1|apply IsS114.set_2)|exact HI45.out)⟩,⟨by repeat (first|(with_reducible first|exact HB.out|apply below_alloc|apply pw_below_drewN|apply below_drew1|refine below_set ?_ (IsS114.ge HI45.out))|exact HB.out)⟩⟩
        ·replace H:=itF H;have H':=am H;clear H
         try go_wp2
         have n0_:Aside0 (IsS114 w (((w7.setCell ⟨gb45,0,none⟩ (.string ((rd_T114 l0 x10_1).f0))).setCell ⟨gb45,1,none⟩ (.string ((rd_T114 l0 x10_1).f1))).setCell ⟨gb45,2,none⟩ (.string ((rd_T114 l0 x10_1).f2))) gb45 ((rd_T114 l0 x10_1).f0) ((rd_T114 l0 x10_1).f1) ((rd_T114 l0 x10_1).f2)):=⟨by repeat (first|(with_reducible first|exact HI45.out|apply IsS114.alloc|apply IsS114.drewN|apply IsS114.drew|apply IsS114.set_0|apply IsS114.set_1|apply IsS114.set_2)|exact HI45.out)⟩;have n1_:Aside0 (Below w.heap.size w (((w7.setCell ⟨gb45,0,none⟩ (.string ((rd_T114 l0 x10_1).f0))).setCell ⟨gb45,1,none⟩ (.string ((rd_T114 l0 x10_1).f1))).setCell ⟨gb45,2,none⟩ (.string ((rd_T114 l0 x10_1).f2)))):=⟨by repeat (first|(with_reducible first|exact HB.out|apply below_alloc|apply pw_below_drewN|apply below_drew1|refine below_set ?_ (IsS114.ge HI45.out))|exact HB.out)⟩;(try clear HI45);(try clear HB)
         generalize (((w7.setCell ⟨gb45,0,none⟩ (.string ((rd_T114 l0 x10_1).f0))).setCell ⟨gb45,1,none⟩ (.string ((rd_T114 l0 x10_1).f1))).setCell ⟨gb45,2,none⟩ (.string ((rd_T114 l0 x10_1).f2)))=w25 at n0_ n1_ ⊢
         have HI45:=n0_;have HB:=n1_;clear n0_ n1_;replace HI45:=am (IsS114.drew HI45.out);replace HB:=am (below_drew1 HB.out);refine start_ (n:=30) (S:=fun w'=>qk3 w' gb45 (.string ((rd_T114 l0 x10_1).f0)) (.string ((rd_T114 l0 x10_1).f1)) (.string ((rd_T114 l0 x10_1).f2))) (ds:=[]) _ (by kernel_rfl) rfl rfl ⟨(by obtain ⟨hb_,_⟩:=HI45.out;exact (cellS114_0 hb_).trans rfl),(by obtain ⟨hb_,_⟩:=HI45.out;exact (cellS114_1 hb_).trans rfl),(by obtain ⟨hb_,_⟩:=HI45.out;exact (cellS114_2 hb_).trans rfl)⟩ (fun hHeld=>?_);refine with_tabW impl_CrossRight.tab6 impl_CrossRight.bits6 (fun HT_ HW_=>?_)
         generalize w25.drew=w26 at HI45 HB hHeld ⊢
         refine pz1 0 ?_;refine ta 1 ?_;refine oA 2 17 HT_ (fun K hK=>?_);refine gA Tryz.func53 #[.string ((rd_T114 l0 x10_1).f0)] ?_;(with_reducible refine (impl_isName.calls k1 ((rd_T114 l0 x10_1).f0) true _ A9.out).mono ?_);rintro e w' ⟨rfl,⟨nd,rfl⟩⟩;refine ⟨_,rfl,?_⟩;refine hK.out _ _ ⟨(by obtain ⟨hb_,_⟩:=HI45.out;exact (cellS114_0 hb_).trans rfl),(by obtain ⟨hb_,_⟩:=HI45.out;exact (cellS114_1 hb_).trans rfl),(by obtain ⟨hb_,_⟩:=HI45.out;exact (cellS114_2 hb_).trans rfl)⟩ (fun hHeld=>?_);clear hK K;refine nA 17 ?_;refine pz3 3 ?_;refine ta 6 ?_;refine oA 7 22 HT_ (fun K hK=>?_);refine gA Tryz.func53 #[.string ((rd_T114 l0 x10_1).f1)] ?_;(with_reducible refine (impl_isName.calls k1 ((rd_T114 l0 x10_1).f1) true _ A11.out).mono ?_);rintro e w' ⟨rfl,⟨nd,rfl⟩⟩;refine ⟨_,rfl,?_⟩;refine hK.out _ _ ⟨(by obtain ⟨hb_,_⟩:=HI45.out;exact (cellS114_0 hb_).trans rfl),(by obtain ⟨hb_,_⟩:=HI45.out;exact (cellS114_1 hb_).trans rfl),(by obtain ⟨hb_,_⟩:=HI45.out;exact (cellS114_2 hb_).trans rfl)⟩ (fun hHeld=>?_);clear hK K;refine nA 22 ?_;refine pz4 8 ?_;refine ta 12 ?_;refine oA 13 28 HT_ (fun K hK=>?_);refine gA Tryz.func53 #[.string ((rd_T114 l0 x10_1).f2)] ?_;(with_reducible refine (impl_isName.calls k1 ((rd_T114 l0 x10_1).f2) false _ A13.out).mono ?_);rintro e w' ⟨rfl,⟨nd,rfl⟩⟩;refine ⟨_,rfl,?_⟩;refine hK.out _ _ ⟨(by obtain ⟨hb_,_⟩:=HI45.out;exact (cellS114_0 hb_).trans rfl),(by obtain ⟨hb_,_⟩:=HI45.out;exact (cellS114_1 hb_).trans rfl),(by obtain ⟨hb_,_⟩:=HI45.out;exact (cellS114_2 hb_).trans rfl)⟩ (fun hHeld=>?_);clear hK K;refine nA 28 ?_;refine pz8 14 ?_;refine pz8 22 ?_;refine done_ (done_of HT_.out (by kernel_rfl)) ?_
         try go_wp2
         go_meet
         case rel=>exact ⟨_,(true),fg,H',⟨by have:=HK1.out;first|omega|exact Nat.le_refl _⟩,⟨by repeat (first|(with_reducible first|exact HI45.out|apply IsS114.alloc|apply IsS114.drewN|apply IsS114.drew|apply IsS114.set_0|apply IsS114.set_1|apply IsS114.set_2)|exact HI45.out)⟩,⟨by repeat (first|(with_reducible first|exact HB.out|apply below_alloc|apply pw_below_drewN|apply below_drew1|refine below_set ?_ (IsS114.ge HI45.out))|exact HB.out)⟩⟩
       ·replace H:=itF H;have H':=am H;clear H
        try go_wp2
        have n0_:Aside0 (IsS114 w (((w7.setCell ⟨gb45,0,none⟩ (.string ((rd_T114 l0 x10_1).f0))).setCell ⟨gb45,1,none⟩ (.string ((rd_T114 l0 x10_1).f1))).setCell ⟨gb45,2,none⟩ (.string ((rd_T114 l0 x10_1).f2))) gb45 ((rd_T114 l0 x10_1).f0) ((rd_T114 l0 x10_1).f1) ((rd_T114 l0 x10_1).f2)):=⟨by repeat (first|(with_reducible first|exact HI45.out|apply IsS114.alloc|apply IsS114.drewN|apply IsS114.drew|apply IsS114.set_0|apply IsS114.set_1|apply IsS114.set_2)|exact HI45.out)⟩;have n1_:Aside0 (Below w.heap.size w (((w7.setCell ⟨gb45,0,none⟩ (.string ((rd_T114 l0 x10_1).f0))).setCell ⟨gb45,1,none⟩ (.string ((rd_T114 l0 x10_1).f1))).setCell ⟨gb45,2,none⟩ (.string ((rd_T114 l0 x10_1).f2)))):=⟨by repeat (first|(with_reducible first|exact HB.out|apply below_alloc|apply pw_below_drewN|apply below_drew1|refine below_set ?_ (IsS114.ge HI45.out))|exact HB.out)⟩;(try clear HI45);(try clear HB)
        generalize (((w7.setCell ⟨gb45,0,none⟩ (.string ((rd_T114 l0 x10_1).f0))).setCell ⟨gb45,1,none⟩ (.string ((rd_T114 l0 x10_1).f1))).setCell ⟨gb45,2,none⟩ (.string ((rd_T114 l0 x10_1).f2)))=w27 at n0_ n1_ ⊢
        have HI45:=n0_;have HB:=n1_;clear n0_ n1_;replace HI45:=am (IsS114.drew HI45.out);replace HB:=am (below_drew1 HB.out);refine start_ (n:=30) (S:=fun w'=>qk3 w' gb45 (.string ((rd_T114 l0 x10_1).f0)) (.string ((rd_T114 l0 x10_1).f1)) (.string ((rd_T114 l0 x10_1).f2))) (ds:=[]) _ (by kernel_rfl) rfl rfl ⟨(by obtain ⟨hb_,_⟩:=HI45.out;exact (cellS114_0 hb_).trans rfl),(by obtain ⟨hb_,_⟩:=HI45.out;exact (cellS114_1 hb_).trans rfl),(by obtain ⟨hb_,_⟩:=HI45.out;exact (cellS114_2 hb_).trans rfl)⟩ (fun hHeld=>?_);refine with_tabW impl_CrossRight.tab6 impl_CrossRight.bits6 (fun HT_ HW_=>?_)
        generalize w27.drew=w28 at HI45 HB hHeld ⊢
        refine pz1 0 ?_;refine ta 1 ?_;refine oA 2 17 HT_ (fun K hK=>?_);refine gA Tryz.func53 #[.string ((rd_T114 l0 x10_1).f0)] ?_;(with_reducible refine (impl_isName.calls k1 ((rd_T114 l0 x10_1).f0) true _ A9.out).mono ?_);rintro e w' ⟨rfl,⟨nd,rfl⟩⟩;refine ⟨_,rfl,?_⟩;refine hK.out _ _ ⟨(by obtain ⟨hb_,_⟩:=HI45.out;exact (cellS114_0 hb_).trans rfl),(by obtain ⟨hb_,_⟩:=HI45.out;exact (cellS114_1 hb_).trans rfl),(by obtain ⟨hb_,_⟩:=HI45.out;exact (cellS114_2 hb_).trans rfl)⟩ (fun hHeld=>?_);clear hK K;refine nA 17 ?_;refine pz3 3 ?_;refine ta 6 ?_;refine oA 7 22 HT_ (fun K hK=>?_);refine gA Tryz.func53 #[.string ((rd_T114 l0 x10_1).f1)] ?_;(with_reducible refine (impl_isName.calls k1 ((rd_T114 l0 x10_1).f1) false _ A11.out).mono ?_);rintro e w' ⟨rfl,⟨nd,rfl⟩⟩;refine ⟨_,rfl,?_⟩;refine hK.out _ _ ⟨(by obtain ⟨hb_,_⟩:=HI45.out;exact (cellS114_0 hb_).trans rfl),(by obtain ⟨hb_,_⟩:=HI45.out;exact (cellS114_1 hb_).trans rfl),(by obtain ⟨hb_,_⟩:=HI45.out;exact (cellS114_2 hb_).trans rfl)⟩ (fun hHeld=>?_);clear hK K;refine nA 22 ?_;refine pz8 8 ?_;refine pz8 16 ?_;refine pz4 24 ?_;refine pz2 28 ?_;refine done_ (done_of HT_.out (by kernel_rfl)) ?_
        try go_wp2
        go_meet
        case rel=>exact ⟨_,(true),fg,H',⟨by have:=HK1.out;first|omega|exact Nat.le_refl _⟩,⟨by repeat (first|(with_reducible first|exact HI45.out|apply IsS114.alloc|apply IsS114.drewN|apply IsS114.drew|apply IsS114.set_0|apply IsS114.set_1|apply IsS114.set_2)|exact HI45.out)⟩,⟨by repeat (first|(with_reducible first|exact HB.out|apply below_alloc|apply pw_below_drewN|apply below_drew1|refine below_set ?_ (IsS114.ge HI45.out))|exact HB.out)⟩⟩
      ·replace H:=itF H;have H':=am H;clear H
       try go_wp2
       have n0_:Aside0 (IsS114 w (((w7.setCell ⟨gb45,0,none⟩ (.string ((rd_T114 l0 x10_1).f0))).setCell ⟨gb45,1,none⟩ (.string ((rd_T114 l0 x10_1).f1))).setCell ⟨gb45,2,none⟩ (.string ((rd_T114 l0 x10_1).f2))) gb45 ((rd_T114 l0 x10_1).f0) ((rd_T114 l0 x10_1).f1) ((rd_T114 l0 x10_1).f2)):=⟨by repeat (first|(with_reducible first|exact HI45.out|apply IsS114.alloc|apply IsS114.drewN|apply IsS114.drew|apply IsS114.set_0|apply IsS114.set_1|apply IsS114.set_2)|exact HI45.out)⟩;have n1_:Aside0 (Below w.heap.size w (((w7.setCell ⟨gb45,0,none⟩ (.string ((rd_T114 l0 x10_1).f0))).setCell ⟨gb45,1,none⟩ (.string ((rd_T114 l0 x10_1).f1))).setCell ⟨gb45,2,none⟩ (.string ((rd_T114 l0 x10_1).f2)))):=⟨by repeat (first|(with_reducible first|exact HB.out|apply below_alloc|apply pw_below_drewN|apply below_drew1|refine below_set ?_ (IsS114.ge HI45.out))|exact HB.out)⟩;(try clear HI45);(try clear HB)
       generalize (((w7.setCell ⟨gb45,0,none⟩ (.string ((rd_T114 l0 x10_1).f0))).setCell ⟨gb45,1,none⟩ (.string ((rd_T114 l0 x10_1).f1))).setCell ⟨gb45,2,none⟩ (.string ((rd_T114 l0 x10_1).f2)))=w29 at n0_ n1_ ⊢
       have HI45:=n0_;have HB:=n1_;clear n0_ n1_;replace HI45:=am (IsS114.drew HI45.out);replace HB:=am (below_drew1 HB.out);refine start_ (n:=30) (S:=fun w'=>qk3 w' gb45 (.string ((rd_T114 l0 x10_1).f0)) (.string ((rd_T114 l0 x10_1).f1)) (.string ((rd_T114 l0 x10_1).f2))) (ds:=[]) _ (by kernel_rfl) rfl rfl ⟨(by obtain ⟨hb_,_⟩:=HI45.out;exact (cellS114_0 hb_).trans rfl),(by obtain ⟨hb_,_⟩:=HI45.out;exact (cellS114_1 hb_).trans rfl),(by obtain ⟨hb_,_⟩:=HI45.out;exact (cellS114_2 hb_).trans rfl)⟩ (fun hHeld=>?_);refine with_tabW impl_CrossRight.tab6 impl_CrossRight.bits6 (fun HT_ HW_=>?_)
       generalize w29.drew=w30 at HI45 HB hHeld ⊢
       refine pz1 0 ?_;refine ta 1 ?_;refine oA 2 17 HT_ (fun K hK=>?_);refine gA Tryz.func53 #[.string ((rd_T114 l0 x10_1).f0)] ?_;(with_reducible refine (impl_isName.calls k1 ((rd_T114 l0 x10_1).f0) false _ A9.out).mono ?_);rintro e w' ⟨rfl,⟨nd,rfl⟩⟩;refine ⟨_,rfl,?_⟩;refine hK.out _ _ ⟨(by obtain ⟨hb_,_⟩:=HI45.out;exact (cellS114_0 hb_).trans rfl),(by obtain ⟨hb_,_⟩:=HI45.out;exact (cellS114_1 hb_).trans rfl),(by obtain ⟨hb_,_⟩:=HI45.out;exact (cellS114_2 hb_).trans rfl)⟩ (fun hHeld=>?_);clear hK K;refine nA 17 ?_;refine pz8 3 ?_;refine pz8 11 ?_;refine pz8 19 ?_;refine pz3 27 ?_;refine done_ (done_of HT_.out (by kernel_rfl)) ?_
       try go_wp2
       go_meet
       case rel=>exact ⟨_,(true),fg,H',⟨by have:=HK1.out;first|omega|exact Nat.le_refl _⟩,⟨by repeat (first|(with_reducible first|exact HI45.out|apply IsS114.alloc|apply IsS114.drewN|apply IsS114.drew|apply IsS114.set_0|apply IsS114.set_1|apply IsS114.set_2)|exact HI45.out)⟩,⟨by repeat (first|(with_reducible first|exact HB.out|apply below_alloc|apply pw_below_drewN|apply below_drew1|refine below_set ?_ (IsS114.ge HI45.out))|exact HB.out)⟩⟩
     case rest =>
      clear HC6
      obtain ⟨kq,x44_5,rfl,HA,HJ5,HI45,HB⟩:=hcut
      cases kq with
      | zero=>exact absurd HA.out (by simp [impl_CrossRight.j1])
      | succ kj5 =>
       have H:=HA.out;clear HA;simp only [impl_CrossRight.j1] at H
       obtain rfl|rfl:=bt x44_5
       ·replace H:=itT H;obtain rfl:=si H
        go_wp2
        go_ret
        exact ⟨ff,by repeat (first|(with_reducible first|exact HB.out|apply below_alloc|apply pw_below_drewN|apply below_drew1|refine below_set ?_ (IsS114.ge HI45.out))|exact HB.out)⟩
       ·replace H:=itF H
        revert H;refine ip1 ?_
        intro c32 H;have c32b0:=eq_true c32;have c32b1:decide (0≤x10_1)=true:=decide_eq_true c32;clear c32
        revert H;refine ip1 ?_
        intro c33 H;have c33b0:=eq_true c33;have c33b1:decide (x10_1≤(l0.length:Int))=true:=decide_eq_true c33;clear c33;obtain ⟨y48,hy48⟩:∃ y_:List (S114),y_=(l0.take (x10_1:Int).toNat):=⟨_,rfl⟩
        replace H:((impl_Cross_impl_CrossRight_1_129.f kj5 y48 ((rd_T114 l0 x10_1).f0) ((rd_T114 l0 x10_1).f1) ((rd_T114 l0 x10_1).f2)).bind fun bt371=>(if bt371.1=true then (some false) else (impl_CrossRight.l0 kj5 l0 l0 (l0.length:Int) (wrap64 (x10_1+1)))))=some r:=ye hy48 H
        have Ny48:=am hy48;clear hy48;replace H:=bo H;obtain ⟨⟨t51,t57,t58,t59⟩,A34,H⟩:=H;(try dsimp only at H);have q35:(x10_1:Int)≤((l0.length:Int):Int):=oa;obtain ⟨i035,hi52,_,hsz35,_⟩:=info_parts info114;have hroom35:l0.length≤c0:=HC0.out;have hC35:Kd.C k114 _ (some ad47) l0.length l0:=HR0.out;have hcut35:=cut_to (P:=Tryz.prog) 34 114 .i64 Tryz.underlying34 hi52 (some ad47) l0.length c0 x10_1 (oa) q35 hroom35;have hr35:=Kd.C_take (m:=(x10_1:Int).toNat) hC35 (by omega);have hy35:y48.length=(x10_1:Int).toNat:=(by rw [Ny48.out,List.length_take];omega)
        rw [← Ny48.out] at hr35
        rw [← hy35] at hcut35
        have HR50:=am hr35;have HC50:=am (show y48.length≤c0 from by omega);clear hr35 hC35 hroom35 hi52 hsz35;have KY35:=am hy35;clear hy35;replace q35:=eq_true q35
        try go_wp2_with (fail)
        go_at_call 129;(with_reducible refine (impl_Cross_impl_CrossRight_1_129.calls kj5 _ _ y48 gb45 ((rd_T114 l0 x10_1).f0) ((rd_T114 l0 x10_1).f1) ((rd_T114 l0 x10_1).f2) t51 t57 t58 t59 w _ ?side1 ?side2 ?side3 HC50.out A34.out).mono ?_);(case side1=>repeat (first|(with_reducible first|exact HI45.out|apply IsS114.alloc|apply IsS114.drewN|apply IsS114.drew|apply IsS114.set_0|apply IsS114.set_1|apply IsS114.set_2)|exact HI45.out));(case side2=>repeat (first|(with_reducible first|exact HB.out|apply below_alloc|apply pw_below_drewN|apply below_drew1|refine below_set ?_ (IsS114.ge HI45.out))|exact HB.out));(case side3=>exact Kd.C_foot_came k114_heap HR50.out (by repeat (first|(with_reducible first|exact HB.out|apply below_alloc|apply pw_below_drewN|apply below_drew1|refine below_set ?_ (IsS114.ge HI45.out))|exact HB.out)) (IsS114.ge HI45.out));rintro e w36 ⟨rfl,hi,hb,hk⟩;replace HB:=am (hb);replace HI45:=am (hi);(try clear hb);(try clear hb2);(try clear hk);(try clear hi)
        obtain rfl|rfl:=bt t51
        ·replace H:=itT H;obtain rfl:=si H
         go_wp2
         go_ret
         exact ⟨ff,by repeat (first|(with_reducible first|exact HB.out|apply below_alloc|apply pw_below_drewN|apply below_drew1|refine below_set ?_ (IsS114.ge HI45.out))|exact HB.out)⟩
        ·replace H:=itF H;have H':=am H;clear H
         go_wp2
         go_roundg kj5
         case measure=>have:=HK1.out;have:=HJ5.out;omega
         case rel=>exact ⟨(wrap64 (x10_1+1)),fg,H',⟨by have:=HK1.out;have:=HJ5.out;omega⟩,⟨by repeat (first|(with_reducible first|exact HB.out|apply below_alloc|apply pw_below_drewN|apply below_drew1|refine below_set ?_ (IsS114.ge HI45.out))|exact HB.out)⟩⟩
    ·intro c3b0 H;obtain rfl:=si H
     go_wp2
     go_ret
     exact ⟨ff,bs HB⟩
theorem impl_isQty.calls (a0:Int) (r:Bool) (w:World) (H:impl_isQty.f a0=some r) :
  Calls Tryz.prog 156 #[.int .i64 a0] w fun e w'=>e=.returned (.bool r)∧Drawn0 w w':=by
 unfold impl_isQty.f at H;replace H:=bo H;obtain ⟨t3,A2,H⟩:=H;obtain rfl:=si H
 go_in
 go_wp2_with (first|((first|((with_reducible refine gate_callee (f:=105) rfl ?_);refine goesL_ (some 4) rfl rfl Tryz.func105 (by kernel_rfl) rfl #[.int .i64 a0,.int .i64 1,.int .i64 1000000] rfl (by (try simp only [List.map_toArray,List.map_cons,List.map_nil]);first|done|rfl|(simp only [List.length_drop,List.length_take];rfl)) ?_;(with_reducible refine (impl_within.calls a0 1 1000000 t3 _ A2.out).mono ?_);rintro e w' ⟨rfl,⟨nd,rfl⟩⟩;refine ⟨_,rfl,?_⟩)|(go_at_call 105;(with_reducible refine (impl_within.calls a0 1 1000000 t3 _ A2.out).mono ?_);rintro e w' ⟨rfl,⟨nd,rfl⟩⟩))))
 go_ret
 exact ⟨fg,dr⟩
theorem impl_LineRight.calls (k:Nat) (a0_0:ByteArray) (a0_1:ByteArray) (a0_2:Int) (a0_3:ByteArray) (a0_4:Int) (a0_5:Int) (a0_6:Int) (a0_7:Int) (r:Bool) (w:World) (H:impl_LineRight.f k a0_0 a0_1 a0_2 a0_3 a0_4 a0_5 a0_6 a0_7=some r) :
  Calls Tryz.prog 147 #[.agg #[.string a0_0,.string a0_1,.int .i64 a0_2,.string a0_3,.int .i64 a0_4,.int .i64 a0_5,.int .i64 a0_6,.int .i64 a0_7]] w fun e w'=>e=.returned (.bool r)∧Below w.heap.size w w':=by
 have hu161:=Tryz.underlying161;have HB:=am (Below.refl w.heap.size w);unfold impl_LineRight.f at H;replace H:=bo H;obtain ⟨t14,A2,H⟩:=H
 go_in
 try go_wp2_with (first|((with_reducible refine gate_dst (N:=1) rfl ?_);refine bz 1 (cs:=#[.string a0_0,.string a0_1,.int .i64 a0_2,.string a0_3,.int .i64 a0_4,.int .i64 a0_5,.int .i64 a0_6,.int .i64 a0_7]) (t:=161) HB ?_;clear HB;intro gb11 hg w3 BK11 GW11 hb HB;clear hb hg;have hcz4:=cf8 BK11))
 go_at_call 53;(with_reducible refine (impl_isName.calls k a0_0 t14 _ A2.out).mono ?_);rintro e w' ⟨rfl,⟨nd,rfl⟩⟩
 obtain rfl|rfl:=bt t14
 ·replace H:=itT H;replace H:=bo H;obtain ⟨t17,A6,H⟩:=H;have hcz7:=cf8 BK11
  try go_wp2_with (fail)
  go_at_call 53;(with_reducible refine (impl_isName.calls k a0_1 t17 _ A6.out).mono ?_);rintro e w' ⟨rfl,⟨nd,rfl⟩⟩
  obtain rfl|rfl:=bt t17
  ·replace H:=itT H;replace H:=bo H;obtain ⟨t20,A9,H⟩:=H;have hcz10:=cf8 BK11
   try go_wp2_with (fail)
   go_at_call 53;(with_reducible refine (impl_isName.calls k a0_3 t20 _ A9.out).mono ?_);rintro e w' ⟨rfl,⟨nd,rfl⟩⟩
   obtain rfl|rfl:=bt t20
   ·replace H:=itT H;replace H:=bo H;obtain ⟨t23,A12,H⟩:=H;have hcz13:=cf8 BK11
    try go_wp2_with (fail)
    go_at_call 105;(with_reducible refine (impl_within.calls a0_2 1 999 t23 _ A12.out).mono ?_);rintro e w' ⟨rfl,⟨nd,rfl⟩⟩
    obtain rfl|rfl:=bt t23
    ·replace H:=itT H;replace H:=bo H;obtain ⟨t26,A15,H⟩:=H;have hcz16:=cf8 BK11
     try go_wp2_with (fail)
     go_at_call 156;(with_reducible refine (impl_isQty.calls a0_4 t26 _ A15.out).mono ?_);rintro e w' ⟨rfl,⟨nd,rfl⟩⟩
     obtain rfl|rfl:=bt t26
     ·replace H:=itT H;replace H:=bo H;obtain ⟨t27,A18,H⟩:=H;have hcz19:=cf8 BK11
      try go_wp2_with (fail)
      go_at_call 105;(with_reducible refine (impl_within.calls a0_5 0 a0_4 t27 _ A18.out).mono ?_);rintro e w' ⟨rfl,⟨nd,rfl⟩⟩
      obtain rfl|rfl:=bt t27
      ·replace H:=itT H;replace H:=bo H;obtain ⟨t28,A21,H⟩:=H;have hcz22:=cf8 BK11
       try go_wp2_with (fail)
       go_at_call 105;(with_reducible refine (impl_within.calls a0_6 0 a0_5 t28 _ A21.out).mono ?_);rintro e w' ⟨rfl,⟨nd,rfl⟩⟩
       obtain rfl|rfl:=bt t28
       ·replace H:=itT H;replace H:=bo H;obtain ⟨t29,A24,H⟩:=H;obtain rfl:=si H;have hcz25:=cf8 BK11
        go_wp2_with (first|(go_at_call 105;(with_reducible refine (impl_within.calls a0_7 0 (wrap64 (a0_4 - a0_5)) t29 _ A24.out).mono ?_);rintro e w' ⟨rfl,⟨nd,rfl⟩⟩))
        go_ret
        exact ⟨ff,bs HB⟩
       ·replace H:=itF H;obtain rfl:=si H
        go_wp2
        go_ret
        exact ⟨ff,bs HB⟩
      ·replace H:=itF H;obtain rfl:=si H
       go_wp2
       go_ret
       exact ⟨ff,bs HB⟩
     ·replace H:=itF H;obtain rfl:=si H
      go_wp2
      go_ret
      exact ⟨ff,bs HB⟩
    ·replace H:=itF H;obtain rfl:=si H
     go_wp2
     go_ret
     exact ⟨ff,bs HB⟩
   ·replace H:=itF H;obtain rfl:=si H
    go_wp2
    go_ret
    exact ⟨ff,bs HB⟩
  ·replace H:=itF H;obtain rfl:=si H
   go_wp2
   go_ret
   exact ⟨ff,bs HB⟩
 ·replace H:=itF H;obtain rfl:=si H
  go_wp2
  go_ret
  exact ⟨ff,bs HB⟩
theorem cmp_isNaN_int64.calls (a0:Int) (r:Bool) (w:World) (H:cmp_isNaN_int64.f a0=some r) :
  Calls Tryz.prog 157 #[.int .i64 a0] w fun e w'=>e=.returned (.bool r)∧Drawn0 w w':=by
 unfold cmp_isNaN_int64.f at H;obtain rfl:=si H
 go_in
 go_wp2
 go_ret
 exact ⟨fg,dr⟩
theorem cmp_Compare_int64.calls (a0:Int) (a1:Int) (r:Int) (w:World) (H:cmp_Compare_int64.f a0 a1=some r) :
  Calls Tryz.prog 149 #[.int .i64 a0,.int .i64 a1] w fun e w'=>e=.returned (.int .i64 r)∧Drawn0 w w':=by
 unfold cmp_Compare_int64.f at H;replace H:=bo H;obtain ⟨t6,A3,H⟩:=H
 go_in
 try go_wp2_with (fail)
 go_at_call 157;(with_reducible refine (cmp_isNaN_int64.calls a0 t6 _ A3.out).mono ?_);rintro e w' ⟨rfl,⟨nd,rfl⟩⟩;replace H:=bo H;obtain ⟨t5,A4,H⟩:=H
 try go_wp2_with (fail)
 go_at_call 157;(with_reducible refine (cmp_isNaN_int64.calls a1 t5 _ A4.out).mono ?_);rintro e w' ⟨rfl,⟨nd,rfl⟩⟩
 obtain rfl|rfl:=bt t6
 ·replace H:=itT H
  obtain rfl|rfl:=bt t5
  ·replace H:=itT H;obtain rfl:=si H
   go_wp2
   go_ret
   exact ⟨fg,dr⟩
  ·replace H:=itF H;obtain rfl:=si H
   go_wp2
   go_ret
   exact ⟨fg,dr⟩
 ·replace H:=itF H
  obtain rfl|rfl:=bt t5
  ·replace H:=itT H;obtain rfl:=si H
   go_wp2
   go_ret
   exact ⟨fg,dr⟩
  ·replace H:=itF H
   revert H;refine id2 ?_ ?_
   ·intro c8b0 H;obtain rfl:=si H
    go_wp2
    go_ret
    exact ⟨fg,dr⟩
   ·intro c8b0 H
    revert H;refine ip2 ?_ ?_
    ·intro c9 H;have c9b0:decide (a1<a0)=true:=decide_eq_true c9;clear c9;obtain rfl:=si H
     go_wp2
     go_ret
     exact ⟨fg,dr⟩
    ·intro c9 H;have c9b0:decide (a1<a0)=false:=decide_eq_false c9;clear c9;obtain rfl:=si H
     go_wp2
     go_ret
     exact ⟨fg,dr⟩
def impl_lineOrder.T1:Bool × List (List Nat × List Nat):=(true,[([],[]),([0],[0]),([],[]),([2],[2]),([1,3],[1,3]),([],[]),([5],[5]),([],[]),([7],[7]),([6,8,4],[6,8]),([],[]),([10],[10]),([],[]),([12],[12]),([11,13,9],[11,13]),([4,9,14],[4,9,14]),([15,14],[15]),([16,16,0,1,2,3,4,5,6,7,8,9,10,11,12,13,14,15,16],[16])])
def impl_lineOrder.B1:List Nat:=[0,1,0,4,15,0,32,0,128,511,0,1024,0,4096,16383,32767,65535,131071]
theorem impl_lineOrder.tab1:rtab .any (opsOf Tryz.f148 1)=impl_lineOrder.T1:=by kernel_rfl
theorem impl_lineOrder.bits1:waitsOk impl_lineOrder.T1.2 impl_lineOrder.B1=true:=by kernel_rfl
theorem impl_lineOrder.calls (k:Nat) (a0_0:ByteArray) (a0_1:ByteArray) (a0_2:Int) (a0_3:ByteArray) (a0_4:Int) (a0_5:Int) (a0_6:Int) (a0_7:Int) (a1_0:ByteArray) (a1_1:ByteArray) (a1_2:Int) (a1_3:ByteArray) (a1_4:Int) (a1_5:Int) (a1_6:Int) (a1_7:Int) (r:Int) (w:World) (H:impl_lineOrder.f k a0_0 a0_1 a0_2 a0_3 a0_4 a0_5 a0_6 a0_7 a1_0 a1_1 a1_2 a1_3 a1_4 a1_5 a1_6 a1_7=some r) :
  Calls Tryz.prog 148 #[.agg #[.string a0_0,.string a0_1,.int .i64 a0_2,.string a0_3,.int .i64 a0_4,.int .i64 a0_5,.int .i64 a0_6,.int .i64 a0_7],.agg #[.string a1_0,.string a1_1,.int .i64 a1_2,.string a1_3,.int .i64 a1_4,.int .i64 a1_5,.int .i64 a1_6,.int .i64 a1_7]] w fun e w'=>e=.returned (.int .i64 r)∧Below w.heap.size w w':=by
 have hu161:=Tryz.underlying161;have HB:=am (Below.refl w.heap.size w);unfold impl_lineOrder.f at H;replace H:=bo H;obtain ⟨t25,A3,H⟩:=H;replace H:=bo H;obtain ⟨t26,A4,H⟩:=H;replace H:=bo H;obtain ⟨t27,A5,H⟩:=H;obtain ⟨y24,hy24⟩:∃ y_:List Int,y_=(([t25,t26,t27]:List Int)):=⟨_,rfl⟩
 replace H:((cmp_Or_int.f k y24).bind fun t28=>(some t28))=some r:=ye hy24 H
 have Ny24:=am hy24;clear hy24;replace H:=bo H;obtain ⟨t28,A6,H⟩:=H;obtain rfl:=si H
 go_in
 try go_wp2_with (first|((with_reducible refine gate_dst (N:=2) rfl ?_);refine bz 2 (cs:=#[.string a0_0,.string a0_1,.int .i64 a0_2,.string a0_3,.int .i64 a0_4,.int .i64 a0_5,.int .i64 a0_6,.int .i64 a0_7]) (t:=161) HB ?_;clear HB;intro gb22 hg w7 BK22 GW22 hb HB;clear hb hg)|((with_reducible refine gate_dst (N:=3) rfl ?_);refine bz 3 (cs:=#[.string a1_0,.string a1_1,.int .i64 a1_2,.string a1_3,.int .i64 a1_4,.int .i64 a1_5,.int .i64 a1_6,.int .i64 a1_7]) (t:=161) HB ?_;clear HB;intro gb23 hg w8 BK23 GW23 hb HB;have NB22_23:=na hg BK22;have NB23_22:=nc hg BK22;replace BK22:=bb BK22 hb;clear hb hg))
 replace BK22:=am (blk_drew BK22.out);replace BK23:=am (blk_drew BK23.out);replace HB:=am (below_drew1 HB.out);refine sta 18 (hb8a BK22 (hb8 BK23)) (fun hHeld=>?_);refine with_tabW impl_lineOrder.tab1 impl_lineOrder.bits1 (fun HT_ HW_=>?_)
 generalize w8.drew=w9 at BK22 BK23 HB hHeld ⊢
 refine pz1 0 ?_;refine pz1 2 ?_;refine pz1 5 ?_;refine pz1 7 ?_;refine pz1 10 ?_;refine pz1 12 ?_;refine ta 1 ?_;refine ta 3 ?_;refine ta 6 ?_;refine ta 8 ?_;refine ta 11 ?_;refine ta 13 ?_;refine oA 4 9 HT_ (fun K hK=>?_);refine gA Tryz.func145 #[.string a0_0,.string a1_0] ?_;(with_reducible refine (cmp_Compare_string.calls a0_0 a1_0 t25 _ A3.out).mono ?_);rintro e w' ⟨rfl,⟨nd,rfl⟩⟩;refine ⟨_,rfl,?_⟩;refine hK.out _ _ (hb8a BK22 (hb8 BK23)).out (fun hHeld=>?_);clear hK K;refine nA 9 ?_;refine oA 9 14 HT_ (fun K hK=>?_);refine gA Tryz.func145 #[.string a0_1,.string a1_1] ?_;(with_reducible refine (cmp_Compare_string.calls a0_1 a1_1 t26 _ A4.out).mono ?_);rintro e w' ⟨rfl,⟨nd,rfl⟩⟩;refine ⟨_,rfl,?_⟩;refine hK.out _ _ (hb8a BK22 (hb8 BK23)).out (fun hHeld=>?_);clear hK K;refine nA 14 ?_;refine oA 14 19 HT_ (fun K hK=>?_);refine gA Tryz.func149 #[.int .i64 a0_2,.int .i64 a1_2] ?_;(with_reducible refine (cmp_Compare_int64.calls a0_2 a1_2 t27 _ A5.out).mono ?_);rintro e w' ⟨rfl,⟨nd,rfl⟩⟩;refine ⟨_,rfl,?_⟩;refine hK.out _ _ (hb8a BK22 (hb8 BK23)).out (fun hHeld=>?_);clear hK K;refine nA 19 ?_;refine oA 15 20 HT_ (fun K hK=>?_);refine Kd.R_lit_step (Kd.int .i64) _ 3 ?hg (N:=20) ?hd (xs:=([t25,t26,t27]:List Int)) (inner:=[.int .i64 t25,.int .i64 t26,.int .i64 t27]) (ok:=fun _=>True) (okp:=fun _=>True) ?hr ?hp (fun _ hk=>hk) trivial (Below.refl _ _) (Nat.le_refl _) (by simp) ?_;(case hd=>rfl);(case hg=>rfl);(case hr=>first|(go_simp;done)|(go_simp;rfl));(case hp=>exact (Reps.one (show Kd.M (Kd.int .i64) _ _ _ t25 [.int .i64 t25] from rfl) (Reps.one (show Kd.M (Kd.int .i64) _ _ _ t26 [.int .i64 t26] from rfl) (Reps.one (show Kd.M (Kd.int .i64) _ _ _ t27 [.int .i64 t27] from rfl) (Reps.none _ _)))));intro v30 w10 ho11 hb hg_ hnew_;clear hg_ hnew_
 (first|rw [← Ny24.out] at ho11|(simp only [Int.reduceToNat] at ho11;rw [← Ny24.out] at ho11))
 have HO29:=am (Kd.R_lower ho11 (below_size (bs HB)));replace BK22:=bb BK22 hb;replace BK23:=bb BK23 hb;replace HB:=bq HB hb;clear hb ho11;obtain ⟨Ao12,co12,eo12⟩:=Kd.R_slice HO29.out
 (first|subst eo12|(injection eo12 with f1_ f2_ f3_;have f4_:=f1_.symm;have f5_:=f3_.symm;clear f1_ f2_ f3_;subst f4_;subst f5_))
 refine hK.out _ _ (hb8a BK22 (hb8 BK23)).out (fun hHeld=>?_);clear hK K;refine nA 20 ?_;refine oA 16 21 HT_ (fun K hK=>?_);refine gA Tryz.func144 #[.slice Ao12 y24.length co12] ?_;(with_reducible refine (cmp_Or_int.calls k _ _ y24 t28 _ ?side1 ?side2 A6.out).mono ?_)
 (case side1=>exact sd (Kd.R_reads' HO29.out).2.2)
 (case side2=>exact (Kd.R_reads' HO29.out).2.1)
 rintro e w' ⟨rfl,⟨nd,rfl⟩⟩;refine ⟨_,rfl,?_⟩;refine hK.out _ _ (hb8a BK22 (hb8 BK23)).out (fun hHeld=>?_);clear hK K;refine nA 21 ?_;refine pz1 17 ?_;refine done_ (done_of HT_.out (by kernel_rfl)) ?_
 try go_wp2
 go_ret
 exact ⟨ff,bs HB⟩
end Go.Proofs.YtomoflpgdbjojaaGreat.QO
