-- Merged by a program of this session (wip/tool/pack.py) out of its own texts for this claim.
import Derived.Test.YtogkcllenfkdmaaGreatDoorKFnExactPaperRight0
import Derived.Test.YtogkcllenfkdmaaGreatDoorKFnExactPaperRight1
import Derived.Test.YtogkcllenfkdmaaGreatDoorKFnExactPaperRight2
import Derived.Test.YtogkcllenfkdmaaGreatDoorKFnExactPaperRight3
import Derived.Test.YtogkcllenfkdmaaGreatDoorKFnExactPaperRight5
import Derived.Test.YtogkcllenfkdmaaGreatDoorKFnExactPaperRight11
import Derived.Test.YtogkcllenfkdmaaGreatDoorKFnExactPaperRight12
import Derived.Test.YtogkcllenfkdmaaGreatDoorKFnExactPaperRight14
import Derived.Test.YtogkcllenfkdmaaGreatDoorKFnExactPaperRight15
import Derived.Test.YtogkcllenfkdmaaGreatDoorKFnExactPaperRight16
import Derived.Test.YtogkcllenfkdmaaGreatDoorKFnExactPaperRight17
namespace Go.Proofs.YtogkcllenfkdmaaGreatDoor.QR
open Go.RowKit Go.Proofs.YtogkcllenfkdmaaGreatDoorW.PrintWords Go.Proofs.YtogkcllenfkdmaaGreatDoorW.PrintLast Go.Proofs.YtogkcllenfkdmaaGreatDoorW.PrintMore
attribute [local go_sem] max2_int min2_int max_two min_two max_three min_three max_four min_four   -- for this text's walks alone
set_option linter.unusedVariables false
set_option linter.unusedSimpArgs false
def impl_PaperRight.T4:Bool × List (List Nat × List Nat):=(true,[([],[]),([0],[0]),([],[]),([1,2],[1,2]),([3],[3]),([4],[4]),([5,3],[5]),([6],[6]),([7,6],[6,7]),([6],[6]),([8,9,6,6],[6,8,9]),([6],[6]),([10,11,10,6],[6,10,11]),([6,12],[6,12]),([13,12],[13]),([14],[14]),([15,14,14],[14,15]),([16,14],[14,16]),([14,17],[14,17]),([18,16,0,1,2,3,4,5,6,7,8,9,10,11,12,13,14,15,16,17,18],[18])])
def impl_PaperRight.B4:List Nat:=[0,1,0,7,15,31,63,127,255,127,1023,127,4095,8191,16383,32767,65535,131071,262143,524287]
theorem impl_PaperRight.tab4:rtab .any (opsOf Tryz.f11 4)=impl_PaperRight.T4:=by kernel_rfl
theorem impl_PaperRight.bits4:waitsOk impl_PaperRight.T4.2 impl_PaperRight.B4=true:=by kernel_rfl
set_option maxHeartbeats 8000000 in
set_option maxRecDepth 100000 in
theorem impl_PaperRight.calls (k:Nat) (a0_0:Int) (a0_1:ByteArray) (a0_2:ByteArray) (a0_3:Int) (A0_4:Option Addr) (c0_4:Nat) (l0_4:List ByteArray) (A0_5:Option Addr) (c0_5:Nat) (l0_5:List (S71)) (r:Bool) (w:World) (hr0_4:Kd.C Kd.string w A0_4 l0_4.length l0_4) (hc0_4:l0_4.length≤c0_4) (hr0_5:Kd.C k71 w A0_5 l0_5.length l0_5) (hc0_5:l0_5.length≤c0_5) (hTC:TbC w) (hTF:TbF w) (hTP:TbP w) (H:impl_PaperRight.f k a0_0 a0_1 a0_2 a0_3 l0_4 l0_5=some r) :
  Calls Tryz.prog 11 #[.agg #[.int .i64 a0_0,.string a0_1,.string a0_2,.int .i64 a0_3,.slice A0_4 l0_4.length c0_4,.slice A0_5 l0_5.length c0_5]] w fun e w'=>e=.returned (.bool r)∧Below w.heap.size w w':=by
 have HTC:=am hTC;clear hTC;have HTF:=am hTF;clear hTF;have HTP:=am hTP;clear hTP
 have hu30:=Tryz.underlying30
 have hfd52_2:∀ (v0 v1 v2:Value) (W:World),(Instr.field 52 (.agg #[v0,v1,v2]) 2).run Tryz.prog W=.ok v2 W:=fun _ _ _ _=>by kernel_rfl
 have HR0_4:=am hr0_4;have HC0_4:=am hc0_4;clear hr0_4 hc0_4;have HR0_5:=am hr0_5;have HC0_5:=am hc0_5;clear hr0_5 hc0_5;have HB:=am (Below.refl w.heap.size w);unfold impl_PaperRight.f at H;have HC2:=am H;clear H
 go_in
 go_upto_region 1 with (first|((with_reducible refine gate_dst (N:=1) rfl ?_);(try (refine gate_guard (by rfl) ?_;dsimp only));refine bx 1 (cs:=#[.int .i64 a0_0,.string a0_1,.string a0_2,.int .i64 a0_3,.slice A0_4 l0_4.length c0_4,.slice A0_5 l0_5.length c0_5]) (t:=30) ?_;intro gb678 hg w3 hbox hb;have BK678:=am (hbox);have GW678:=am ((gs hg (bs HB)));have GE678:=am ((gs hg (bs HB)));replace HB:=am (below_step (bs HB) hb);clear hb hbox hg))
 (try simp only [Act.put,List.setIfInBounds_toArray,List.set_cons_zero,List.set_cons_succ])
 go_cut [19] (fun v19 wc=>∃ (kq:Nat) (x19_1:Bool),v19=.bool x19_1∧Aside0 (impl_PaperRight.j0 kq x19_1 a0_0 a0_1 a0_2 a0_3 l0_4 l0_5=some r)∧Aside0 (kq≤k)∧Aside0 (wc.heap[gb678]? = some (.cells #[.int .i64 a0_0,.string a0_1,.string a0_2,.int .i64 a0_3,(.slice A0_4 l0_4.length c0_4),(.slice A0_5 l0_5.length c0_5)] 30 (0,0)))∧Aside0 (Below w.heap.size w wc))
 case first =>
  have H:=HC2.out;clear HC2;replace H:=bo H;obtain ⟨t679,A4,H⟩:=H;have hcz5:=cf6 BK678
  try go_wp2_with (fail)
  go_at_call 40;(with_reducible refine (impl_within.calls a0_0 1 7 t679 _ A4.out).mono ?_);rintro e w' ⟨rfl,⟨nd,rfl⟩⟩
  obtain rfl|rfl:=bt t679
  ·replace H:=itT H
   revert H;refine ip2 ?_ ?_
   ·intro c7 H;have c7b0:decide (2<(l0_4.length:Int))=true:=decide_eq_true c7;have c7b1:decide (2<l0_4.length)=true:=decide_eq_true (by omega);clear c7
    (first|rw [c7b0]|(simp only [i64_w,i32_w];rw [c7b0])|rw [c7b1]|skip)
    have H':=am H;clear H;have hcz8:=cf6 BK678
    go_wp2
    go_meet
    case rel=>exact ⟨_,(true),fg,H',⟨fl⟩,⟨ks BK678⟩,⟨bs HB⟩⟩
   ·intro c7 H;have c7b0:decide (2<(l0_4.length:Int))=false:=decide_eq_false c7;have c7b1:decide (2<l0_4.length)=false:=decide_eq_false (by omega);clear c7
    (first|rw [c7b0]|(simp only [i64_w,i32_w];rw [c7b0])|rw [c7b1]|skip)
    have H':=am H;clear H;have hcz9:=cf6 BK678
    go_wp2
    go_meet
    case rel=>exact ⟨_,(decide ((l0_5.length:Int)>20)),fg,H',⟨fl⟩,⟨ks BK678⟩,⟨bs HB⟩⟩
  ·replace H:=itF H;have H':=am H;clear H
   go_wp2
   go_meet
   case rel=>exact ⟨_,(true),fg,H',⟨fl⟩,⟨ks BK678⟩,⟨bs HB⟩⟩
 case rest =>
  clear HC2
  obtain ⟨kq,x19_1,rfl,HA,HJ1,BK678,HB⟩:=hcut
  cases kq with
  | zero=>exact absurd HA.out (by simp [impl_PaperRight.j0])
  | succ kj1 =>
   have H:=HA.out;clear HA;simp only [impl_PaperRight.j0] at H
   obtain rfl|rfl:=bt x19_1
   ·replace H:=itT H;obtain rfl:=si H
    go_wp2
    go_ret
    exact ⟨ff,bs HB⟩
   ·replace H:=itF H;replace H:=bo H;obtain ⟨t680,A11,H⟩:=H;have hcz12:=cf6 BK678
    try go_wp2_with (fail)
    go_at_call 41;(with_reducible refine (impl_bodyOf.calls kj1 a0_0 a0_1 a0_2 a0_3 _ _ l0_4 _ _ l0_5 t680 _ (Kd.C_below HR0_4.out (bs HB)) HC0_4.out (Kd.C_below HR0_5.out (bs HB)) HC0_5.out (tbF HTF (bs HB)) A11.out).mono ?_);rintro e w13 ⟨v681,rfl,ho0,hb⟩;have HO682:=am (Kd.N_lower (Kd.N_mono (ok':=fun k_=>k_≠gb678) ho0 (fun k_ hk_=>(Kd.freshB (g:=gb678) (o:=.cells #[.int .i64 a0_0,.string a0_1,.string a0_2,.int .i64 a0_3,.slice A0_4 l0_4.length c0_4,.slice A0_5 l0_5.length c0_5] 30 (0,0)) (ks BK678) k_ hk_))) (below_size (bs HB)));replace BK678:=am (blk_below (ks BK678) hb);replace HB:=am (below_step (bs HB) hb);(try clear hb);(try clear hb2);(try clear hk);(try clear hi);(try clear ho0);replace H:=bo H;obtain ⟨⟨t683,t684,t685⟩,A14,H⟩:=H;(try dsimp only at H)
    revert H;refine ie2 ?_ ?_
    ·intro c15b0 c15b1 H;replace H:=bo H;obtain ⟨⟨t686,t687,t688,t689,t690,t693⟩,A16,H⟩:=H;(try dsimp only at H);replace H:=bo H;obtain ⟨t696,A17,H⟩:=H
     obtain rfl|rfl:=bt t696
     ·replace H:=itT H;replace H:=bo H;obtain ⟨t697,A19,H⟩:=H;obtain rfl:=si H
      try go_wp2
      replace HO682:=am (Kd.N_drew HO682.out);replace BK678:=am (blk_drew BK678.out);replace HB:=am (below_drew1 HB.out);obtain ⟨Ao21,co21,eo21⟩:=Kd.N_slice HO682.out
      (first|subst eo21|(injection eo21 with f1_ f2_ f3_;have f4_:=f1_.symm;have f5_:=f3_.symm;clear f1_ f2_ f3_;subst f4_;subst f5_))
      refine sta 20 (hb6 BK678) (fun hHeld=>?_);refine with_tabW impl_PaperRight.tab4 impl_PaperRight.bits4 (fun HT_ HW_=>?_)
      generalize w13.drew=w20 at HO682 BK678 HB hHeld ⊢
      refine pA 0 22 HT_ ?_;refine pA 2 24 HT_ ?_;refine tA 1 23 HT_ HW_ hHeld ?_;refine oA 3 25 HT_ (fun K hK=>?_);refine gA Tryz.func31 #[.int .i64 a0_0,.slice Ao21 t680.length co21] ?_;(with_reducible refine (impl_TableCheck.calls kj1 a0_0 _ _ t680 t683 t684 t685 _ ?side1 ?side2 (tbC HTC (bs HB)) (tbP HTP (bs HB)) A14.out).mono ?_)
      (case side1=>repeat (first|exact (Kd.N_reads' HO682.out).2.2|(with_reducible refine Kd.C_alloc ?_ _)|(with_reducible refine Kd.C_drewN ?_ _)|(with_reducible refine Kd.C_drew ?_)))
      (case side2=>exact (Kd.N_reads' HO682.out).2.1)
      rintro e w22 ⟨rfl,hb⟩;refine ⟨_,rfl,?_⟩;have n0_:=am (Kd.N_below (by (with_reducible repeat (first|apply Kd.N_alloc|apply Kd.N_drewN|apply Kd.N_drew));exact HO682.out) hb);have n1_:=am (blk_below (ks BK678) hb);have n2_:=am (below_step (bs HB) hb);clear HO682;clear BK678;clear HB;have HO682:=n0_;have BK678:=n1_;have HB:=n2_;clear n0_ n1_ n2_;(try clear hb);(try clear hb2);(try clear hk);(try clear hi);refine hK.out _ _ (hb6 BK678).out (fun hHeld=>?_);clear hK K;refine nA 25 ?_;refine pA 4 26 HT_ ?_;refine pA 5 27 HT_ ?_;refine pA 6 28 HT_ ?_;refine pA 7 29 HT_ ?_;refine pA 9 31 HT_ ?_;refine tA 8 30 HT_ HW_ hHeld ?_;refine tA 11 33 HT_ HW_ hHeld ?_;refine oA 10 32 HT_ (fun K hK=>?_);refine gA Tryz.func43 #[.int .i64 a0_0,.slice Ao21 t680.length co21] ?_;(with_reducible refine (impl_paperOf.calls kj1 a0_0 _ _ t680 t686 t687 t688 t689 t690 t693 _ ?side1 ?side2 (tbP HTP (bs HB)) A16.out).mono ?_)
      (case side1=>repeat (first|exact (Kd.N_reads' HO682.out).2.2|(with_reducible refine Kd.C_alloc ?_ _)|(with_reducible refine Kd.C_drewN ?_ _)|(with_reducible refine Kd.C_drew ?_)))
      (case side2=>exact (Kd.N_reads' HO682.out).2.1)
      rintro e w23 ⟨v691,v694,rfl,ho0,ho1,hb⟩;refine ⟨_,rfl,?_⟩;have n0_:=am (Kd.N_mono (Kd.N_told (Kd.N_told (Kd.N_old (by (with_reducible repeat (first|apply Kd.N_alloc|apply Kd.N_drewN|apply Kd.N_drew));exact HO682.out) hb) (Kd.R_base ho0)) (Kd.R_base ho1)) (fun _ h_=>h_.1));have n1_:=am (Kd.R_lower ho0 (below_size (bs HB)));have n2_:=am (Kd.R_lower ho1 (below_size (bs HB)));have n3_:=am (blk_below (ks BK678) hb);have n4_:=am (below_step (bs HB) hb);clear HO682;clear BK678;clear HB;have HO682:=n0_;have HO692:=n1_;have HO695:=n2_;have BK678:=n3_;have HB:=n4_;clear n0_ n1_ n2_ n3_ n4_;(try clear hb);(try clear hb2);(try clear hk);(try clear hi);(try clear ho0);(try clear ho1);obtain ⟨Ao24,co24,eo24⟩:=Kd.R_slice HO692.out
      (first|subst eo24|(injection eo24 with f1_ f2_ f3_;have f4_:=f1_.symm;have f5_:=f3_.symm;clear f1_ f2_ f3_;subst f4_;subst f5_))
      obtain ⟨Ao25,co25,eo25⟩:=Kd.R_slice HO695.out
      (first|subst eo25|(injection eo25 with f1_ f2_ f3_;have f4_:=f1_.symm;have f5_:=f3_.symm;clear f1_ f2_ f3_;subst f4_;subst f5_))
      refine hK.out _ _ (hb6 BK678).out (fun hHeld=>?_);clear hK K;refine nA 32 ?_;refine oA 12 34 HT_ (fun K hK=>?_);refine gA Tryz.func42 #[.agg #[.int .i64 t686,.string t687,.string t688,.int .i64 t689,.slice Ao24 t690.length co24,.slice Ao25 t693.length co25],.agg #[.int .i64 a0_0,.string a0_1,.string a0_2,.int .i64 a0_3,.slice A0_4 l0_4.length c0_4,.slice A0_5 l0_5.length c0_5]] ?_;(with_reducible refine (impl_same.calls kj1 t686 t687 t688 t689 _ _ t690 _ _ t693 a0_0 a0_1 a0_2 a0_3 _ _ l0_4 _ _ l0_5 true _ ?side1 ?side2 ?side3 ?side4 ?side5 ?side6 ?side7 ?side8 A17.out).mono ?_)
      (case side1=>repeat (first|exact (Kd.R_reads' HO692.out).2.2|(with_reducible refine Kd.C_alloc ?_ _)|(with_reducible refine Kd.C_drewN ?_ _)|(with_reducible refine Kd.C_drew ?_)))
      (case side2=>exact (Kd.R_reads' HO692.out).2.1)
      (case side3=>repeat (first|exact (Kd.R_reads' HO695.out).2.2|(with_reducible refine Kd.C_alloc ?_ _)|(with_reducible refine Kd.C_drewN ?_ _)|(with_reducible refine Kd.C_drew ?_)))
      (case side4=>exact (Kd.R_reads' HO695.out).2.1)
      (case side5=>repeat (first|exact (Kd.C_below HR0_4.out HB.out)|(with_reducible refine Kd.C_alloc ?_ _)|(with_reducible refine Kd.C_drewN ?_ _)|(with_reducible refine Kd.C_drew ?_)))
      (case side6=>exact HC0_4.out)
      (case side7=>repeat (first|exact (Kd.C_below HR0_5.out HB.out)|(with_reducible refine Kd.C_alloc ?_ _)|(with_reducible refine Kd.C_drewN ?_ _)|(with_reducible refine Kd.C_drew ?_)))
      (case side8=>exact HC0_5.out)
      rintro e w26 ⟨rfl,hb⟩;refine ⟨_,rfl,?_⟩;have n0_:=am (Kd.N_below (by (with_reducible repeat (first|apply Kd.N_alloc|apply Kd.N_drewN|apply Kd.N_drew));exact HO682.out) hb);have n1_:=am (Kd.R_below (rs HO692) hb);have n2_:=am (Kd.R_below (rs HO695) hb);have n3_:=am (blk_below (ks BK678) hb);have n4_:=am (below_step (bs HB) hb);clear HO682;clear HO692;clear HO695;clear BK678;clear HB;have HO682:=n0_;have HO692:=n1_;have HO695:=n2_;have BK678:=n3_;have HB:=n4_;clear n0_ n1_ n2_ n3_ n4_;(try clear hb);(try clear hb2);(try clear hk);(try clear hi);refine hK.out _ _ (hb6 BK678).out (fun hHeld=>?_);clear hK K;refine nA 34 ?_;refine pA 13 35 HT_ ?_;refine pA 14 36 HT_ ?_;refine tA 15 37 HT_ HW_ hHeld ?_;refine oA 16 38 HT_ (fun K hK=>?_);refine gA Tryz.func44 #[.agg #[.int .i64 a0_0,.string a0_1,.string a0_2,.int .i64 a0_3,.slice A0_4 l0_4.length c0_4,.slice A0_5 l0_5.length c0_5]] ?_;(with_reducible refine (impl_wrongLine.calls kj1 a0_0 a0_1 a0_2 a0_3 _ _ l0_4 _ _ l0_5 t697 _ ?side1 ?side2 ?side3 ?side4 A19.out).mono ?_)
      (case side1=>repeat (first|exact (Kd.C_below HR0_4.out HB.out)|(with_reducible refine Kd.C_alloc ?_ _)|(with_reducible refine Kd.C_drewN ?_ _)|(with_reducible refine Kd.C_drew ?_)))
      (case side2=>exact HC0_4.out)
      (case side3=>repeat (first|exact (Kd.C_below HR0_5.out HB.out)|(with_reducible refine Kd.C_alloc ?_ _)|(with_reducible refine Kd.C_drewN ?_ _)|(with_reducible refine Kd.C_drew ?_)))
      (case side4=>exact HC0_5.out)
      rintro e w27 ⟨rfl,hb⟩;refine ⟨_,rfl,?_⟩;have n0_:=am (Kd.N_below (by (with_reducible repeat (first|apply Kd.N_alloc|apply Kd.N_drewN|apply Kd.N_drew));exact HO682.out) hb);have n1_:=am (Kd.R_below (rs HO692) hb);have n2_:=am (Kd.R_below (rs HO695) hb);have n3_:=am (blk_below (ks BK678) hb);have n4_:=am (below_step (bs HB) hb);clear HO682;clear HO692;clear HO695;clear BK678;clear HB;have HO682:=n0_;have HO692:=n1_;have HO695:=n2_;have BK678:=n3_;have HB:=n4_;clear n0_ n1_ n2_ n3_ n4_;(try clear hb);(try clear hb2);(try clear hk);(try clear hi);refine hK.out _ _ (hb6 BK678).out (fun hHeld=>?_);clear hK K;refine nA 38 ?_;refine pA 17 39 HT_ ?_;refine pA 18 40 HT_ ?_;refine pA 19 2 HT_ ?_;refine done_ (done_of HT_.out (by kernel_rfl)) ?_
      try go_wp2
      go_ret
      exact ⟨ff,bs HB⟩
     ·replace H:=itF H;obtain rfl:=si H
      try go_wp2
      replace HO682:=am (Kd.N_drew HO682.out);replace BK678:=am (blk_drew BK678.out);replace HB:=am (below_drew1 HB.out);obtain ⟨Ao29,co29,eo29⟩:=Kd.N_slice HO682.out
      (first|subst eo29|(injection eo29 with f1_ f2_ f3_;have f4_:=f1_.symm;have f5_:=f3_.symm;clear f1_ f2_ f3_;subst f4_;subst f5_))
      refine sta 20 (hb6 BK678) (fun hHeld=>?_);refine with_tabW impl_PaperRight.tab4 impl_PaperRight.bits4 (fun HT_ HW_=>?_)
      generalize w13.drew=w28 at HO682 BK678 HB hHeld ⊢
      refine pA 0 22 HT_ ?_;refine pA 2 24 HT_ ?_;refine tA 1 23 HT_ HW_ hHeld ?_;refine oA 3 25 HT_ (fun K hK=>?_);refine gA Tryz.func31 #[.int .i64 a0_0,.slice Ao29 t680.length co29] ?_;(with_reducible refine (impl_TableCheck.calls kj1 a0_0 _ _ t680 t683 t684 t685 _ ?side1 ?side2 (tbC HTC (bs HB)) (tbP HTP (bs HB)) A14.out).mono ?_)
      (case side1=>repeat (first|exact (Kd.N_reads' HO682.out).2.2|(with_reducible refine Kd.C_alloc ?_ _)|(with_reducible refine Kd.C_drewN ?_ _)|(with_reducible refine Kd.C_drew ?_)))
      (case side2=>exact (Kd.N_reads' HO682.out).2.1)
      rintro e w30 ⟨rfl,hb⟩;refine ⟨_,rfl,?_⟩;have n0_:=am (Kd.N_below (by (with_reducible repeat (first|apply Kd.N_alloc|apply Kd.N_drewN|apply Kd.N_drew));exact HO682.out) hb);have n1_:=am (blk_below (ks BK678) hb);have n2_:=am (below_step (bs HB) hb);clear HO682;clear BK678;clear HB;have HO682:=n0_;have BK678:=n1_;have HB:=n2_;clear n0_ n1_ n2_;(try clear hb);(try clear hb2);(try clear hk);(try clear hi);refine hK.out _ _ (hb6 BK678).out (fun hHeld=>?_);clear hK K;refine nA 25 ?_;refine pA 4 26 HT_ ?_;refine pA 5 27 HT_ ?_;refine pA 6 28 HT_ ?_;refine pA 7 29 HT_ ?_;refine pA 9 31 HT_ ?_;refine tA 8 30 HT_ HW_ hHeld ?_;refine tA 11 33 HT_ HW_ hHeld ?_;refine oA 10 32 HT_ (fun K hK=>?_);refine gA Tryz.func43 #[.int .i64 a0_0,.slice Ao29 t680.length co29] ?_;(with_reducible refine (impl_paperOf.calls kj1 a0_0 _ _ t680 t686 t687 t688 t689 t690 t693 _ ?side1 ?side2 (tbP HTP (bs HB)) A16.out).mono ?_)
      (case side1=>repeat (first|exact (Kd.N_reads' HO682.out).2.2|(with_reducible refine Kd.C_alloc ?_ _)|(with_reducible refine Kd.C_drewN ?_ _)|(with_reducible refine Kd.C_drew ?_)))
      (case side2=>exact (Kd.N_reads' HO682.out).2.1)
      rintro e w31 ⟨v691,v694,rfl,ho0,ho1,hb⟩;refine ⟨_,rfl,?_⟩;have n0_:=am (Kd.N_mono (Kd.N_told (Kd.N_told (Kd.N_old (by (with_reducible repeat (first|apply Kd.N_alloc|apply Kd.N_drewN|apply Kd.N_drew));exact HO682.out) hb) (Kd.R_base ho0)) (Kd.R_base ho1)) (fun _ h_=>h_.1));have n1_:=am (Kd.R_lower ho0 (below_size (bs HB)));have n2_:=am (Kd.R_lower ho1 (below_size (bs HB)));have n3_:=am (blk_below (ks BK678) hb);have n4_:=am (below_step (bs HB) hb);clear HO682;clear BK678;clear HB;have HO682:=n0_;have HO692:=n1_;have HO695:=n2_;have BK678:=n3_;have HB:=n4_;clear n0_ n1_ n2_ n3_ n4_;(try clear hb);(try clear hb2);(try clear hk);(try clear hi);(try clear ho0);(try clear ho1);obtain ⟨Ao32,co32,eo32⟩:=Kd.R_slice HO692.out
      (first|subst eo32|(injection eo32 with f1_ f2_ f3_;have f4_:=f1_.symm;have f5_:=f3_.symm;clear f1_ f2_ f3_;subst f4_;subst f5_))
      obtain ⟨Ao33,co33,eo33⟩:=Kd.R_slice HO695.out
      (first|subst eo33|(injection eo33 with f1_ f2_ f3_;have f4_:=f1_.symm;have f5_:=f3_.symm;clear f1_ f2_ f3_;subst f4_;subst f5_))
      refine hK.out _ _ (hb6 BK678).out (fun hHeld=>?_);clear hK K;refine nA 32 ?_;refine oA 12 34 HT_ (fun K hK=>?_);refine gA Tryz.func42 #[.agg #[.int .i64 t686,.string t687,.string t688,.int .i64 t689,.slice Ao32 t690.length co32,.slice Ao33 t693.length co33],.agg #[.int .i64 a0_0,.string a0_1,.string a0_2,.int .i64 a0_3,.slice A0_4 l0_4.length c0_4,.slice A0_5 l0_5.length c0_5]] ?_;(with_reducible refine (impl_same.calls kj1 t686 t687 t688 t689 _ _ t690 _ _ t693 a0_0 a0_1 a0_2 a0_3 _ _ l0_4 _ _ l0_5 false _ ?side1 ?side2 ?side3 ?side4 ?side5 ?side6 ?side7 ?side8 A17.out).mono ?_)
      (case side1=>repeat (first|exact (Kd.R_reads' HO692.out).2.2|(with_reducible refine Kd.C_alloc ?_ _)|(with_reducible refine Kd.C_drewN ?_ _)|(with_reducible refine Kd.C_drew ?_)))
      (case side2=>exact (Kd.R_reads' HO692.out).2.1)
      (case side3=>repeat (first|exact (Kd.R_reads' HO695.out).2.2|(with_reducible refine Kd.C_alloc ?_ _)|(with_reducible refine Kd.C_drewN ?_ _)|(with_reducible refine Kd.C_drew ?_)))
      (case side4=>exact (Kd.R_reads' HO695.out).2.1)
      (case side5=>repeat (first|exact (Kd.C_below HR0_4.out HB.out)|(with_reducible refine Kd.C_alloc ?_ _)|(with_reducible refine Kd.C_drewN ?_ _)|(with_reducible refine Kd.C_drew ?_)))
      (case side6=>exact HC0_4.out)
      (case side7=>repeat (first|exact (Kd.C_below HR0_5.out HB.out)|(with_reducible refine Kd.C_alloc ?_ _)|(with_reducible refine Kd.C_drewN ?_ _)|(with_reducible refine Kd.C_drew ?_)))
      (case side8=>exact HC0_5.out)
      rintro e w34 ⟨rfl,hb⟩;refine ⟨_,rfl,?_⟩;have n0_:=am (Kd.N_below (by (with_reducible repeat (first|apply Kd.N_alloc|apply Kd.N_drewN|apply Kd.N_drew));exact HO682.out) hb);have n1_:=am (Kd.R_below (rs HO692) hb);have n2_:=am (Kd.R_below (rs HO695) hb);have n3_:=am (blk_below (ks BK678) hb);have n4_:=am (below_step (bs HB) hb);clear HO682;clear HO692;clear HO695;clear BK678;clear HB;have HO682:=n0_;have HO692:=n1_;have HO695:=n2_;have BK678:=n3_;have HB:=n4_;clear n0_ n1_ n2_ n3_ n4_;(try clear hb);(try clear hb2);(try clear hk);(try clear hi);refine hK.out _ _ (hb6 BK678).out (fun hHeld=>?_);clear hK K;refine nA 34 ?_;refine pA 13 35 HT_ ?_;refine pA 14 36 HT_ ?_;refine pB 15 37 HT_ ?_;refine pB 16 38 HT_ ?_;refine pB 17 39 HT_ ?_;refine pA 18 40 HT_ ?_;refine pA 19 2 HT_ ?_;refine done_ (done_of HT_.out (by kernel_rfl)) ?_
      try go_wp2
      go_ret
      exact ⟨ff,bs HB⟩
    ·intro c15 c15b0 c15b1 H;obtain rfl:=si H
     try go_wp2
     replace HO682:=am (Kd.N_drew HO682.out);replace BK678:=am (blk_drew BK678.out);replace HB:=am (below_drew1 HB.out);obtain ⟨Ao36,co36,eo36⟩:=Kd.N_slice HO682.out
     (first|subst eo36|(injection eo36 with f1_ f2_ f3_;have f4_:=f1_.symm;have f5_:=f3_.symm;clear f1_ f2_ f3_;subst f4_;subst f5_))
     refine sta 20 (hb6 BK678) (fun hHeld=>?_);refine with_tabW impl_PaperRight.tab4 impl_PaperRight.bits4 (fun HT_ HW_=>?_)
     generalize w13.drew=w35 at HO682 BK678 HB hHeld ⊢
     refine pA 0 22 HT_ ?_;refine pA 2 24 HT_ ?_;refine tA 1 23 HT_ HW_ hHeld ?_;refine oA 3 25 HT_ (fun K hK=>?_);refine gA Tryz.func31 #[.int .i64 a0_0,.slice Ao36 t680.length co36] ?_;(with_reducible refine (impl_TableCheck.calls kj1 a0_0 _ _ t680 t683 t684 t685 _ ?side1 ?side2 (tbC HTC (bs HB)) (tbP HTP (bs HB)) A14.out).mono ?_)
     (case side1=>repeat (first|exact (Kd.N_reads' HO682.out).2.2|(with_reducible refine Kd.C_alloc ?_ _)|(with_reducible refine Kd.C_drewN ?_ _)|(with_reducible refine Kd.C_drew ?_)))
     (case side2=>exact (Kd.N_reads' HO682.out).2.1)
     rintro e w37 ⟨rfl,hb⟩;refine ⟨_,rfl,?_⟩;have n0_:=am (Kd.N_below (by (with_reducible repeat (first|apply Kd.N_alloc|apply Kd.N_drewN|apply Kd.N_drew));exact HO682.out) hb);have n1_:=am (blk_below (ks BK678) hb);have n2_:=am (below_step (bs HB) hb);clear HO682;clear BK678;clear HB;have HO682:=n0_;have BK678:=n1_;have HB:=n2_;clear n0_ n1_ n2_;(try clear hb);(try clear hb2);(try clear hk);(try clear hi);refine hK.out _ _ (hb6 BK678).out (fun hHeld=>?_);clear hK K;refine nA 25 ?_;refine pA 4 26 HT_ ?_;refine pA 5 27 HT_ ?_;refine pA 6 28 HT_ ?_;refine pB 7 29 HT_ ?_;refine pB 8 30 HT_ ?_;refine pB 9 31 HT_ ?_;refine pB 10 32 HT_ ?_;refine pB 11 33 HT_ ?_;refine pB 12 34 HT_ ?_;refine pA 13 35 HT_ ?_;refine pA 14 36 HT_ ?_;refine pB 15 37 HT_ ?_;refine pB 16 38 HT_ ?_;refine pB 17 39 HT_ ?_;refine pA 18 40 HT_ ?_;refine pA 19 2 HT_ ?_;refine done_ (done_of HT_.out (by kernel_rfl)) ?_
     try go_wp2
     go_ret
     exact ⟨ff,bs HB⟩
set_option maxHeartbeats 8000000 in
set_option maxRecDepth 100000 in
theorem laws_eqStringS.calls (k:Nat) (A0:Option Addr) (c0:Nat) (l0:List ByteArray) (A1:Option Addr) (c1:Nat) (l1:List ByteArray) (r:Bool) (w:World) (hr0:Kd.C Kd.string w A0 l0.length l0) (hc0:l0.length≤c0) (hr1:Kd.C Kd.string w A1 l1.length l1) (hc1:l1.length≤c1) (H:laws_eqStringS.f k l0 l1=some r) :
  Calls Tryz.prog 45 #[.slice A0 l0.length c0,.slice A1 l1.length c1] w fun e w'=>e=.returned (.bool r)∧Drawn0 w w':=by
 have HR0:=am hr0;have HC0:=am hc0;clear hr0 hc0;have HR1:=am hr1;have HC1:=am hc1;clear hr1 hc1;unfold laws_eqStringS.f at H
 revert H;refine ie2k ?_ ?_
 ·intro c3 c3b0 c3b1 H
  have c3b2:(l0.length == l1.length)=true:=by first|simpa using c3|(simp at c3 ⊢;omega)
  clear c3;have H':=am H;clear H
  go_in
  go_wp2
  repeat (go_quiet (fail);try go_wp2)
  go_loopg [5] k (fun kq v5 w'=>∃ (x5_1:Int),v5=.int .i64 x5_1∧Aside0 (laws_eqStringS.l0 kq l0 l1 x5_1=some r)∧Aside0 (kq≤k)∧Drawn0 w w')
  case atStart=>exact ⟨(0),fg,H',⟨Nat.le_refl _⟩,by repeat (first|exact Drawn0.refl _|apply Drawn0.step)⟩
  case round =>
   clear H'
   try clear c1
   try clear c3
   try clear c3b0
   try clear c3b1
   try clear c3b2
   obtain ⟨x5_1,rfl,HA,HK1,⟨m1,rfl⟩⟩:=hrel
   cases gk with
   | zero=>exact absurd HA.out (by simp [laws_eqStringS.l0])
   | succ k1 =>
    have H:=HA.out;clear HA;simp only [laws_eqStringS.l0] at H
    revert H;refine id2 ?_ ?_
    ·intro c4b0 H
     revert H;refine id1 ?_
     intro c5b0 H
     revert H;refine id1 ?_
     intro c6b0 H
     revert H;refine ie2 ?_ ?_
     ·intro c7b0 c7b1 H;have H':=am H;clear H;have p698:0≤(x5_1:Int):=oa;have q698:x5_1<(l0.length:Int):=oa;obtain ⟨ad698,e698,hx698_0⟩:=Kd.at_string HR0.out x5_1 p698 q698
      cases e698
      replace p698:=eq_true p698;replace q698:=eq_true q698;have p699:0≤(x5_1:Int):=oa;have q699:x5_1<(l1.length:Int):=oa;obtain ⟨ad699,e699,hx699_0⟩:=Kd.at_string HR1.out x5_1 p699 q699
      cases e699
      replace p699:=eq_true p699;replace q699:=eq_true q699
      go_wp2
      repeat (go_quiet (fail);try go_wp2)
      go_roundg k1
      case measure=>have:=HK1.out;omega
      case rel=>exact ⟨(wrap64 (x5_1+1)),fg,H',⟨by have:=HK1.out;omega⟩,by repeat (first|exact Drawn0.refl _|apply Drawn0.step)⟩
     ·intro c7 c7b0 c7b1 H;obtain rfl:=si H;have p698:0≤(x5_1:Int):=oa;have q698:x5_1<(l0.length:Int):=oa;obtain ⟨ad698,e698,hx698_0⟩:=Kd.at_string HR0.out x5_1 p698 q698
      cases e698
      replace p698:=eq_true p698;replace q698:=eq_true q698;have p699:0≤(x5_1:Int):=oa;have q699:x5_1<(l1.length:Int):=oa;obtain ⟨ad699,e699,hx699_0⟩:=Kd.at_string HR1.out x5_1 p699 q699
      cases e699
      replace p699:=eq_true p699;replace q699:=eq_true q699
      go_wp2
      repeat (go_quiet (fail);try go_wp2)
      go_ret
      exact ⟨fg,by repeat (first|exact Drawn0.refl _|apply Drawn0.step)⟩
    ·intro c4b0 H;obtain rfl:=si H
     go_wp2
     repeat (go_quiet (fail);try go_wp2)
     go_ret
     exact ⟨fg,by repeat (first|exact Drawn0.refl _|apply Drawn0.step)⟩
 ·intro c3 c3b0 c3b1 H
  have c3b2:(l0.length == l1.length)=false:=by first|simpa using c3|(simp at c3 ⊢;omega)
  obtain rfl:=si H
  go_in
  go_wp2
  repeat (go_quiet (fail);try go_wp2)
  go_ret
  exact ⟨fg,by repeat (first|exact Drawn0.refl _|apply Drawn0.step)⟩
set_option maxHeartbeats 8000000 in
set_option maxRecDepth 100000 in
theorem laws_eqLine.calls (a0_0:Int) (a0_1:ByteArray) (a0_2:Int) (a0_3:Int) (a0_4:ByteArray) (a1_0:Int) (a1_1:ByteArray) (a1_2:Int) (a1_3:Int) (a1_4:ByteArray) (r:Bool) (w:World) (H:laws_eqLine.f a0_0 a0_1 a0_2 a0_3 a0_4 a1_0 a1_1 a1_2 a1_3 a1_4=some r) :
  Calls Tryz.prog 93 #[.agg #[.int .i64 a0_0,.string a0_1,.int .i64 a0_2,.int .i64 a0_3,.string a0_4],.agg #[.int .i64 a1_0,.string a1_1,.int .i64 a1_2,.int .i64 a1_3,.string a1_4]] w fun e w'=>e=.returned (.bool r)∧Below w.heap.size w w':=by
 have hu71:=Tryz.underlying71;have HB:=am (Below.refl w.heap.size w);unfold laws_eqLine.f at H
 revert H;refine ie2 ?_ ?_
 ·intro c3b0 c3b1 H
  revert H;refine ie2 ?_ ?_
  ·intro c4b0 c4b1 H
   revert H;refine ie2 ?_ ?_
   ·intro c5b0 c5b1 H
    revert H;refine ie2 ?_ ?_
    ·intro c6b0 c6b1 H
     revert H;refine ie2 ?_ ?_
     ·intro c7b0 c7b1 H;obtain rfl:=si H
      go_in
      go_wp2_with (first|((with_reducible refine gate_dst (N:=2) rfl ?_);refine bx 2 (cs:=#[.int .i64 a0_0,.string a0_1,.int .i64 a0_2,.int .i64 a0_3,.string a0_4]) (t:=71) ?_;intro gb700 hg w8 hbox hb;have BK700:=am (hbox);have GW700:=am ((gs hg (bs HB)));have GE700:=am ((gs hg (bs HB)));replace HB:=am (below_step (bs HB) hb);clear hb hbox hg)|((with_reducible refine gate_dst (N:=3) rfl ?_);refine bx 3 (cs:=#[.int .i64 a1_0,.string a1_1,.int .i64 a1_2,.int .i64 a1_3,.string a1_4]) (t:=71) ?_;intro gb701 hg w9 hbox hb;have BK701:=am (hbox);have GW701:=am ((gs hg (bs HB)));have GE701:=am ((gs hg (bs HB)));replace HB:=am (below_step (bs HB) hb);have NB700_701:=am ((gn hg (ks BK700)));have NB701_700:=am ((gm hg (ks BK700)));replace BK700:=am (blk_below (ks BK700) hb);clear hb hbox hg;have hnb10:=NB700_701.out;have hnc10:=NB701_700.out;have hcz11:=cf5 BK700;have hcz12:=cf5 BK701))
      go_ret
      exact ⟨ff,bs HB⟩
     ·intro c7 c7b0 c7b1 H;obtain rfl:=si H
      go_in
      go_wp2_with (first|((with_reducible refine gate_dst (N:=2) rfl ?_);refine bx 2 (cs:=#[.int .i64 a0_0,.string a0_1,.int .i64 a0_2,.int .i64 a0_3,.string a0_4]) (t:=71) ?_;intro gb700 hg w13 hbox hb;have BK700:=am (hbox);have GW700:=am ((gs hg (bs HB)));have GE700:=am ((gs hg (bs HB)));replace HB:=am (below_step (bs HB) hb);clear hb hbox hg)|((with_reducible refine gate_dst (N:=3) rfl ?_);refine bx 3 (cs:=#[.int .i64 a1_0,.string a1_1,.int .i64 a1_2,.int .i64 a1_3,.string a1_4]) (t:=71) ?_;intro gb701 hg w14 hbox hb;have BK701:=am (hbox);have GW701:=am ((gs hg (bs HB)));have GE701:=am ((gs hg (bs HB)));replace HB:=am (below_step (bs HB) hb);have NB700_701:=am ((gn hg (ks BK700)));have NB701_700:=am ((gm hg (ks BK700)));replace BK700:=am (blk_below (ks BK700) hb);clear hb hbox hg;have hnb15:=NB700_701.out;have hnc15:=NB701_700.out;have hcz16:=cf5 BK700;have hcz17:=cf5 BK701))
      go_ret
      exact ⟨ff,bs HB⟩
    ·intro c6 c6b0 c6b1 H;obtain rfl:=si H
     go_in
     go_wp2_with (first|((with_reducible refine gate_dst (N:=2) rfl ?_);refine bx 2 (cs:=#[.int .i64 a0_0,.string a0_1,.int .i64 a0_2,.int .i64 a0_3,.string a0_4]) (t:=71) ?_;intro gb700 hg w18 hbox hb;have BK700:=am (hbox);have GW700:=am ((gs hg (bs HB)));have GE700:=am ((gs hg (bs HB)));replace HB:=am (below_step (bs HB) hb);clear hb hbox hg)|((with_reducible refine gate_dst (N:=3) rfl ?_);refine bx 3 (cs:=#[.int .i64 a1_0,.string a1_1,.int .i64 a1_2,.int .i64 a1_3,.string a1_4]) (t:=71) ?_;intro gb701 hg w19 hbox hb;have BK701:=am (hbox);have GW701:=am ((gs hg (bs HB)));have GE701:=am ((gs hg (bs HB)));replace HB:=am (below_step (bs HB) hb);have NB700_701:=am ((gn hg (ks BK700)));have NB701_700:=am ((gm hg (ks BK700)));replace BK700:=am (blk_below (ks BK700) hb);clear hb hbox hg;have hnb20:=NB700_701.out;have hnc20:=NB701_700.out;have hcz21:=cf5 BK700;have hcz22:=cf5 BK701))
     go_ret
     exact ⟨ff,bs HB⟩
   ·intro c5 c5b0 c5b1 H;obtain rfl:=si H
    go_in
    go_wp2_with (first|((with_reducible refine gate_dst (N:=2) rfl ?_);refine bx 2 (cs:=#[.int .i64 a0_0,.string a0_1,.int .i64 a0_2,.int .i64 a0_3,.string a0_4]) (t:=71) ?_;intro gb700 hg w23 hbox hb;have BK700:=am (hbox);have GW700:=am ((gs hg (bs HB)));have GE700:=am ((gs hg (bs HB)));replace HB:=am (below_step (bs HB) hb);clear hb hbox hg)|((with_reducible refine gate_dst (N:=3) rfl ?_);refine bx 3 (cs:=#[.int .i64 a1_0,.string a1_1,.int .i64 a1_2,.int .i64 a1_3,.string a1_4]) (t:=71) ?_;intro gb701 hg w24 hbox hb;have BK701:=am (hbox);have GW701:=am ((gs hg (bs HB)));have GE701:=am ((gs hg (bs HB)));replace HB:=am (below_step (bs HB) hb);have NB700_701:=am ((gn hg (ks BK700)));have NB701_700:=am ((gm hg (ks BK700)));replace BK700:=am (blk_below (ks BK700) hb);clear hb hbox hg;have hnb25:=NB700_701.out;have hnc25:=NB701_700.out;have hcz26:=cf5 BK700;have hcz27:=cf5 BK701))
    go_ret
    exact ⟨ff,bs HB⟩
  ·intro c4 c4b0 c4b1 H;obtain rfl:=si H
   go_in
   go_wp2_with (first|((with_reducible refine gate_dst (N:=2) rfl ?_);refine bx 2 (cs:=#[.int .i64 a0_0,.string a0_1,.int .i64 a0_2,.int .i64 a0_3,.string a0_4]) (t:=71) ?_;intro gb700 hg w28 hbox hb;have BK700:=am (hbox);have GW700:=am ((gs hg (bs HB)));have GE700:=am ((gs hg (bs HB)));replace HB:=am (below_step (bs HB) hb);clear hb hbox hg)|((with_reducible refine gate_dst (N:=3) rfl ?_);refine bx 3 (cs:=#[.int .i64 a1_0,.string a1_1,.int .i64 a1_2,.int .i64 a1_3,.string a1_4]) (t:=71) ?_;intro gb701 hg w29 hbox hb;have BK701:=am (hbox);have GW701:=am ((gs hg (bs HB)));have GE701:=am ((gs hg (bs HB)));replace HB:=am (below_step (bs HB) hb);have NB700_701:=am ((gn hg (ks BK700)));have NB701_700:=am ((gm hg (ks BK700)));replace BK700:=am (blk_below (ks BK700) hb);clear hb hbox hg;have hnb30:=NB700_701.out;have hnc30:=NB701_700.out;have hcz31:=cf5 BK700;have hcz32:=cf5 BK701))
   go_ret
   exact ⟨ff,bs HB⟩
 ·intro c3 c3b0 c3b1 H;obtain rfl:=si H
  go_in
  go_wp2_with (first|((with_reducible refine gate_dst (N:=2) rfl ?_);refine bx 2 (cs:=#[.int .i64 a0_0,.string a0_1,.int .i64 a0_2,.int .i64 a0_3,.string a0_4]) (t:=71) ?_;intro gb700 hg w33 hbox hb;have BK700:=am (hbox);have GW700:=am ((gs hg (bs HB)));have GE700:=am ((gs hg (bs HB)));replace HB:=am (below_step (bs HB) hb);clear hb hbox hg)|((with_reducible refine gate_dst (N:=3) rfl ?_);refine bx 3 (cs:=#[.int .i64 a1_0,.string a1_1,.int .i64 a1_2,.int .i64 a1_3,.string a1_4]) (t:=71) ?_;intro gb701 hg w34 hbox hb;have BK701:=am (hbox);have GW701:=am ((gs hg (bs HB)));have GE701:=am ((gs hg (bs HB)));replace HB:=am (below_step (bs HB) hb);have NB700_701:=am ((gn hg (ks BK700)));have NB701_700:=am ((gm hg (ks BK700)));replace BK700:=am (blk_below (ks BK700) hb);clear hb hbox hg;have hnb35:=NB700_701.out;have hnc35:=NB701_700.out;have hcz36:=cf5 BK700;have hcz37:=cf5 BK701))
  go_ret
  exact ⟨ff,bs HB⟩
def laws_eqLineS.T6:Bool × List (List Nat × List Nat):=(true,[([],[]),([],[]),([0,1],[0,1]),([2],[2]),([],[]),([],[]),([4,5],[4,5]),([6],[6]),([3,7],[3,7]),([8],[8])])
def laws_eqLineS.B6:List Nat:=[0,0,3,7,0,0,48,112,255,511]
theorem laws_eqLineS.tab6:rtab .any (opsOf Tryz.f46 6)=laws_eqLineS.T6:=by kernel_rfl
theorem laws_eqLineS.bits6:waitsOk laws_eqLineS.T6.2 laws_eqLineS.B6=true:=by kernel_rfl
set_option maxHeartbeats 8000000 in
set_option maxRecDepth 100000 in
theorem laws_eqLineS.calls (k:Nat) (A0:Option Addr) (c0:Nat) (l0:List (S71)) (A1:Option Addr) (c1:Nat) (l1:List (S71)) (r:Bool) (w:World) (hr0:Kd.C k71 w A0 l0.length l0) (hc0:l0.length≤c0) (hr1:Kd.C k71 w A1 l1.length l1) (hc1:l1.length≤c1) (H:laws_eqLineS.f k l0 l1=some r) :
  Calls Tryz.prog 46 #[.slice A0 l0.length c0,.slice A1 l1.length c1] w fun e w'=>e=.returned (.bool r)∧Below w.heap.size w w':=by
 have hu71:=Tryz.underlying71;have HR0:=am hr0;have HC0:=am hc0;clear hr0 hc0;have HR1:=am hr1;have HC1:=am hc1;clear hr1 hc1;have HB:=am (Below.refl w.heap.size w);unfold laws_eqLineS.f at H
 revert H;refine ie2k ?_ ?_
 ·intro c3 c3b0 c3b1 H
  have c3b2:(l0.length == l1.length)=true:=by first|simpa using c3|(simp at c3 ⊢;omega)
  clear c3;have H':=am H;clear H
  go_in
  go_wp2
  go_loopg [5] k (fun kq v5 w'=>∃ (x5_1:Int),v5=.int .i64 x5_1∧Aside0 (laws_eqLineS.l0 kq l0 l1 x5_1=some r)∧Aside0 (kq≤k)∧Aside0 (Below w.heap.size w w'))
  case atStart=>exact ⟨(0),fg,H',⟨Nat.le_refl _⟩,⟨bs HB⟩⟩
  case round =>
   clear H'
   try clear c1
   try clear c3
   try clear c3b0
   try clear c3b1
   try clear c3b2
   obtain ⟨x5_1,rfl,HA,HK1,HB⟩:=hrel
   cases gk with
   | zero=>exact absurd HA.out (by simp [laws_eqLineS.l0])
   | succ k1 =>
    have H:=HA.out;clear HA;simp only [laws_eqLineS.l0] at H
    revert H;refine id2 ?_ ?_
    ·intro c4b0 H
     revert H;refine id1 ?_
     intro c5b0 H
     revert H;refine id1 ?_
     intro c6b0 H;replace H:=bo H;obtain ⟨t704,A7,H⟩:=H
     obtain rfl|rfl:=bt t704
     ·replace H:=itT H;have H':=am H;clear H
      try go_wp2
      replace HB:=am (below_drew1 HB.out);have p702:0≤(x5_1:Int):=oa;have q702:x5_1<(l0.length:Int):=oa;obtain ⟨ad702,e702,hx702_0,hx702_1,hx702_2,hx702_3,hx702_4⟩:=at_T71 HR0.out x5_1 p702 q702;have hw702_4:=hx702_4;have hw702_3:=hx702_3;have hw702_2:=hx702_2;have hw702_1:=hx702_1;have hw702_0:=hx702_0
      cases e702
      replace hx702_0:=cb HB hx702_0;replace hx702_1:=cb HB hx702_1;replace hx702_2:=cb HB hx702_2;replace hx702_3:=cb HB hx702_3;replace hx702_4:=cb HB hx702_4;replace p702:=eq_true p702;replace q702:=eq_true q702;have p703:0≤(x5_1:Int):=oa;have q703:x5_1<(l1.length:Int):=oa;obtain ⟨ad703,e703,hx703_0,hx703_1,hx703_2,hx703_3,hx703_4⟩:=at_T71 HR1.out x5_1 p703 q703;have hw703_4:=hx703_4;have hw703_3:=hx703_3;have hw703_2:=hx703_2;have hw703_1:=hx703_1;have hw703_0:=hx703_0
      cases e703
      replace hx703_0:=cb HB hx703_0;replace hx703_1:=cb HB hx703_1;replace hx703_2:=cb HB hx703_2;replace hx703_3:=cb HB hx703_3;replace hx703_4:=cb HB hx703_4;replace p703:=eq_true p703;replace q703:=eq_true q703;refine sta 10 (hca (cb HB hw702_0) (hca (cb HB hw702_1) (hca (cb HB hw702_2) (hca (cb HB hw702_3) (hca (cb HB hw702_4) (hca (cb HB hw703_0) (hca (cb HB hw703_1) (hca (cb HB hw703_2) (hca (cb HB hw703_3) (hc (cb HB hw703_4))))))))))) (fun hHeld=>?_);refine with_tabW laws_eqLineS.tab6 laws_eqLineS.bits6 (fun HT_ HW_=>?_)
      generalize wr.drew=w9 at HB hx702_0 hx702_1 hx702_2 hx702_3 hx702_4 hx703_0 hx703_1 hx703_2 hx703_3 hx703_4 hHeld ⊢
      refine pA 0 17 HT_ ?_;refine pA 1 18 HT_ ?_;refine pA 2 19 HT_ ?_;refine pA 4 21 HT_ ?_;refine pA 5 22 HT_ ?_;refine pA 6 23 HT_ ?_;refine tA 3 20 HT_ HW_ hHeld ?_;refine tA 7 24 HT_ HW_ hHeld ?_;refine oA 8 25 HT_ (fun K hK=>?_);refine gA Tryz.func93 #[.agg #[.int .i64 ((rd_T71 l0 x5_1).f0),.string ((rd_T71 l0 x5_1).f1),.int .i64 ((rd_T71 l0 x5_1).f2),.int .i64 ((rd_T71 l0 x5_1).f3),.string ((rd_T71 l0 x5_1).f4)],.agg #[.int .i64 ((rd_T71 l1 x5_1).f0),.string ((rd_T71 l1 x5_1).f1),.int .i64 ((rd_T71 l1 x5_1).f2),.int .i64 ((rd_T71 l1 x5_1).f3),.string ((rd_T71 l1 x5_1).f4)]] ?_;(with_reducible refine (laws_eqLine.calls ((rd_T71 l0 x5_1).f0) ((rd_T71 l0 x5_1).f1) ((rd_T71 l0 x5_1).f2) ((rd_T71 l0 x5_1).f3) ((rd_T71 l0 x5_1).f4) ((rd_T71 l1 x5_1).f0) ((rd_T71 l1 x5_1).f1) ((rd_T71 l1 x5_1).f2) ((rd_T71 l1 x5_1).f3) ((rd_T71 l1 x5_1).f4) true _ A7.out).mono ?_);rintro e w10 ⟨rfl,hb⟩;refine ⟨_,rfl,?_⟩;replace HB:=am (below_step (bs HB) hb);(try clear hb);(try clear hb2);(try clear hk);(try clear hi);refine hK.out _ _ (hca (cb HB hw702_0) (hca (cb HB hw702_1) (hca (cb HB hw702_2) (hca (cb HB hw702_3) (hca (cb HB hw702_4) (hca (cb HB hw703_0) (hca (cb HB hw703_1) (hca (cb HB hw703_2) (hca (cb HB hw703_3) (hc (cb HB hw703_4))))))))))).out (fun hHeld=>?_);clear hK K;refine nA 25 ?_;refine pA 9 26 HT_ ?_;refine done_ (done_of HT_.out (by kernel_rfl)) ?_
      try go_wp2
      go_roundg k1
      case measure=>have:=HK1.out;omega
      case rel=>exact ⟨(wrap64 (x5_1+1)),fg,H',⟨by have:=HK1.out;omega⟩,⟨bs HB⟩⟩
     ·replace H:=itF H;obtain rfl:=si H
      try go_wp2
      replace HB:=am (below_drew1 HB.out);have p702:0≤(x5_1:Int):=oa;have q702:x5_1<(l0.length:Int):=oa;obtain ⟨ad702,e702,hx702_0,hx702_1,hx702_2,hx702_3,hx702_4⟩:=at_T71 HR0.out x5_1 p702 q702;have hw702_4:=hx702_4;have hw702_3:=hx702_3;have hw702_2:=hx702_2;have hw702_1:=hx702_1;have hw702_0:=hx702_0
      cases e702
      replace hx702_0:=cb HB hx702_0;replace hx702_1:=cb HB hx702_1;replace hx702_2:=cb HB hx702_2;replace hx702_3:=cb HB hx702_3;replace hx702_4:=cb HB hx702_4;replace p702:=eq_true p702;replace q702:=eq_true q702;have p703:0≤(x5_1:Int):=oa;have q703:x5_1<(l1.length:Int):=oa;obtain ⟨ad703,e703,hx703_0,hx703_1,hx703_2,hx703_3,hx703_4⟩:=at_T71 HR1.out x5_1 p703 q703;have hw703_4:=hx703_4;have hw703_3:=hx703_3;have hw703_2:=hx703_2;have hw703_1:=hx703_1;have hw703_0:=hx703_0
      cases e703
      replace hx703_0:=cb HB hx703_0;replace hx703_1:=cb HB hx703_1;replace hx703_2:=cb HB hx703_2;replace hx703_3:=cb HB hx703_3;replace hx703_4:=cb HB hx703_4;replace p703:=eq_true p703;replace q703:=eq_true q703;refine sta 10 (hca (cb HB hw702_0) (hca (cb HB hw702_1) (hca (cb HB hw702_2) (hca (cb HB hw702_3) (hca (cb HB hw702_4) (hca (cb HB hw703_0) (hca (cb HB hw703_1) (hca (cb HB hw703_2) (hca (cb HB hw703_3) (hc (cb HB hw703_4))))))))))) (fun hHeld=>?_);refine with_tabW laws_eqLineS.tab6 laws_eqLineS.bits6 (fun HT_ HW_=>?_)
      generalize wr.drew=w11 at HB hx702_0 hx702_1 hx702_2 hx702_3 hx702_4 hx703_0 hx703_1 hx703_2 hx703_3 hx703_4 hHeld ⊢
      refine pA 0 17 HT_ ?_;refine pA 1 18 HT_ ?_;refine pA 2 19 HT_ ?_;refine pA 4 21 HT_ ?_;refine pA 5 22 HT_ ?_;refine pA 6 23 HT_ ?_;refine tA 3 20 HT_ HW_ hHeld ?_;refine tA 7 24 HT_ HW_ hHeld ?_;refine oA 8 25 HT_ (fun K hK=>?_);refine gA Tryz.func93 #[.agg #[.int .i64 ((rd_T71 l0 x5_1).f0),.string ((rd_T71 l0 x5_1).f1),.int .i64 ((rd_T71 l0 x5_1).f2),.int .i64 ((rd_T71 l0 x5_1).f3),.string ((rd_T71 l0 x5_1).f4)],.agg #[.int .i64 ((rd_T71 l1 x5_1).f0),.string ((rd_T71 l1 x5_1).f1),.int .i64 ((rd_T71 l1 x5_1).f2),.int .i64 ((rd_T71 l1 x5_1).f3),.string ((rd_T71 l1 x5_1).f4)]] ?_;(with_reducible refine (laws_eqLine.calls ((rd_T71 l0 x5_1).f0) ((rd_T71 l0 x5_1).f1) ((rd_T71 l0 x5_1).f2) ((rd_T71 l0 x5_1).f3) ((rd_T71 l0 x5_1).f4) ((rd_T71 l1 x5_1).f0) ((rd_T71 l1 x5_1).f1) ((rd_T71 l1 x5_1).f2) ((rd_T71 l1 x5_1).f3) ((rd_T71 l1 x5_1).f4) false _ A7.out).mono ?_);rintro e w12 ⟨rfl,hb⟩;refine ⟨_,rfl,?_⟩;replace HB:=am (below_step (bs HB) hb);(try clear hb);(try clear hb2);(try clear hk);(try clear hi);refine hK.out _ _ (hca (cb HB hw702_0) (hca (cb HB hw702_1) (hca (cb HB hw702_2) (hca (cb HB hw702_3) (hca (cb HB hw702_4) (hca (cb HB hw703_0) (hca (cb HB hw703_1) (hca (cb HB hw703_2) (hca (cb HB hw703_3) (hc (cb HB hw703_4))))))))))).out (fun hHeld=>?_);clear hK K;refine nA 25 ?_;refine pA 9 26 HT_ ?_;refine done_ (done_of HT_.out (by kernel_rfl)) ?_
      try go_wp2
      go_ret
      exact ⟨ff,bs HB⟩
    ·intro c4b0 H;obtain rfl:=si H
     go_wp2
     go_ret
     exact ⟨ff,bs HB⟩
 ·intro c3 c3b0 c3b1 H
  have c3b2:(l0.length == l1.length)=false:=by first|simpa using c3|(simp at c3 ⊢;omega)
  obtain rfl:=si H
  go_in
  go_wp2
  go_ret
  exact ⟨ff,bs HB⟩
set_option maxHeartbeats 8000000 in
set_option maxRecDepth 100000 in
theorem laws_eqPaper.calls (k:Nat) (a0_0:Int) (a0_1:ByteArray) (a0_2:ByteArray) (a0_3:Int) (A0_4:Option Addr) (c0_4:Nat) (l0_4:List ByteArray) (A0_5:Option Addr) (c0_5:Nat) (l0_5:List (S71)) (a1_0:Int) (a1_1:ByteArray) (a1_2:ByteArray) (a1_3:Int) (A1_4:Option Addr) (c1_4:Nat) (l1_4:List ByteArray) (A1_5:Option Addr) (c1_5:Nat) (l1_5:List (S71)) (r:Bool) (w:World) (hr0_4:Kd.C Kd.string w A0_4 l0_4.length l0_4) (hc0_4:l0_4.length≤c0_4) (hr0_5:Kd.C k71 w A0_5 l0_5.length l0_5) (hc0_5:l0_5.length≤c0_5) (hr1_4:Kd.C Kd.string w A1_4 l1_4.length l1_4) (hc1_4:l1_4.length≤c1_4) (hr1_5:Kd.C k71 w A1_5 l1_5.length l1_5) (hc1_5:l1_5.length≤c1_5) (H:laws_eqPaper.f k a0_0 a0_1 a0_2 a0_3 l0_4 l0_5 a1_0 a1_1 a1_2 a1_3 l1_4 l1_5=some r) :
  Calls Tryz.prog 12 #[.agg #[.int .i64 a0_0,.string a0_1,.string a0_2,.int .i64 a0_3,.slice A0_4 l0_4.length c0_4,.slice A0_5 l0_5.length c0_5],.agg #[.int .i64 a1_0,.string a1_1,.string a1_2,.int .i64 a1_3,.slice A1_4 l1_4.length c1_4,.slice A1_5 l1_5.length c1_5]] w fun e w'=>e=.returned (.bool r)∧Below w.heap.size w w':=by
 have hu30:=Tryz.underlying30;have HR0_4:=am hr0_4;have HC0_4:=am hc0_4;clear hr0_4 hc0_4;have HR0_5:=am hr0_5;have HC0_5:=am hc0_5;clear hr0_5 hc0_5;have HR1_4:=am hr1_4;have HC1_4:=am hc1_4;clear hr1_4 hc1_4;have HR1_5:=am hr1_5;have HC1_5:=am hc1_5;clear hr1_5 hc1_5;have HB:=am (Below.refl w.heap.size w);unfold laws_eqPaper.f at H
 revert H;refine ie2 ?_ ?_
 ·intro c3b0 c3b1 H
  revert H;refine ie2 ?_ ?_
  ·intro c4b0 c4b1 H
   revert H;refine ie2 ?_ ?_
   ·intro c5b0 c5b1 H
    revert H;refine ie2 ?_ ?_
    ·intro c6b0 c6b1 H;replace H:=bo H;obtain ⟨t707,A7,H⟩:=H
     go_in
     try go_wp2_with (first|((with_reducible refine gate_dst (N:=2) rfl ?_);refine bx 2 (cs:=#[.int .i64 a0_0,.string a0_1,.string a0_2,.int .i64 a0_3,.slice A0_4 l0_4.length c0_4,.slice A0_5 l0_5.length c0_5]) (t:=30) ?_;intro gb705 hg w8 hbox hb;have BK705:=am (hbox);have GW705:=am ((gs hg (bs HB)));have GE705:=am ((gs hg (bs HB)));replace HB:=am (below_step (bs HB) hb);clear hb hbox hg)|((with_reducible refine gate_dst (N:=3) rfl ?_);refine bx 3 (cs:=#[.int .i64 a1_0,.string a1_1,.string a1_2,.int .i64 a1_3,.slice A1_4 l1_4.length c1_4,.slice A1_5 l1_5.length c1_5]) (t:=30) ?_;intro gb706 hg w9 hbox hb;have BK706:=am (hbox);have GW706:=am ((gs hg (bs HB)));have GE706:=am ((gs hg (bs HB)));replace HB:=am (below_step (bs HB) hb);have NB705_706:=am ((gn hg (ks BK705)));have NB706_705:=am ((gm hg (ks BK705)));replace BK705:=am (blk_below (ks BK705) hb);clear hb hbox hg;have hnb10:=NB705_706.out;have hnc10:=NB706_705.out;have hcz11:=cf6 BK705;have hcz12:=cf6 BK706))
     go_at_call 45;(with_reducible refine (laws_eqStringS.calls k _ _ l0_4 _ _ l1_4 t707 _ (Kd.C_below HR0_4.out (bs HB)) HC0_4.out (Kd.C_below HR1_4.out (bs HB)) HC1_4.out A7.out).mono ?_);rintro e w' ⟨rfl,⟨nd,rfl⟩⟩
     obtain rfl|rfl:=bt t707
     ·replace H:=itT H;replace H:=bo H;obtain ⟨t708,A14,H⟩:=H;have hnb15:=NB705_706.out;have hnc15:=NB706_705.out;have hcz16:=cf6 BK705;have hcz17:=cf6 BK706
      try go_wp2_with (fail)
      go_at_call 46;(with_reducible refine (laws_eqLineS.calls k _ _ l0_5 _ _ l1_5 t708 _ ?side1 HC0_5.out ?side3 HC1_5.out A14.out).mono ?_);(case side1=>repeat (first|exact (Kd.C_below HR0_5.out (bs HB))|(with_reducible refine Kd.C_alloc ?_ _)|(with_reducible refine Kd.C_drewN ?_ _)|(with_reducible refine Kd.C_drew ?_)));(case side3=>repeat (first|exact (Kd.C_below HR1_5.out (bs HB))|(with_reducible refine Kd.C_alloc ?_ _)|(with_reducible refine Kd.C_drewN ?_ _)|(with_reducible refine Kd.C_drew ?_)));rintro e w18 ⟨rfl,hb⟩;replace BK705:=am (blk_below (ks BK705) hb);replace BK706:=am (blk_below (ks BK706) hb);replace HB:=am (below_step (bs HB) hb);(try clear hb);(try clear hb2);(try clear hk);(try clear hi)
      obtain rfl|rfl:=bt t708
      ·replace H:=itT H;obtain rfl:=si H
       go_wp2
       go_ret
       exact ⟨ff,bs HB⟩
      ·replace H:=itF H;obtain rfl:=si H
       go_wp2
       go_ret
       exact ⟨ff,bs HB⟩
     ·replace H:=itF H;obtain rfl:=si H
      go_wp2
      go_ret
      exact ⟨ff,bs HB⟩
    ·intro c6 c6b0 c6b1 H;obtain rfl:=si H
     go_in
     go_wp2_with (first|((with_reducible refine gate_dst (N:=2) rfl ?_);refine bx 2 (cs:=#[.int .i64 a0_0,.string a0_1,.string a0_2,.int .i64 a0_3,.slice A0_4 l0_4.length c0_4,.slice A0_5 l0_5.length c0_5]) (t:=30) ?_;intro gb705 hg w20 hbox hb;have BK705:=am (hbox);have GW705:=am ((gs hg (bs HB)));have GE705:=am ((gs hg (bs HB)));replace HB:=am (below_step (bs HB) hb);clear hb hbox hg)|((with_reducible refine gate_dst (N:=3) rfl ?_);refine bx 3 (cs:=#[.int .i64 a1_0,.string a1_1,.string a1_2,.int .i64 a1_3,.slice A1_4 l1_4.length c1_4,.slice A1_5 l1_5.length c1_5]) (t:=30) ?_;intro gb706 hg w21 hbox hb;have BK706:=am (hbox);have GW706:=am ((gs hg (bs HB)));have GE706:=am ((gs hg (bs HB)));replace HB:=am (below_step (bs HB) hb);have NB705_706:=am ((gn hg (ks BK705)));have NB706_705:=am ((gm hg (ks BK705)));replace BK705:=am (blk_below (ks BK705) hb);clear hb hbox hg;have hnb22:=NB705_706.out;have hnc22:=NB706_705.out;have hcz23:=cf6 BK705;have hcz24:=cf6 BK706))
     go_ret
     exact ⟨ff,bs HB⟩
   ·intro c5 c5b0 c5b1 H;obtain rfl:=si H
    go_in
    go_wp2_with (first|((with_reducible refine gate_dst (N:=2) rfl ?_);refine bx 2 (cs:=#[.int .i64 a0_0,.string a0_1,.string a0_2,.int .i64 a0_3,.slice A0_4 l0_4.length c0_4,.slice A0_5 l0_5.length c0_5]) (t:=30) ?_;intro gb705 hg w25 hbox hb;have BK705:=am (hbox);have GW705:=am ((gs hg (bs HB)));have GE705:=am ((gs hg (bs HB)));replace HB:=am (below_step (bs HB) hb);clear hb hbox hg)|((with_reducible refine gate_dst (N:=3) rfl ?_);refine bx 3 (cs:=#[.int .i64 a1_0,.string a1_1,.string a1_2,.int .i64 a1_3,.slice A1_4 l1_4.length c1_4,.slice A1_5 l1_5.length c1_5]) (t:=30) ?_;intro gb706 hg w26 hbox hb;have BK706:=am (hbox);have GW706:=am ((gs hg (bs HB)));have GE706:=am ((gs hg (bs HB)));replace HB:=am (below_step (bs HB) hb);have NB705_706:=am ((gn hg (ks BK705)));have NB706_705:=am ((gm hg (ks BK705)));replace BK705:=am (blk_below (ks BK705) hb);clear hb hbox hg;have hnb27:=NB705_706.out;have hnc27:=NB706_705.out;have hcz28:=cf6 BK705;have hcz29:=cf6 BK706))
    go_ret
    exact ⟨ff,bs HB⟩
  ·intro c4 c4b0 c4b1 H;obtain rfl:=si H
   go_in
   go_wp2_with (first|((with_reducible refine gate_dst (N:=2) rfl ?_);refine bx 2 (cs:=#[.int .i64 a0_0,.string a0_1,.string a0_2,.int .i64 a0_3,.slice A0_4 l0_4.length c0_4,.slice A0_5 l0_5.length c0_5]) (t:=30) ?_;intro gb705 hg w30 hbox hb;have BK705:=am (hbox);have GW705:=am ((gs hg (bs HB)));have GE705:=am ((gs hg (bs HB)));replace HB:=am (below_step (bs HB) hb);clear hb hbox hg)|((with_reducible refine gate_dst (N:=3) rfl ?_);refine bx 3 (cs:=#[.int .i64 a1_0,.string a1_1,.string a1_2,.int .i64 a1_3,.slice A1_4 l1_4.length c1_4,.slice A1_5 l1_5.length c1_5]) (t:=30) ?_;intro gb706 hg w31 hbox hb;have BK706:=am (hbox);have GW706:=am ((gs hg (bs HB)));have GE706:=am ((gs hg (bs HB)));replace HB:=am (below_step (bs HB) hb);have NB705_706:=am ((gn hg (ks BK705)));have NB706_705:=am ((gm hg (ks BK705)));replace BK705:=am (blk_below (ks BK705) hb);clear hb hbox hg;have hnb32:=NB705_706.out;have hnc32:=NB706_705.out;have hcz33:=cf6 BK705;have hcz34:=cf6 BK706))
   go_ret
   exact ⟨ff,bs HB⟩
 ·intro c3 c3b0 c3b1 H;obtain rfl:=si H
  go_in
  go_wp2_with (first|((with_reducible refine gate_dst (N:=2) rfl ?_);refine bx 2 (cs:=#[.int .i64 a0_0,.string a0_1,.string a0_2,.int .i64 a0_3,.slice A0_4 l0_4.length c0_4,.slice A0_5 l0_5.length c0_5]) (t:=30) ?_;intro gb705 hg w35 hbox hb;have BK705:=am (hbox);have GW705:=am ((gs hg (bs HB)));have GE705:=am ((gs hg (bs HB)));replace HB:=am (below_step (bs HB) hb);clear hb hbox hg)|((with_reducible refine gate_dst (N:=3) rfl ?_);refine bx 3 (cs:=#[.int .i64 a1_0,.string a1_1,.string a1_2,.int .i64 a1_3,.slice A1_4 l1_4.length c1_4,.slice A1_5 l1_5.length c1_5]) (t:=30) ?_;intro gb706 hg w36 hbox hb;have BK706:=am (hbox);have GW706:=am ((gs hg (bs HB)));have GE706:=am ((gs hg (bs HB)));replace HB:=am (below_step (bs HB) hb);have NB705_706:=am ((gn hg (ks BK705)));have NB706_705:=am ((gm hg (ks BK705)));replace BK705:=am (blk_below (ks BK705) hb);clear hb hbox hg;have hnb37:=NB705_706.out;have hnc37:=NB706_705.out;have hcz38:=cf6 BK705;have hcz39:=cf6 BK706))
  go_ret
  exact ⟨ff,bs HB⟩
end Go.Proofs.YtogkcllenfkdmaaGreatDoor.QR
