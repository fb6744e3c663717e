-- Merged by a program of this session (wip/tool/pack.py) out of its own texts for this claim.
import Derived.Deep.Slices
import Derived.ChangeArms
import Derived.WalkKit
import Derived.ProofKit
import Derived.OpenShut
import Derived.ShutString
import Derived.ChangeOld
import Derived.Below
import Derived.SizedLaws
import Derived.Lib.Strings
import Derived.Lib.ItoaNum
import Derived.Lib.AtoiAll
import Derived.Test.YtogkcllenfkdmaaGreatDoorKFnExactPaperRight0
import Derived.Test.YtogkcllenfkdmaaGreatDoorKFnExactPaperRight1
import Derived.Test.YtogkcllenfkdmaaGreatDoorKFnExactPaperRight2
import Derived.Test.YtogkcllenfkdmaaGreatDoorKFnExactPaperRight3
import Derived.Test.YtogkcllenfkdmaaGreatDoorKFnExactPaperRight4
import Derived.Test.YtogkcllenfkdmaaGreatDoorKFnExactPaperRight5
import Derived.Test.YtogkcllenfkdmaaGreatDoorKFnExactPaperRight12
import Derived.Test.YtogkcllenfkdmaaGreatDoorKFnExactPaperRight14
import Derived.Test.YtogkcllenfkdmaaGreatDoorKFnExactPaperRight17
import Derived.Test.YtogkcllenfkdmaaGreatDoorKFnExactPaperRight18
namespace Go.Proofs.YtogkcllenfkdmaaGreatDoor.QR
open Go.RowKit Go.Proofs.YtogkcllenfkdmaaGreatDoorW.PrintWords Go.Proofs.YtogkcllenfkdmaaGreatDoorW.PrintLast Go.Proofs.YtogkcllenfkdmaaGreatDoorW.PrintMore
attribute [local go_sem] max2_int min2_int max_two min_two max_three min_three max_four min_four   -- for this text's walks alone
set_option linter.unusedVariables false
set_option linter.unusedSimpArgs false
set_option maxHeartbeats 8000000 in
set_option maxRecDepth 100000 in
theorem laws_FnExactPaperRight.calls (k:Nat) (a0_0:Int) (a0_1:ByteArray) (a0_2:ByteArray) (a0_3:Int) (A0_4:Option Addr) (c0_4:Nat) (l0_4:List ByteArray) (A0_5:Option Addr) (c0_5:Nat) (l0_5:List (S98)) (r:Bool) (w:World) (hr0_4:Kd.C Kd.string w A0_4 l0_4.length l0_4) (hc0_4:l0_4.length≤c0_4) (hr0_5:Kd.C k98 w A0_5 l0_5.length l0_5) (hc0_5:l0_5.length≤c0_5) (hTC:TbC w) (hTF:TbF w) (hTP:TbP w) (H:laws_FnExactPaperRight.f k a0_0 a0_1 a0_2 a0_3 l0_4 l0_5=some r) :
  Calls Tryz.prog 3 #[.agg #[.int .i64 a0_0,.string a0_1,.string a0_2,.int .i64 a0_3,.slice A0_4 l0_4.length c0_4,.slice A0_5 l0_5.length c0_5]] w fun e w'=>e=.returned (.bool r)∧Below w.heap.size w w':=by
 have HTC:=am hTC;clear hTC;have HTF:=am hTF;clear hTF;have HTP:=am hTP;clear hTP
 have hu25:=Tryz.underlying25;have hu30:=Tryz.underlying30;have HR0_4:=am hr0_4;have HC0_4:=am hc0_4;clear hr0_4 hc0_4;have HR0_5:=am hr0_5;have HC0_5:=am hc0_5;clear hr0_5 hc0_5;have HB:=am (Below.refl w.heap.size w);unfold laws_FnExactPaperRight.f at H;replace H:=bo H;obtain ⟨t710,A2,H⟩:=H
 go_in
 try go_wp2_with (first|((with_reducible refine gate_dst (N:=1) rfl ?_);refine bx 1 (cs:=#[.int .i64 a0_0,.string a0_1,.string a0_2,.int .i64 a0_3,.slice A0_4 l0_4.length c0_4,.slice A0_5 l0_5.length c0_5]) (t:=25) ?_;intro gb709 hg w3 hbox hb;have BK709:=am (hbox);have GW709:=am ((gs hg (bs HB)));have GE709:=am ((gs hg (bs HB)));replace HB:=am (below_step (bs HB) hb);clear hb hbox hg;have hcz4:=cf6 BK709))
 go_at_call 8;(with_reducible refine (laws_szPaper.calls k a0_0 a0_1 a0_2 a0_3 _ _ l0_4 _ _ l0_5 1048576 t710 _ (Kd.C_below HR0_4.out (bs HB)) HC0_4.out (Kd.C_below HR0_5.out (bs HB)) HC0_5.out A2.out).mono ?_);rintro e w5 ⟨rfl,hb⟩;replace BK709:=am (blk_below (ks BK709) hb);replace HB:=am (below_step (bs HB) hb);(try clear hb);(try clear hb2);(try clear hk);(try clear hi)
 revert H;refine id2 ?_ ?_
 ·intro c6b0 H;obtain rfl:=si H
  go_wp2
  go_ret
  exact ⟨ff,bs HB⟩
 ·intro c6b0 H;replace H:=bo H;obtain ⟨⟨t711,t712,t713,t714,t715,t718⟩,A7,H⟩:=H;(try dsimp only at H);have hcz8:=cf6 BK709
  try go_wp2_with (fail)
  go_at_call 10;(with_reducible refine (laws_toPaper.calls k a0_0 a0_1 a0_2 a0_3 _ _ l0_4 _ _ l0_5 t711 t712 t713 t714 t715 t718 _ (Kd.C_below HR0_4.out (bs HB)) HC0_4.out (Kd.C_below HR0_5.out (bs HB)) HC0_5.out A7.out).mono ?_);rintro e w9 ⟨v716,v719,rfl,ho0,ho1,hb⟩;have HO717:=am (Kd.R_lower ho0 (below_size (bs HB)));have HO720:=am (Kd.R_lower ho1 (below_size (bs HB)));replace BK709:=am (blk_below (ks BK709) hb);replace HB:=am (below_step (bs HB) hb);(try clear hb);(try clear hb2);(try clear hk);(try clear hi);(try clear ho0);(try clear ho1);replace H:=bo H;obtain ⟨t721,A10,H⟩:=H;obtain ⟨Ao11,co11,eo11⟩:=Kd.R_slice HO717.out;subst eo11;obtain ⟨Ao12,co12,eo12⟩:=Kd.R_slice HO720.out;subst eo12
  try go_wp2_with (fail)
  go_at_call 9;(with_reducible refine (spec_PaperRight.calls k t711 t712 t713 t714 _ _ t715 _ _ t718 t721 _ ?side1 ?side2 ?side3 ?side4 A10.out).mono ?_);(case side1=>repeat (first|exact (Kd.R_reads' HO717.out).2.2|(with_reducible refine Kd.C_alloc ?_ _)|(with_reducible refine Kd.C_drewN ?_ _)|(with_reducible refine Kd.C_drew ?_)));(case side2=>exact (Kd.R_reads' HO717.out).2.1);(case side3=>repeat (first|exact (Kd.R_reads' HO720.out).2.2|(with_reducible refine Kd.C_alloc ?_ _)|(with_reducible refine Kd.C_drewN ?_ _)|(with_reducible refine Kd.C_drew ?_)));(case side4=>exact (Kd.R_reads' HO720.out).2.1);rintro e w13 ⟨rfl,hb⟩;replace HO717:=am (Kd.R_below (rs HO717) hb);replace HO720:=am (Kd.R_below (rs HO720) hb);replace BK709:=am (blk_below (ks BK709) hb);replace HB:=am (below_step (bs HB) hb);(try clear hb);(try clear hb2);(try clear hk);(try clear hi);replace H:=bo H;obtain ⟨⟨t722,t723,t724,t725,t726,t729⟩,A14,H⟩:=H;(try dsimp only at H);have hcz15:=cf6 BK709
  try go_wp2_with (fail)
  go_at_call 10;(with_reducible refine (laws_toPaper.calls k a0_0 a0_1 a0_2 a0_3 _ _ l0_4 _ _ l0_5 t722 t723 t724 t725 t726 t729 _ (Kd.C_below HR0_4.out (bs HB)) HC0_4.out (Kd.C_below HR0_5.out (bs HB)) HC0_5.out A14.out).mono ?_);rintro e w16 ⟨v727,v730,rfl,ho0,ho1,hb⟩;have HO728:=am (Kd.R_lower (Kd.R_new' ho0 (Kd.R_lt (rs HO717))) (below_size (bs HB)));replace HO717:=am (Kd.R_elder' (rs HO717) (Kd.R_base ho0) hb);have HO731:=am (Kd.R_lower (Kd.R_new' ho1 (Kd.R_lt (rs HO720))) (below_size (bs HB)));replace HO720:=am (Kd.R_elder' (rs HO720) (Kd.R_base ho1) hb);replace BK709:=am (blk_below (ks BK709) hb);replace HB:=am (below_step (bs HB) hb);(try clear hb);(try clear hb2);(try clear hk);(try clear hi);(try clear ho0);(try clear ho1);replace H:=bo H;obtain ⟨t733,A17,H⟩:=H
  try go_wp2_with (first|((with_reducible refine gate_dst (N:=5) rfl ?_);refine bx 5 (cs:=#[.int .i64 0,.string (⟨#[]⟩:ByteArray),.string (⟨#[]⟩:ByteArray),.int .i64 0,.slice none 0 0,.slice none 0 0]) (t:=30) ?_;intro gb732 hg w18 hbox hb;replace HO717:=am (Kd.R_below (rs HO717) hb);replace HO720:=am (Kd.R_below (rs HO720) hb);replace HO728:=am (Kd.R_below (rs HO728) hb);replace HO731:=am (Kd.R_below (rs HO731) hb);have BK732:=am (hbox);have GW732:=am ((gs hg (bs HB)));have GE732:=am ((gs hg (bs HB)));replace HB:=am (below_step (bs HB) hb);have NB709_732:=am ((gn hg (ks BK709)));have NB732_709:=am ((gm hg (ks BK709)));replace BK709:=am (blk_below (ks BK709) hb);clear hb hbox hg;have hnb19:=NB732_709.out;have hnc19:=NB709_732.out;have hcz20:=cf6 BK732;obtain ⟨Ao21,co21,eo21⟩:=Kd.R_slice HO728.out;subst eo21;obtain ⟨Ao22,co22,eo22⟩:=Kd.R_slice HO731.out;subst eo22))
  go_at_call 11;(with_reducible refine (impl_PaperRight.calls k t722 t723 t724 t725 _ _ t726 _ _ t729 t733 _ ?side1 ?side2 ?side3 ?side4 (tbC HTC (bs HB)) (tbF HTF (bs HB)) (tbP HTP (bs HB)) A17.out).mono ?_);(case side1=>refine (Kd.R_reads' (e:=9) (base:=w.heap.size) (ok:=fun k_=>(True∧some k_≠(.slice Ao11 t715.length co11:Value).ownBlock)) (n:=t726.length) (c:=co21) ?_).2.2;exact (by (with_reducible repeat (first|apply Kd.R_alloc|apply Kd.R_drewN|apply Kd.R_drew));exact (Kd.R_mono (rf (Kd.R_types HO728.out BK732.out (by decide))) (fun _ h_=>h_.1))));(case side2=>exact (Kd.R_reads' HO728.out).2.1);(case side3=>refine (Kd.R_reads' (e:=71) (base:=w.heap.size) (ok:=fun k_=>(True∧some k_≠(.slice Ao12 t718.length co12:Value).ownBlock)) (n:=t729.length) (c:=co22) ?_).2.2;exact (by (with_reducible repeat (first|apply Kd.R_alloc|apply Kd.R_drewN|apply Kd.R_drew));exact (Kd.R_mono (rf (Kd.R_types HO731.out BK732.out (by decide))) (fun _ h_=>h_.1))));(case side4=>exact (Kd.R_reads' HO731.out).2.1);rintro e w23 ⟨rfl,hb⟩;have n0_:=am (Kd.R_below (by (with_reducible repeat (first|apply Kd.R_alloc|apply Kd.R_drewN|apply Kd.R_drew));exact (Kd.R_mono (rf (Kd.R_types HO717.out BK732.out (by decide))) (fun _ h_=>h_.1))) hb);have n1_:=am (Kd.R_below (by (with_reducible repeat (first|apply Kd.R_alloc|apply Kd.R_drewN|apply Kd.R_drew));exact (Kd.R_mono (rf (Kd.R_types HO720.out BK732.out (by decide))) (fun _ h_=>h_.1))) hb);have n2_:=am (Kd.R_below (by (with_reducible repeat (first|apply Kd.R_alloc|apply Kd.R_drewN|apply Kd.R_drew));exact (Kd.R_mono (rf (Kd.R_types HO728.out BK732.out (by decide))) (fun _ h_=>h_.1))) hb);have n3_:=am (Kd.R_below (by (with_reducible repeat (first|apply Kd.R_alloc|apply Kd.R_drewN|apply Kd.R_drew));exact (Kd.R_mono (rf (Kd.R_types HO731.out BK732.out (by decide))) (fun _ h_=>h_.1))) hb);have n4_:=am (blk_below (ks BK709) hb);have n5_:=am (blk_below (g:=gb732) (o:=.cells #[.int .i64 t722,.string t723,.string t724,.int .i64 t725,.slice Ao21 t726.length co21,.slice Ao22 t729.length co22] 30 (0,0)) (kp BK732) hb);have n6_:=am (below_step (bs HB) hb);clear HO717;clear HO720;clear HO728;clear HO731;clear BK709;clear BK732;clear HB;have HO717:=n0_;have HO720:=n1_;have HO728:=n2_;have HO731:=n3_;have BK709:=n4_;have BK732:=n5_;have HB:=n6_;clear n0_ n1_ n2_ n3_ n4_ n5_ n6_;(try clear hb);(try clear hb2);(try clear hk);(try clear hi)
  revert H;refine ip2 ?_ ?_
  ·intro c24 H;have c24b0:(t733 != t721)=true:=c24
   (try (have c24b1:decide (t733=t721)=false:=by simpa using c24))
   (try (have c24b2:(t733 == t721)=false:=by simpa using c24))
   (try (have c24b3:¬ (t733=t721):=by simpa using c24))
   clear c24;obtain rfl:=si H
   go_wp2
   go_ret
   exact ⟨ff,bs HB⟩
  ·intro c24 H
   have c24b0:(t733 != t721)=false:=by simpa using c24
   (try (have c24b1:decide (t733=t721)=true:=by simpa using c24))
   (try (have c24b2:(t733 == t721)=true:=by simpa using c24))
   clear c24;replace H:=bo H;obtain ⟨⟨t734,t735,t736,t737,t738,t741⟩,A25,H⟩:=H;(try dsimp only at H);replace H:=bo H;obtain ⟨t744,A26,H⟩:=H
   obtain rfl|rfl:=bt t744
   ·replace H:=itT H;obtain rfl:=si H
    try go_wp2
    replace HO717:=am (Kd.R_drew HO717.out);replace HO720:=am (Kd.R_drew HO720.out);replace HO728:=am (Kd.R_drew HO728.out);replace HO731:=am (Kd.R_drew HO731.out);replace BK709:=am (blk_drew BK709.out);replace BK732:=am (blk_drew BK732.out);replace HB:=am (below_drew1 HB.out);refine sta 5 (hb6a BK732 (hb6 BK709)) (fun hHeld=>?_)
    generalize w23.drew=w28 at HO717 HO720 HO728 HO731 BK709 BK732 HB hHeld ⊢
    refine take_ (i:=0) (N:=some 22) (v:=?_) (a':=?_) #[true,false,false,false,false] rfl rfl (by kernel_rfl) (fun _ _ _ h=>h) (Or.inl ⟨by rfl,?_⟩) hHeld ?_ ?_
    rotate_left
    ·rintro w' ⟨s0,s1,s2,s3,s4,s5,s6,s7,s8,s9,s10,s11⟩
     go_simp
     (with_reducible rfl)
    rotate_left
    ·simp only [Act.put,List.setIfInBounds_toArray,List.set_cons_zero,List.set_cons_succ,i64_w,i32_w]
     rfl
    refine take_ (i:=1) (N:=some 23) (v:=?_) (a':=?_) #[true,true,false,false,false] rfl rfl (by kernel_rfl) (fun _ _ _ h=>h) (Or.inl ⟨by rfl,?_⟩) hHeld ?_ ?_
    rotate_left
    ·rintro w' ⟨s0,s1,s2,s3,s4,s5,s6,s7,s8,s9,s10,s11⟩
     go_simp
     (with_reducible rfl)
    rotate_left
    ·simp only [Act.put,List.setIfInBounds_toArray,List.set_cons_zero,List.set_cons_succ,i64_w,i32_w]
     rfl
    refine one_ (i:=2) (N:=some 24) #[true,true,true,false,false] rfl rfl (by kernel_rfl) (by decide) (fun K hK=>?_);refine gA Tryz.func10 #[.agg #[.int .i64 a0_0,.string a0_1,.string a0_2,.int .i64 a0_3,.slice A0_4 l0_4.length c0_4,.slice A0_5 l0_5.length c0_5]] ?_;(with_reducible refine (laws_toPaper.calls k a0_0 a0_1 a0_2 a0_3 _ _ l0_4 _ _ l0_5 t734 t735 t736 t737 t738 t741 _ ?side1 ?side2 ?side3 ?side4 A25.out).mono ?_)
    (case side1=>repeat (first|exact (Kd.C_below HR0_4.out HB.out)|(with_reducible refine Kd.C_alloc ?_ _)|(with_reducible refine Kd.C_drewN ?_ _)|(with_reducible refine Kd.C_drew ?_)))
    (case side2=>exact HC0_4.out)
    (case side3=>repeat (first|exact (Kd.C_below HR0_5.out HB.out)|(with_reducible refine Kd.C_alloc ?_ _)|(with_reducible refine Kd.C_drewN ?_ _)|(with_reducible refine Kd.C_drew ?_)))
    (case side4=>exact HC0_5.out)
    rintro e w29 ⟨v739,v742,rfl,ho0,ho1,hb⟩;refine ⟨_,rfl,?_⟩;have HO740:=am (Kd.R_lower (Kd.R_new' (Kd.R_new' ho0 (Kd.R_lt (rs HO717))) (Kd.R_lt (rs HO728))) (below_size (bs HB)));replace HO717:=am (Kd.R_elder' (rs HO717) (Kd.R_base ho0) hb);replace HO728:=am (Kd.R_elder' (rs HO728) (Kd.R_base ho0) hb);have HO743:=am (Kd.R_lower (Kd.R_new' (Kd.R_new' ho1 (Kd.R_lt (rs HO720))) (Kd.R_lt (rs HO731))) (below_size (bs HB)));replace HO720:=am (Kd.R_elder' (rs HO720) (Kd.R_base ho1) hb);replace HO731:=am (Kd.R_elder' (rs HO731) (Kd.R_base ho1) hb);replace BK709:=am (blk_below (ks BK709) hb);replace BK732:=am (blk_below (ks BK732) hb);replace HB:=am (below_step (bs HB) hb);(try clear hb);(try clear hb2);(try clear hk);(try clear hi);(try clear ho0);(try clear ho1);obtain ⟨Ao30,co30,eo30⟩:=Kd.R_slice HO740.out
    (first|subst eo30|(injection eo30 with f1_ f2_ f3_;have f4_:=f1_.symm;have f5_:=f3_.symm;clear f1_ f2_ f3_;subst f4_;subst f5_))
    obtain ⟨Ao31,co31,eo31⟩:=Kd.R_slice HO743.out
    (first|subst eo31|(injection eo31 with f1_ f2_ f3_;have f4_:=f1_.symm;have f5_:=f3_.symm;clear f1_ f2_ f3_;subst f4_;subst f5_))
    refine hK.out _ _ (hb6a BK732 (hb6 BK709)).out (fun hHeld=>?_);clear hK K;refine nA 24 ?_;refine one_ (i:=3) (N:=some 25) #[true,true,true,true,false] rfl rfl (by kernel_rfl) (by decide) (fun K hK=>?_);refine gA Tryz.func12 #[.agg #[.int .i64 t722,.string t723,.string t724,.int .i64 t725,.slice Ao21 t726.length co21,.slice Ao22 t729.length co22],.agg #[.int .i64 t734,.string t735,.string t736,.int .i64 t737,.slice Ao30 t738.length co30,.slice Ao31 t741.length co31]] ?_;(with_reducible refine (laws_eqPaper.calls k t722 t723 t724 t725 _ _ t726 _ _ t729 t734 t735 t736 t737 _ _ t738 _ _ t741 true _ ?side1 ?side2 ?side3 ?side4 ?side5 ?side6 ?side7 ?side8 A26.out).mono ?_)
    (case side1=>repeat (first|exact (Kd.R_reads' HO728.out).2.2|(with_reducible refine Kd.C_alloc ?_ _)|(with_reducible refine Kd.C_drewN ?_ _)|(with_reducible refine Kd.C_drew ?_)))
    (case side2=>exact (Kd.R_reads' HO728.out).2.1)
    (case side3=>repeat (first|exact (Kd.R_reads' HO731.out).2.2|(with_reducible refine Kd.C_alloc ?_ _)|(with_reducible refine Kd.C_drewN ?_ _)|(with_reducible refine Kd.C_drew ?_)))
    (case side4=>exact (Kd.R_reads' HO731.out).2.1)
    (case side5=>repeat (first|exact (Kd.R_reads' HO740.out).2.2|(with_reducible refine Kd.C_alloc ?_ _)|(with_reducible refine Kd.C_drewN ?_ _)|(with_reducible refine Kd.C_drew ?_)))
    (case side6=>exact (Kd.R_reads' HO740.out).2.1)
    (case side7=>repeat (first|exact (Kd.R_reads' HO743.out).2.2|(with_reducible refine Kd.C_alloc ?_ _)|(with_reducible refine Kd.C_drewN ?_ _)|(with_reducible refine Kd.C_drew ?_)))
    (case side8=>exact (Kd.R_reads' HO743.out).2.1)
    rintro e w32 ⟨rfl,hb⟩;refine ⟨_,rfl,?_⟩;replace HO717:=am (Kd.R_below (rs HO717) hb);replace HO720:=am (Kd.R_below (rs HO720) hb);replace HO728:=am (Kd.R_below (rs HO728) hb);replace HO731:=am (Kd.R_below (rs HO731) hb);replace HO740:=am (Kd.R_below (rs HO740) hb);replace HO743:=am (Kd.R_below (rs HO743) hb);replace BK709:=am (blk_below (ks BK709) hb);replace BK732:=am (blk_below (ks BK732) hb);replace HB:=am (below_step (bs HB) hb);(try clear hb);(try clear hb2);(try clear hk);(try clear hi);refine hK.out _ _ (hb6a BK732 (hb6 BK709)).out (fun hHeld=>?_);clear hK K;refine nA 25 ?_;refine pure_ (i:=4) (N:=some 26) (v:=?_) (a':=?_) #[true,true,true,true,true] rfl rfl (by kernel_rfl) (fun _ _ _ h=>h) (Or.inl ⟨by rfl,?_⟩) ?_ ?_
    rotate_left
    ·intro w'
     go_simp
     (with_reducible rfl)
    rotate_left
    ·simp only [Act.put,List.setIfInBounds_toArray,List.set_cons_zero,List.set_cons_succ,i64_w,i32_w]
     rfl
    refine done_ (by kernel_rfl) ?_
    try go_wp2
    go_ret
    exact ⟨ff,bs HB⟩
   ·replace H:=itF H;obtain rfl:=si H
    try go_wp2
    replace HO717:=am (Kd.R_drew HO717.out);replace HO720:=am (Kd.R_drew HO720.out);replace HO728:=am (Kd.R_drew HO728.out);replace HO731:=am (Kd.R_drew HO731.out);replace BK709:=am (blk_drew BK709.out);replace BK732:=am (blk_drew BK732.out);replace HB:=am (below_drew1 HB.out);refine sta 5 (hb6a BK732 (hb6 BK709)) (fun hHeld=>?_)
    generalize w23.drew=w33 at HO717 HO720 HO728 HO731 BK709 BK732 HB hHeld ⊢
    refine take_ (i:=0) (N:=some 22) (v:=?_) (a':=?_) #[true,false,false,false,false] rfl rfl (by kernel_rfl) (fun _ _ _ h=>h) (Or.inl ⟨by rfl,?_⟩) hHeld ?_ ?_
    rotate_left
    ·rintro w' ⟨s0,s1,s2,s3,s4,s5,s6,s7,s8,s9,s10,s11⟩
     go_simp
     (with_reducible rfl)
    rotate_left
    ·simp only [Act.put,List.setIfInBounds_toArray,List.set_cons_zero,List.set_cons_succ,i64_w,i32_w]
     rfl
    refine take_ (i:=1) (N:=some 23) (v:=?_) (a':=?_) #[true,true,false,false,false] rfl rfl (by kernel_rfl) (fun _ _ _ h=>h) (Or.inl ⟨by rfl,?_⟩) hHeld ?_ ?_
    rotate_left
    ·rintro w' ⟨s0,s1,s2,s3,s4,s5,s6,s7,s8,s9,s10,s11⟩
     go_simp
     (with_reducible rfl)
    rotate_left
    ·simp only [Act.put,List.setIfInBounds_toArray,List.set_cons_zero,List.set_cons_succ,i64_w,i32_w]
     rfl
    refine one_ (i:=2) (N:=some 24) #[true,true,true,false,false] rfl rfl (by kernel_rfl) (by decide) (fun K hK=>?_);refine gA Tryz.func10 #[.agg #[.int .i64 a0_0,.string a0_1,.string a0_2,.int .i64 a0_3,.slice A0_4 l0_4.length c0_4,.slice A0_5 l0_5.length c0_5]] ?_;(with_reducible refine (laws_toPaper.calls k a0_0 a0_1 a0_2 a0_3 _ _ l0_4 _ _ l0_5 t734 t735 t736 t737 t738 t741 _ ?side1 ?side2 ?side3 ?side4 A25.out).mono ?_)
    (case side1=>repeat (first|exact (Kd.C_below HR0_4.out HB.out)|(with_reducible refine Kd.C_alloc ?_ _)|(with_reducible refine Kd.C_drewN ?_ _)|(with_reducible refine Kd.C_drew ?_)))
    (case side2=>exact HC0_4.out)
    (case side3=>repeat (first|exact (Kd.C_below HR0_5.out HB.out)|(with_reducible refine Kd.C_alloc ?_ _)|(with_reducible refine Kd.C_drewN ?_ _)|(with_reducible refine Kd.C_drew ?_)))
    (case side4=>exact HC0_5.out)
    rintro e w34 ⟨v739,v742,rfl,ho0,ho1,hb⟩;refine ⟨_,rfl,?_⟩;have HO740:=am (Kd.R_lower (Kd.R_new' (Kd.R_new' ho0 (Kd.R_lt (rs HO717))) (Kd.R_lt (rs HO728))) (below_size (bs HB)));replace HO717:=am (Kd.R_elder' (rs HO717) (Kd.R_base ho0) hb);replace HO728:=am (Kd.R_elder' (rs HO728) (Kd.R_base ho0) hb);have HO743:=am (Kd.R_lower (Kd.R_new' (Kd.R_new' ho1 (Kd.R_lt (rs HO720))) (Kd.R_lt (rs HO731))) (below_size (bs HB)));replace HO720:=am (Kd.R_elder' (rs HO720) (Kd.R_base ho1) hb);replace HO731:=am (Kd.R_elder' (rs HO731) (Kd.R_base ho1) hb);replace BK709:=am (blk_below (ks BK709) hb);replace BK732:=am (blk_below (ks BK732) hb);replace HB:=am (below_step (bs HB) hb);(try clear hb);(try clear hb2);(try clear hk);(try clear hi);(try clear ho0);(try clear ho1);obtain ⟨Ao35,co35,eo35⟩:=Kd.R_slice HO740.out
    (first|subst eo35|(injection eo35 with f1_ f2_ f3_;have f4_:=f1_.symm;have f5_:=f3_.symm;clear f1_ f2_ f3_;subst f4_;subst f5_))
    obtain ⟨Ao36,co36,eo36⟩:=Kd.R_slice HO743.out
    (first|subst eo36|(injection eo36 with f1_ f2_ f3_;have f4_:=f1_.symm;have f5_:=f3_.symm;clear f1_ f2_ f3_;subst f4_;subst f5_))
    refine hK.out _ _ (hb6a BK732 (hb6 BK709)).out (fun hHeld=>?_);clear hK K;refine nA 24 ?_;refine one_ (i:=3) (N:=some 25) #[true,true,true,true,false] rfl rfl (by kernel_rfl) (by decide) (fun K hK=>?_);refine gA Tryz.func12 #[.agg #[.int .i64 t722,.string t723,.string t724,.int .i64 t725,.slice Ao21 t726.length co21,.slice Ao22 t729.length co22],.agg #[.int .i64 t734,.string t735,.string t736,.int .i64 t737,.slice Ao35 t738.length co35,.slice Ao36 t741.length co36]] ?_;(with_reducible refine (laws_eqPaper.calls k t722 t723 t724 t725 _ _ t726 _ _ t729 t734 t735 t736 t737 _ _ t738 _ _ t741 false _ ?side1 ?side2 ?side3 ?side4 ?side5 ?side6 ?side7 ?side8 A26.out).mono ?_)
    (case side1=>repeat (first|exact (Kd.R_reads' HO728.out).2.2|(with_reducible refine Kd.C_alloc ?_ _)|(with_reducible refine Kd.C_drewN ?_ _)|(with_reducible refine Kd.C_drew ?_)))
    (case side2=>exact (Kd.R_reads' HO728.out).2.1)
    (case side3=>repeat (first|exact (Kd.R_reads' HO731.out).2.2|(with_reducible refine Kd.C_alloc ?_ _)|(with_reducible refine Kd.C_drewN ?_ _)|(with_reducible refine Kd.C_drew ?_)))
    (case side4=>exact (Kd.R_reads' HO731.out).2.1)
    (case side5=>repeat (first|exact (Kd.R_reads' HO740.out).2.2|(with_reducible refine Kd.C_alloc ?_ _)|(with_reducible refine Kd.C_drewN ?_ _)|(with_reducible refine Kd.C_drew ?_)))
    (case side6=>exact (Kd.R_reads' HO740.out).2.1)
    (case side7=>repeat (first|exact (Kd.R_reads' HO743.out).2.2|(with_reducible refine Kd.C_alloc ?_ _)|(with_reducible refine Kd.C_drewN ?_ _)|(with_reducible refine Kd.C_drew ?_)))
    (case side8=>exact (Kd.R_reads' HO743.out).2.1)
    rintro e w37 ⟨rfl,hb⟩;refine ⟨_,rfl,?_⟩;replace HO717:=am (Kd.R_below (rs HO717) hb);replace HO720:=am (Kd.R_below (rs HO720) hb);replace HO728:=am (Kd.R_below (rs HO728) hb);replace HO731:=am (Kd.R_below (rs HO731) hb);replace HO740:=am (Kd.R_below (rs HO740) hb);replace HO743:=am (Kd.R_below (rs HO743) hb);replace BK709:=am (blk_below (ks BK709) hb);replace BK732:=am (blk_below (ks BK732) hb);replace HB:=am (below_step (bs HB) hb);(try clear hb);(try clear hb2);(try clear hk);(try clear hi);refine hK.out _ _ (hb6a BK732 (hb6 BK709)).out (fun hHeld=>?_);clear hK K;refine nA 25 ?_;refine pure_ (i:=4) (N:=some 26) (v:=?_) (a':=?_) #[true,true,true,true,true] rfl rfl (by kernel_rfl) (fun _ _ _ h=>h) (Or.inl ⟨by rfl,?_⟩) ?_ ?_
    rotate_left
    ·intro w'
     go_simp
     (with_reducible rfl)
    rotate_left
    ·simp only [Act.put,List.setIfInBounds_toArray,List.set_cons_zero,List.set_cons_succ,i64_w,i32_w]
     rfl
    refine done_ (by kernel_rfl) ?_
    try go_wp2
    go_ret
    exact ⟨ff,bs HB⟩
end Go.Proofs.YtogkcllenfkdmaaGreatDoor.QR
namespace Go.Proofs.YtogkcllenfkdmaaGreatDoor.Rd
open Go.RowKit Go.ChangeShapes Go.WideShapes Go.Proofs.YtogkcllenfkdmaaGreatDoorW.PrintWords
def Rd (P:Program) (t:TypeId) {α:Type} (d:Kd α) (wf:α→Prop):Prop :=
 ∀ (H:Type) (enc:TypeId × Value→H) (w:World) (base:Nat) (sp:Nat→Bool) (held:Bool) (fuel:Nat) (cs:List Value) (x:DataW H × List MemPlace),
  DataW.trod enc P w base sp held fuel t cs=some x→∃ a:α,d.K w a cs∧wf a
def RdF (P:Program) (fs:List Field) (off:Nat) {α:Type} (d:Kd α) (wf:α→Prop):Prop :=
 ∀ (H:Type) (enc:TypeId × Value→H) (w:World) (base:Nat) (sp:Nat→Bool) (held:Bool) (n:Nat) (cs:List Value),
  cs.length=off+d.sz→(∀ f ∈ fs,∃ y,DataW.trod enc P w base sp held n f.type ((cs.drop f.offset).take (P.cellsOf f.type))=some y)→∃ a:α,d.K w a (cs.drop off)∧wf a
def WfInt (k:IntKind) (n:Int):Prop:=(Lit.int k n).wf=true
def WfStr (s:ByteArray):Prop:=s.size≤maxLen
def WfRow {α:Type} (wf:α→Prop) (l:List α):Prop:=l.length≤maxLen∧∀ x ∈ l,wf x
theorem rd_int {P:Program} {t:TypeId} {k:IntKind} (hu:P.underlying t=some (.int k)):Rd P t (Kd.int k) (WfInt k):=by
 intro H enc w base sp held fuel cs x h
 cases fuel with
 | zero=>simp [DataW.trod] at h
 | succ n =>
  match cs with
  | [.int k' m] =>
   simp only [DataW.trod,hu] at h
   split at h
   ·rename_i hk
    obtain ⟨rfl,hw⟩:=hk
    exact ⟨m,rfl,hw⟩
   ·cases h
  | []=>simp [DataW.trod,hu] at h
  | [.bool _]=>simp [DataW.trod,hu] at h
  | [.float _ _]=>simp [DataW.trod,hu] at h
  | [.complex _ _ _]=>simp [DataW.trod,hu] at h
  | [.string _]=>simp [DataW.trod,hu] at h
  | [.pointer _]=>simp [DataW.trod,hu] at h
  | [.slice _ _ _]=>simp [DataW.trod,hu] at h
  | [.map _]=>simp [DataW.trod,hu] at h
  | [.chan _]=>simp [DataW.trod,hu] at h
  | [.func _ _ _]=>simp [DataW.trod,hu] at h
  | [.nilFunc]=>simp [DataW.trod,hu] at h
  | [.iface _ _]=>simp [DataW.trod,hu] at h
  | [.nilIface]=>simp [DataW.trod,hu] at h
  | [.agg _]=>simp [DataW.trod,hu] at h
  | [.tuple _]=>simp [DataW.trod,hu] at h
  | _ :: _ :: _=>simp [DataW.trod,hu] at h
theorem rd_str {P:Program} {t:TypeId} (hu:P.underlying t=some .string):Rd P t Kd.string WfStr:=by
 intro H enc w base sp held fuel cs x h
 cases fuel with
 | zero=>simp [DataW.trod] at h
 | succ n =>
  match cs with
  | [.string s] =>
   simp only [DataW.trod,hu] at h
   split at h
   ·rename_i hk
    exact ⟨s,rfl,hk⟩
   ·cases h
  | []=>simp [DataW.trod,hu] at h
  | [.int _ _]=>simp [DataW.trod,hu] at h
  | [.bool _]=>simp [DataW.trod,hu] at h
  | [.float _ _]=>simp [DataW.trod,hu] at h
  | [.complex _ _ _]=>simp [DataW.trod,hu] at h
  | [.pointer _]=>simp [DataW.trod,hu] at h
  | [.slice _ _ _]=>simp [DataW.trod,hu] at h
  | [.map _]=>simp [DataW.trod,hu] at h
  | [.chan _]=>simp [DataW.trod,hu] at h
  | [.func _ _ _]=>simp [DataW.trod,hu] at h
  | [.nilFunc]=>simp [DataW.trod,hu] at h
  | [.iface _ _]=>simp [DataW.trod,hu] at h
  | [.nilIface]=>simp [DataW.trod,hu] at h
  | [.agg _]=>simp [DataW.trod,hu] at h
  | [.tuple _]=>simp [DataW.trod,hu] at h
  | _ :: _ :: _=>simp [DataW.trod,hu] at h
theorem rdF_last {P:Program} {f:Field} {off:Nat} {α:Type} {d:Kd α} {wf:α→Prop} (h:Rd P f.type d wf) (ho:f.offset=off) (hc:P.cellsOf f.type=d.sz):RdF P [f] off d wf:=by
 intro H enc w base sp held n cs hl hy
 obtain ⟨y,hy⟩:=hy f (List.mem_singleton.2 rfl)
 rw [ho,hc,List.take_of_length_le (by rw [List.length_drop];omega)] at hy
 exact h H enc w base sp held n _ y hy
theorem rdF_cons {P:Program} {f:Field} {fs:List Field} {off off2:Nat} {α β:Type} {d:Kd α} {e:Kd β} {wf:α→Prop} {wg:β→Prop} (h:Rd P f.type d wf) (ho:f.offset=off) (hc:P.cellsOf f.type=d.sz)
  (h2:off2=off+d.sz) (hs:RdF P fs off2 e wg):RdF P (f :: fs) off (Kd.pair d e) (fun x=>wf x.1∧wg x.2):=by
 intro H enc w base sp held n cs hl hy
 obtain ⟨y,hy1⟩:=hy f (List.mem_cons_self ..)
 have hl':cs.length=off+(d.sz+e.sz):=hl
 obtain ⟨a,ha,hwa⟩:=h H enc w base sp held n _ y hy1
 obtain ⟨b,hb,hwb⟩:=hs H enc w base sp held n cs (by omega) (fun g hg=>hy g (List.mem_cons_of_mem _ hg))
 rw [ho,hc] at ha
 refine ⟨(a,b),⟨_,_,?_,ha,hb⟩,hwa,hwb⟩
 rw [h2,← List.drop_drop,List.take_append_drop]
theorem rd_struct {P:Program} {t:TypeId} {fs:Array Field} {α β:Type} {d:Kd α} {wf:α→Prop} {wg:β→Prop} (g:β→α) (gi:α→β) (hg:∀ a,g (gi a)=a) (hwg:∀ a,wf a→wg (gi a))
  (hu:P.underlying t=some (.struct fs)) (hc:P.cellsOf t=d.sz) (hF:RdF P fs.toList 0 d wf):Rd P t (Kd.iso d g) wg:=by
 intro H enc w base sp held fuel cs x h
 obtain ⟨xs,n,_,rfl,hl,hlen,hf⟩:=DataW.trod_struct hu h
 obtain ⟨a,ha,hwa⟩:=hF H enc w base sp held n cs (by omega) (fun f hfm=>by
  obtain ⟨i,hi,rfl⟩:=List.mem_iff_getElem.1 hfm
  have hi':i<fs.size:=by simpa using hi
  have z:=hf i (fs[i]) (by simp [hi'])
  rw [List.getElem?_eq_getElem (by omega)] at z
  exact ⟨_,by simpa using z⟩)
 refine ⟨gi a,?_,hwg a hwa⟩
 show d.K w (g (gi a)) cs
 rw [hg]
 simpa using ha
theorem rd_slice {P:Program} {t e:TypeId} {α:Type} {d:Kd α} {wf:α→Prop} (hu:P.underlying t=some (.slice e)) (hc:P.cellsOf e=d.sz) (hd:Rd P e d wf):Rd P t (Kd.slice e d) (WfRow wf):=by
 intro H enc w base sp held fuel cs x h
 rcases Go.Deep.open_slice hu h with ⟨rfl,_⟩ | ⟨a,len,cap,m,n,D,Pl,rfl,hb,hl,hm,hmm,_,hx⟩
 ·exact ⟨[],⟨none,0,rfl,Nat.le_refl _,rfl,by simp,fun h=>absurd h (by simp)⟩,by simp [maxLen],by simp⟩
 ·have hlm:len≤m:=by rw [hmm];split <;> omega
  have hall:∀ i,i<len→∃ cs',w.cells? base (a.add (i * P.cellsOf e)) (P.cellsOf e)=some cs'∧DataW.trod enc P w base sp held n e cs'=some (D i,Pl i):=fun i hi=>hx i (by omega)
  have key:∀ (k:Nat),k≤len→∃ l:List α,l.length=k∧(∀ x ∈ l,wf x)∧∀ j p,l[j]? = some p→∃ c,c.length=d.sz∧d.K w p c∧∀ i u,c[i]? = some u→w.cell? (a.add (j * d.sz+i))=some u:=by
   intro k
   induction k with
   | zero=>intro _;exact ⟨[],rfl,by simp,by simp⟩
   | succ k ih =>
    intro hk
    obtain ⟨l,hl1,hl2,hl3⟩:=ih (by omega)
    obtain ⟨cs',h1,h2⟩:=hall k (by omega)
    obtain ⟨b,hb1,hb2⟩:=hd H enc w base sp held n cs' _ h2
    refine ⟨l++[b],by simp [hl1],?_,?_⟩
    ·intro z hz
     rcases List.mem_append.1 hz with hz|hz
     ·exact hl2 z hz
     ·rw [List.mem_singleton.1 hz];exact hb2
    ·intro j p hj
     by_cases hjl:j<l.length
     ·rw [List.getElem?_append_left hjl] at hj
      exact hl3 j p hj
     ·rw [List.getElem?_append_right (by omega)] at hj
      have hj0:j - l.length=0:=by
       cases hz:j - l.length with
       | zero=>rfl
       | succ q=>rw [hz] at hj;simp at hj
      rw [hj0] at hj
      obtain rfl:b=p:=by simpa using hj
      have hjk:j=k:=by omega
      subst hjk
      refine ⟨cs',d.K_len hb1,hb1,fun i u hu'=>?_⟩
      obtain ⟨_,hlen',hcell⟩:=World.cells?_some h1
      have hi:i<cs'.length:=by
       rcases Nat.lt_or_ge i cs'.length with h|h
       ·exact h
       ·rw [List.getElem?_eq_none h] at hu';cases hu'
      have z:=hcell i (by omega)
      rw [hu',Go.Deep.add_add,hc] at z
      exact z
  obtain ⟨l,hl1,hl2,hl3⟩:=key len (Nat.le_refl _)
  refine ⟨l,⟨some a,cap,by rw [hl1],by omega,?_⟩,by rw [hl1];exact Nat.le_trans hl hm,hl2⟩
  exact ⟨rfl,by rw [hl1];have:cap≤2 ^ 63 - 1:=hm;omega,fun _=>⟨a,rfl,hl3⟩⟩
end Go.Proofs.YtogkcllenfkdmaaGreatDoor.Rd
namespace Go.Proofs.YtogkcllenfkdmaaGreatDoor.QR
open Go.RowKit Go.Proofs.YtogkcllenfkdmaaGreatDoor Go.Proofs.YtogkcllenfkdmaaGreatDoorW.PrintWords
def wf98 (x:S98):Prop:=(Rd.WfInt .i64) x.f0∧Rd.WfStr x.f1∧(Rd.WfInt .i64) x.f2∧(Rd.WfInt .i64) x.f3∧Rd.WfStr x.f4
def wf25 (x:S25):Prop:=(Rd.WfInt .i64) x.f0∧Rd.WfStr x.f1∧Rd.WfStr x.f2∧(Rd.WfInt .i64) x.f3∧(Rd.WfRow Rd.WfStr) x.f4∧(Rd.WfRow wf98) x.f5
set_option maxRecDepth 100000 in
theorem rd98:Rd.Rd Tryz.prog 98 k98 wf98:=Rd.rd_struct _ (fun a=>⟨a.1,a.2.1,a.2.2.1,a.2.2.2.1,a.2.2.2.2⟩) (fun _=>rfl) (fun _ h=>h) Tryz.underlying98 (by kernel_rfl) (Rd.rdF_cons (Rd.rd_int (Tryz.underlying2)) rfl (by kernel_rfl) (off2:=1) rfl (Rd.rdF_cons (Rd.rd_str (Tryz.underlying9)) rfl (by kernel_rfl) (off2:=2) rfl (Rd.rdF_cons (Rd.rd_int (Tryz.underlying2)) rfl (by kernel_rfl) (off2:=3) rfl (Rd.rdF_cons (Rd.rd_int (Tryz.underlying2)) rfl (by kernel_rfl) (off2:=4) rfl (Rd.rdF_last (Rd.rd_str (Tryz.underlying9)) rfl (by kernel_rfl))))))
set_option maxRecDepth 100000 in
theorem rd25:Rd.Rd Tryz.prog 25 k25 wf25:=Rd.rd_struct _ (fun a=>⟨a.1,a.2.1,a.2.2.1,a.2.2.2.1,a.2.2.2.2.1,a.2.2.2.2.2⟩) (fun _=>rfl) (fun _ h=>h) Tryz.underlying25 (by kernel_rfl) (Rd.rdF_cons (Rd.rd_int (Tryz.underlying2)) rfl (by kernel_rfl) (off2:=1) rfl (Rd.rdF_cons (Rd.rd_str (Tryz.underlying9)) rfl (by kernel_rfl) (off2:=2) rfl (Rd.rdF_cons (Rd.rd_str (Tryz.underlying9)) rfl (by kernel_rfl) (off2:=3) rfl (Rd.rdF_cons (Rd.rd_int (Tryz.underlying2)) rfl (by kernel_rfl) (off2:=4) rfl (Rd.rdF_cons (Rd.rd_slice Tryz.underlying22 (by kernel_rfl) (Rd.rd_str (Tryz.underlying9))) rfl (by kernel_rfl) (off2:=5) rfl (Rd.rdF_last (Rd.rd_slice Tryz.underlying23 (by kernel_rfl) rd98) rfl (by kernel_rfl)))))))
end Go.Proofs.YtogkcllenfkdmaaGreatDoor.QR
namespace Go.Proofs.YtogkcllenfkdmaaGreatDoor.QR
open Go.Proofs.YtogkcllenfkdmaaGreatDoor Go.Proofs.YtogkcllenfkdmaaGreatDoorW.PrintWords
def laws_FnExactPaperRight.Pure:Prop:=∀ (a0_0:Int) (a0_1:ByteArray) (a0_2:ByteArray) (a0_3:Int) (l0_4:List ByteArray) (l0_5:List (S98)),(Rd.WfInt .i64) a0_0→Rd.WfStr a0_1→Rd.WfStr a0_2→(Rd.WfInt .i64) a0_3→(Rd.WfRow Rd.WfStr) l0_4→(Rd.WfRow wf98) l0_5→∃ k,laws_FnExactPaperRight.f k a0_0 a0_1 a0_2 a0_3 l0_4 l0_5=some true
end Go.Proofs.YtogkcllenfkdmaaGreatDoor.QR
namespace Go.Proofs.YtogkcllenfkdmaaGreatDoor.Ev0
open Go.RowKit Go.Proofs.YtogkcllenfkdmaaGreatDoorW.PrintWords
def Evt {α:Type} (f:Nat→Option α) (r:α):Prop:=∃ K,∀ k,K≤k→f k=some r
namespace Evt
variable {α β : Type}
theorem const {o:Option α} {r:α} (h:o=some r):Evt (fun _=>o) r:=⟨0,fun _ _=>h⟩
theorem pure (r:α):Evt (fun _=>some r) r:=⟨0,fun _ _=>rfl⟩
theorem bind {f:Nat→Option α} {g:Nat→α→Option β} {a:α} {r:β} (h:Evt f a) (h2:Evt (fun k=>g k a) r):Evt (fun k=>(f k).bind (g k)) r:=by
 obtain ⟨K,hK⟩:=h
 obtain ⟨L,hL⟩:=h2
 refine ⟨K+L,fun k hk=>?_⟩
 show (f k).bind (g k)=some r
 rw [hK k (by omega)]
 exact hL k (by omega)
theorem succ {f:Nat→Option α} {r:α} (h:Evt (fun k=>f (k+1)) r):Evt f r:=by
 obtain ⟨K,hK⟩:=h
 refine ⟨K+1,fun k hk=>?_⟩
 obtain ⟨m,rfl⟩:∃ m,k=m+1:=⟨k - 1,by omega⟩
 exact hK m (by omega)
theorem pos {c:Prop} [Decidable c] {f g:Nat→Option α} {r:α} (hc:c) (h:Evt f r):Evt (fun k=>if c then f k else g k) r:=by
 simpa only [if_pos hc] using h
theorem neg {c:Prop} [Decidable c] {f g:Nat→Option α} {r:α} (hc:¬ c) (h:Evt g r):Evt (fun k=>if c then f k else g k) r:=by
 simpa only [if_neg hc] using h
theorem ite {c:Prop} [Decidable c] {f g:Nat→Option α} {r:α} (h1:c→Evt f r) (h2:¬ c→Evt g r):Evt (fun k=>if c then f k else g k) r:=by
 by_cases hc:c
 ·exact pos hc (h1 hc)
 ·exact neg hc (h2 hc)
theorem ex {f:Nat→Option α} {r:α} (h:Evt f r):∃ k,f k=some r:=by
 obtain ⟨K,hK⟩:=h
 exact ⟨K,hK K (Nat.le_refl _)⟩
theorem same {f:Nat→Option α} {r r':α} (h:Evt f r) (e:r=r'):Evt f r':=e ▸ h
end Evt
theorem w64 {x:Int} (h0 : -9223372036854775808≤x) (h1:x≤9223372036854775807):wrap64 x=x:=by
 unfold wrap64
 omega
noncomputable def B (p:Prop):Bool:=@decide p (Classical.propDecidable p)
theorem B_true {p:Prop} (h:p):B p=true:=by unfold B;exact @decide_eq_true p (Classical.propDecidable p) h
theorem B_false {p:Prop} (h:¬ p):B p=false:=by unfold B;exact @decide_eq_false p (Classical.propDecidable p) h
theorem B_iff {p:Prop} : B p=true ↔ p:=by unfold B;exact @decide_eq_true_iff p (Classical.propDecidable p)
theorem B_congr {p q:Prop} (h:p ↔ q):B p=B q:=by rw [propext h]
theorem decide_B (p:Prop) [Decidable p]:decide p=B p:=by
 by_cases h:p
 ·rw [decide_eq_true h,B_true h]
 ·rw [decide_eq_false h,B_false h]
theorem bool_B {b:Bool} {p:Prop} (h:b=true ↔ p):b=B p:=by
 cases b with
 | true=>exact (B_true (h.1 rfl)).symm
 | false=>exact (B_false (fun hp=>by simpa using h.2 hp)).symm
theorem and_ {c p q:Prop} [Decidable c] {f:Nat→Option Bool} (hc:c ↔ p) (h:p→Evt f (B q)):Evt (fun k=>if c then f k else some false) (B (p∧q)):=by
 by_cases e:c
 ·exact Evt.pos e ((h (hc.1 e)).same (B_congr ⟨fun x=>⟨hc.1 e,x⟩,fun x=>x.2⟩))
 ·exact Evt.neg e ((Evt.pure false).same (B_false (fun x=>e (hc.2 x.1))).symm)
theorem fail_ {c p q:Prop} [Decidable c] {f:Nat→Option Bool} (hc:c ↔ ¬ p) (h:p→Evt f (B q)):Evt (fun k=>if c then some false else f k) (B (p∧q)):=by
 by_cases e:c
 ·exact Evt.pos e ((Evt.pure false).same (B_false (fun x=>hc.1 e x.1)).symm)
 ·have hp:p:=Classical.not_not.1 (fun x=>e (hc.2 x))
  exact Evt.neg e ((h hp).same (B_congr ⟨fun x=>⟨hp,x⟩,fun x=>x.2⟩))
theorem last_ {p q:Prop} [Decidable p] (h:p ↔ q):Evt (fun _=>some (decide p)) (B q):=(Evt.pure _).same ((decide_B p).trans (B_congr h))
theorem up_loop {σ ρ:Type} (n:Int) (F:Nat→σ→Int→Option ρ) (st:Int→σ) (r:Int→ρ)
  (step:∀ i,0≤i→i<n→Evt (fun k=>F k (st (i+1)) (i+1)) (r (i+1))→Evt (fun k=>F (k+1) (st i) i) (r i))
  (stop:Evt (fun k=>F (k+1) (st n) n) (r n)) (i:Int) (h0:0≤i) (hn:i≤n):Evt (fun k=>F k (st i) i) (r i):=by
 have key:∀ (d:Nat) (i:Int),0≤i→i≤n→n - i≤d→Evt (fun k=>F k (st i) i) (r i):=by
  intro d
  induction d with
  | zero =>
   intro i h0 h1 hd
   obtain rfl:i=n:=by omega
   exact stop.succ
  | succ d ih =>
   intro i h0 h1 hd
   by_cases hlt:i<n
   ·exact (step i h0 hlt (ih (i+1) (by omega) (by omega) (by omega))).succ
   ·obtain rfl:i=n:=by omega
    exact stop.succ
 exact key (n - i).toNat i h0 hn (by omega)
def SzR (f:Nat→Option Int) (left:Int) (p:Prop):Prop:=∃ t,Evt f t∧(t<0∨(0≤t∧t≤left∧p))
theorem sz_loop (n:Nat) (hn:n≤9223372036854775807) (p:Int→Prop) (f:Nat→Option Int) (F:Nat→Int→Int→Option Int) (left:Int) (hl0:0≤left) (hl:left≤1048576)
  (hf:∀ k,f k=if wrap64 (left - (n:Int))<0 then some (-1) else F k (wrap64 (left - (n:Int))) 0)
  (step:∀ s i,0≤i→i<(n:Int)→0≤s→s≤1048576→(∃ r,r<0∧Evt (fun k=>F (k+1) s i) r)∨(∃ s',0≤s'∧s'≤s∧p i∧∀ r,Evt (fun k=>F k s' (i+1)) r→Evt (fun k=>F (k+1) s i) r))
  (stop:∀ s i,(n:Int)≤i→Evt (fun k=>F (k+1) s i) s):SzR f left (n≤1048576∧∀ i,0≤i→i<(n:Int)→p i):=by
 have hw:wrap64 (left - (n:Int))=left - (n:Int):=w64 (by omega) (by omega)
 by_cases h:left - (n:Int)<0
 ·refine ⟨-1,⟨0,fun k _=>?_⟩,.inl (by decide)⟩
  rw [hf,hw,if_pos h]
 ·have key:∀ (d:Nat) (s i:Int),0≤i→(n:Int) - i≤d→0≤s→s≤1048576→∃ t,Evt (fun k=>F k s i) t∧(t<0∨(0≤t∧t≤s∧∀ j,i≤j→j<(n:Int)→p j)):=by
   intro d
   induction d with
   | zero=>intro s i h0 hd hs0 hs1;exact ⟨s,(stop s i (by omega)).succ,.inr ⟨hs0,Int.le_refl _,fun j h1 h2=>absurd h2 (by omega)⟩⟩
   | succ d ih =>
    intro s i h0 hd hs0 hs1
    by_cases hlt:i<(n:Int)
    ·rcases step s i h0 hlt hs0 hs1 with ⟨r,hr0,hr⟩ | ⟨s',h1,h2,hp,hs⟩
     ·exact ⟨r,hr.succ,.inl hr0⟩
     ·obtain ⟨t,ht,h3⟩:=ih s' (i+1) (by omega) (by omega) h1 (by omega)
      refine ⟨t,(hs t ht).succ,h3.imp id (fun ⟨g0,g1,g2⟩=>⟨g0,by omega,fun j h1 h2=>?_⟩)⟩
      by_cases e:j=i
      ·rw [e];exact hp
      ·exact g2 j (by omega) h2
    ·exact ⟨s,(stop s i (by omega)).succ,.inr ⟨hs0,Int.le_refl _,fun j h1 h2=>absurd h2 (by omega)⟩⟩
  obtain ⟨t,⟨K,hK⟩,h3⟩:=key n (left - (n:Int)) 0 (Int.le_refl _) (by omega) (by omega) (by omega)
  refine ⟨t,⟨K,fun k hk=>?_⟩,h3.imp id (fun ⟨g0,g1,g2⟩=>⟨g0,by omega,by omega,g2⟩)⟩
  rw [hf,hw,if_neg h]
  exact hK k hk
theorem wsub {s a:Int} (hs0:0≤s) (hs1:s≤1048576) (ha0:0≤a) (ha:a≤9223372036854775807):wrap64 (s - a)=s - a:=w64 (by omega) (by omega)
theorem getD_at {α:Type} (l:List α) (z:α) (i:Nat) (h:i<l.length):l.getD i z=l[i]:=by
 rw [List.getD_eq_getElem?_getD,List.getElem?_eq_getElem h]
 rfl
theorem fill_loop {α β:Type} (l:List α) (zα:α) (z:β) (g:α→β) (F:Nat→List β→Int→Option (List β))
  (step:∀ acc i,0≤i→i<(l.length:Int)→acc.length=l.length→∀ r,Evt (fun k=>F k (acc.set i.toNat (g (l.getD i.toNat zα))) (i+1)) r→Evt (fun k=>F (k+1) acc i) r)
  (stop:∀ acc i,(l.length:Int)≤i→Evt (fun k=>F (k+1) acc i) acc):Evt (fun k=>F k (List.replicate l.length z) 0) (l.map g):=by
 have h:=up_loop (l.length:Int) F (fun i=>(l.take i.toNat).map g++List.replicate (l.length - i.toNat) z) (fun _=>l.map g) ?_ ?_ 0 (Int.le_refl _) (by omega)
 ·simpa using h
 ·intro i h0 hlt ih
  refine step _ i h0 hlt (by simp;omega) _ ?_
  have hi:i.toNat<l.length:=by omega
  have e:((l.take i.toNat).map g++List.replicate (l.length - i.toNat) z).set i.toNat (g (l.getD i.toNat zα))=(l.take (i+1).toNat).map g++List.replicate (l.length - (i+1).toNat) z:=by
   have e1:(i+1).toNat=i.toNat+1:=by omega
   rw [e1,List.take_succ_eq_append_getElem hi,List.map_append,getD_at l zα _ hi,List.set_append_right _ _ (by simp;omega)]
   have e2:l.length - i.toNat=(l.length - (i.toNat+1))+1:=by omega
   have e3:i.toNat - ((l.take i.toNat).map g).length=0:=by simp;omega
   rw [e2,e3,List.replicate_succ]
   simp
  rw [e]
  exact ih
 ·have h:=stop ((l.take ((l.length:Int)).toNat).map g++List.replicate (l.length - ((l.length:Int)).toNat) z) (l.length:Int) (Int.le_refl _)
  refine h.same ?_
  simp
theorem all_loop (n:Int) (h0:0≤n) (F:Nat→Int→Option Bool) (step:∀ i,0≤i→i<n→Evt (fun k=>F k (i+1)) true→Evt (fun k=>F (k+1) i) true)
  (stop:Evt (fun k=>F (k+1) n) true):Evt (fun k=>F k 0) true :=
 up_loop n (fun k (_:Unit) i=>F k i) (fun _=>()) (fun _=>true) step stop 0 (Int.le_refl _) h0
theorem right_loop (n:Int) (hn:0≤n) (ok:Int→Prop) (q:Prop) (F:Nat→Int→Option Bool)
  (step:∀ i,0≤i→i<n→(ok i→∀ r,Evt (fun k=>F k (i+1)) r→Evt (fun k=>F (k+1) i) r)∧(¬ ok i→Evt (fun k=>F (k+1) i) false))
  (stop:Evt (fun k=>F (k+1) n) (B q)):Evt (fun k=>F k 0) (B ((∀ i,0≤i→i<n→ok i)∧q)):=by
 have h:=up_loop n (fun k (_:Unit) i=>F k i) (fun _=>()) (fun i=>B ((∀ j,i≤j→j<n→ok j)∧q)) ?_ ?_ 0 (Int.le_refl _) hn
 ·exact h
 ·intro i h0 hlt ih
  by_cases hk:ok i
  ·refine ((step i h0 hlt).1 hk _ ih).same (B_congr ⟨fun h=>⟨fun j h1 h2=>?_,h.2⟩,fun h=>⟨fun j h1 h2=>h.1 j (by omega) h2,h.2⟩⟩)
   by_cases e:j=i
   ·rw [e];exact hk
   ·exact h.1 j (by omega) h2
  ·exact ((step i h0 hlt).2 hk).same (B_false (fun h=>hk (h.1 i (Int.le_refl _) hlt))).symm
 ·exact stop.same (B_congr ⟨fun h=>⟨fun j h1 h2=>absurd h2 (by omega),h⟩,fun h=>h.2⟩)
theorem find_loop (n:Int) (hn:0≤n) (p:Int→Prop) (F:Nat→Int→Option Int)
  (step:∀ i,0≤i→i<n→(p i→Evt (fun k=>F (k+1) i) i)∧(¬ p i→∀ r,Evt (fun k=>F k (i+1)) r→Evt (fun k=>F (k+1) i) r))
  (stop:Evt (fun k=>F (k+1) n) (-1)) :
  ∃ r,Evt (fun k=>F k 0) r∧((r = -1∧∀ j,0≤j→j<n→¬ p j)∨(0≤r∧r<n∧p r∧∀ j,0≤j→j<r→¬ p j)):=by
 have key:∀ (d:Nat) (i:Int),0≤i→i≤n→n - i≤d→∃ r,Evt (fun k=>F k i) r∧((r = -1∧∀ j,i≤j→j<n→¬ p j)∨(i≤r∧r<n∧p r∧∀ j,i≤j→j<r→¬ p j)):=by
  intro d
  induction d with
  | zero =>
   intro i h0 h1 hd
   obtain rfl:i=n:=by omega
   exact ⟨-1,stop.succ,.inl ⟨rfl,fun j h1 h2=>absurd h2 (by omega)⟩⟩
  | succ d ih =>
   intro i h0 h1 hd
   by_cases hlt:i<n
   ·by_cases hp:p i
    ·exact ⟨i,((step i h0 hlt).1 hp).succ,.inr ⟨Int.le_refl _,hlt,hp,fun j h1 h2=>absurd h2 (by omega)⟩⟩
    ·obtain ⟨r,hr,h⟩:=ih (i+1) (by omega) (by omega) (by omega)
     refine ⟨r,((step i h0 hlt).2 hp r hr).succ,?_⟩
     rcases h with ⟨h1,h2⟩ | ⟨h1,h2,h3,h4⟩
     ·refine .inl ⟨h1,fun j g1 g2=>?_⟩
      by_cases e:j=i
      ·rw [e];exact hp
      ·exact h2 j (by omega) g2
     ·refine .inr ⟨by omega,h2,h3,fun j g1 g2=>?_⟩
      by_cases e:j=i
      ·rw [e];exact hp
      ·exact h4 j (by omega) g2
   ·obtain rfl:i=n:=by omega
    exact ⟨-1,stop.succ,.inl ⟨rfl,fun j h1 h2=>absurd h2 (by omega)⟩⟩
 exact key n.toNat 0 (Int.le_refl _) hn (by omega)
theorem bytes_ext {a b:ByteArray} : a.toList=b.toList ↔ a=b:=by
 constructor
 ·intro h
  rw [Lib.toList_data,Lib.toList_data] at h
  cases a with|mk x=>cases b with|mk y=>cases x with|mk x=>cases y with|mk y=>simp at h;rw [h]
 ·rintro rfl
  rfl
theorem bytes_nil {a:ByteArray} : a.toList=([]:List UInt8) ↔ a.size=0:=by
 rw [Lib.toList_data]
 cases a with|mk x=>cases x with|mk x=>simp [ByteArray.size]
end Go.Proofs.YtogkcllenfkdmaaGreatDoor.Ev0
namespace Go.Proofs.YtogkcllenfkdmaaGreatDoor.QR
open Go.RowKit Go.Proofs.YtogkcllenfkdmaaGreatDoorW.PrintWords Go.Proofs.YtogkcllenfkdmaaGreatDoor.Ev0
def bs8 (l:List UInt8):ByteArray:=⟨l.toArray⟩
theorem bs8_app (a b:List UInt8):bs8 a++bs8 b=bs8 (a++b):=by
 apply ByteArray.ext
 simp [bs8]
theorem bs8_size (l:List UInt8):(bs8 l).size=l.length:=by simp [bs8,ByteArray.size]
def dg (u:Nat):List UInt8:=if u=0 then [] else Lib.decDigits u
theorem dg_step (u:Nat) (h:u≠0):dg u=dg (u / 10)++[UInt8.ofNat (48+u % 10)]:=by
 unfold dg
 rw [if_neg h,Lib.decDigits]
 by_cases g:u<10
 ·rw [dif_pos g,if_pos (by omega),show u % 10=u by omega]
  rfl
 ·rw [dif_neg g,if_neg (by omega)]
theorem dg_len (d:Nat):∀ u:Nat,u<10 ^ d→(dg u).length≤d:=by
 induction d with
 | zero =>
  intro u h
  have:u=0:=by (simpa using h)
  subst this
  simp [dg]
 | succ d ih =>
  intro u h
  by_cases g:u=0
  ·subst g;simp [dg]
  ·rw [dg_step u g,List.length_append,List.length_singleton]
   have:=ih (u / 10) (by rw [Nat.pow_succ] at h;omega)
   omega
theorem str_one (v:Nat) (h:v<10):strOfNums [((48+v:Nat):Int)]=bs8 [UInt8.ofNat (48+v)]:=by
 have:v=0∨v=1∨v=2∨v=3∨v=4∨v=5∨v=6∨v=7∨v=8∨v=9:=by omega
 rcases this with rfl|rfl|rfl|rfl|rfl|rfl|rfl|rfl|rfl|rfl <;> rfl
theorem dec_run (d:Nat):∀ (n:Nat) (a:Int) (neg:Bool) (x:List UInt8),(a=(n:Int)∨a = -(n:Int))→n<10 ^ d→n≤9223372036854775808→(a=(n:Int)→n≤9223372036854775807)→x.length+d≤1000 →
  Evt (fun k=>spec_l01Dec.l0 k a neg (bs8 x)) (bs8 ((if neg=true then [45] else [])++(dg n++x))):=by
 have fin:∀ (a:Int) (neg:Bool) (x:List UInt8),a=0→x.length≤1000→Evt (fun k=>spec_l01Dec.l0 k a neg (bs8 x)) (bs8 ((if neg=true then [45] else [])++(dg 0++x))):=by
  intro a neg x ha hx
  apply Evt.succ
  simp only [spec_l01Dec.l0]
  refine Evt.pos ha ?_
  cases neg with
  | true=>exact Evt.pos rfl (Evt.pos (by rw [bs8_size];omega) ((Evt.pure _).same (bs8_app [45] x)))
  | false=>exact Evt.neg (by decide) ((Evt.pure _).same (by simp [dg]))
 induction d with
 | zero =>
  intro n a neg x ha hn h1 h2 hx
  have:n=0:=by simpa using hn
  subst this
  exact fin a neg x (by omega) (by omega)
 | succ d ih =>
  intro n a neg x ha hn h1 h2 hx
  by_cases g:n=0
  ·subst g
   exact fin a neg x (by omega) (by omega)
  have hd:n / 10<10 ^ d:=by rw [Nat.pow_succ] at hn;omega
  apply Evt.succ
  simp only [spec_l01Dec.l0,Option.bind_some]
  refine Evt.neg (by omega) ?_
  have hv:n % 10<10:=by omega
  have one:∀ v:Int,v=((n % 10:Nat):Int)→strOfNums [(wrap64 (48+v)) % 256]=bs8 [UInt8.ofNat (48+n % 10)]:=fun v e=>by
   rw [e,w64 (by omega) (by omega),← str_one _ hv]
   congr 2
   omega
  have ends:bs8 ((if neg=true then [45] else [])++(dg (n / 10)++([UInt8.ofNat (48+n % 10)]++x)))=bs8 ((if neg=true then [45] else [])++(dg n++x)):=by
   rw [dg_step n g,List.append_assoc]
  rcases ha with ha|ha
  ·have e1:Int.tmod a 10=((n % 10:Nat):Int):=by rw [ha,Int.tmod_eq_emod_of_nonneg (by omega)];omega
   have e2:Int.tdiv a 10=((n / 10:Nat):Int):=by rw [ha,Int.tdiv_eq_ediv_of_nonneg (by omega)];omega
   refine Evt.neg (by omega) ?_
   rw [one _ e1,e2,w64 (by omega) (by omega),bs8_app]
   refine Evt.pos (by rw [bs8_size,bs8_size,List.length_singleton];omega) ((ih (n / 10) _ neg _ (.inl rfl) hd (by omega) (fun _=>by omega) (by simp;omega)).same ends)
  ·have e1:Int.tmod a 10 = -((n % 10:Nat):Int):=by rw [ha,Int.neg_tmod,Int.tmod_eq_emod_of_nonneg (by omega)];omega
   have e2:Int.tdiv a 10 = -((n / 10:Nat):Int):=by rw [ha,Int.neg_tdiv,Int.tdiv_eq_ediv_of_nonneg (by omega)];omega
   have hm:wrap64 (-(Int.tmod a 10))=((n % 10:Nat):Int):=by rw [e1,w64 (by omega) (by omega)];omega
   have go:Evt (fun k=>spec_l01Dec.l0 k (-((n / 10:Nat):Int)) neg (bs8 ([UInt8.ofNat (48+n % 10)]++x))) (bs8 ((if neg=true then [45] else [])++(dg n++x))) :=
    (ih (n / 10) _ neg _ (.inr rfl) hd (by omega) (fun h=>by omega) (by simp;omega)).same ends
   by_cases hz:Int.tmod a 10<0
   ·refine Evt.pos hz ?_
    rw [hm,one _ rfl,e2,w64 (by omega) (by omega),bs8_app]
    exact Evt.pos (by rw [bs8_size,bs8_size,List.length_singleton];omega) go
   ·refine Evt.neg hz ?_
    rw [one _ (by omega),e2,w64 (by omega) (by omega),bs8_app]
    exact Evt.pos (by rw [bs8_size,bs8_size,List.length_singleton];omega) go
theorem l01Dec_ev (a:Int) (h0 : -9223372036854775808≤a) (h1:a≤9223372036854775807):Evt (fun k=>spec_l01Dec.f k a) (bs8 (Lib.itoa a)):=by
 unfold spec_l01Dec.f
 by_cases e:a=0
 ·refine Evt.pos e ((Evt.pure _).same ?_)
  subst e
  unfold Lib.itoa
  rw [if_neg (by decide),show (0:Int).toNat=0 from rfl,Lib.decDigits,dif_pos (by decide)]
  rfl
 ·refine Evt.neg e ?_
  by_cases g:a<0
  ·rw [decide_eq_true g]
   have h:=dec_run 20 a.natAbs a true [] (.inr (by omega)) (by omega) (by omega) (fun h=>by omega) (by decide)
   refine (show Evt (fun k=>spec_l01Dec.l0 k a true (⟨#[]⟩:ByteArray)) _ from h).same ?_
   unfold Lib.itoa dg
   rw [if_pos g,if_pos rfl,if_neg (by omega),List.append_nil]
   rfl
  ·rw [decide_eq_false g]
   have h:=dec_run 20 a.natAbs a false [] (.inl (by omega)) (by omega) (by omega) (fun h=>by omega) (by decide)
   refine (show Evt (fun k=>spec_l01Dec.l0 k a false (⟨#[]⟩:ByteArray)) _ from h).same ?_
   unfold Lib.itoa dg
   rw [if_neg g,if_neg (by decide),if_neg (by omega),List.append_nil,List.nil_append,show a.toNat=a.natAbs by omega]
theorem itoa_len (a:Int) (h0 : -9223372036854775808≤a) (h1:a≤9223372036854775807):(Lib.itoa a).length≤25:=by
 have hd:∀ u:Nat,u<10 ^ 20→(Lib.decDigits u).length≤20:=fun u hu=>by
  by_cases g:u=0
  ·subst g
   rw [Lib.decDigits,dif_pos (by decide)]
   decide
  ·have:=dg_len 20 u hu
   unfold dg at this
   rwa [if_neg g] at this
 unfold Lib.itoa
 by_cases g:a<0
 ·rw [if_pos g,List.length_cons]
  have:=hd a.natAbs (by omega)
  omega
 ·rw [if_neg g]
  have:=hd a.toNat (by omega)
  omega
theorem within_ev (a b c:Int):impl_within.f a b c=some (B (b≤a∧a≤c)):=by
 unfold impl_within.f
 by_cases h:b≤a
 ·rw [if_pos h,decide_B]
  exact congrArg some (B_congr ⟨fun x=>⟨h,x⟩,fun x=>x.2⟩)
 ·rw [if_neg h,B_false (fun x=>h x.1)]
theorem isGreat_ev (c:Int):impl_isGreat.f c=some (B (65≤c∧c≤90)):=by
 unfold impl_isGreat.f
 by_cases h:c≥65
 ·rw [if_pos h,decide_B]
  exact congrArg some (B_congr ⟨fun x=>⟨h,x⟩,fun x=>x.2⟩)
 ·rw [if_neg h,B_false (fun x=>h x.1)]
theorem isDigit_ev (c:Int):impl_isDigit.f c=some (B (48≤c∧c≤57)):=by
 unfold impl_isDigit.f
 by_cases h:c≥48
 ·rw [if_pos h,decide_B]
  exact congrArg some (B_congr ⟨fun x=>⟨h,x⟩,fun x=>x.2⟩)
 ·rw [if_neg h,B_false (fun x=>h x.1)]
theorem l01Qty_ev (n:Int):spec_l01Qty.f n=some (B (1≤n∧n≤1000000)):=by
 unfold spec_l01Qty.f
 by_cases h:n≥1
 ·rw [if_pos h,decide_B]
  exact congrArg some (B_congr ⟨fun x=>⟨h,x⟩,fun x=>x.2⟩)
 ·rw [if_neg h,B_false (fun x=>h x.1)]
def okc (c:Int):Prop:=(65≤c∧c≤90)∨(48≤c∧c≤57)∨c=45
def NameP (s:ByteArray):Prop:=1≤(s.size:Int)∧(s.size:Int)≤12∧(65≤bt s 0∧bt s 0≤90)∧∀ j:Int,0≤j→j<s.size→okc (bt s j)
noncomputable def nameB (s:ByteArray):Bool:=B (NameP s)
theorem specName_l (s:ByteArray) (hs:(s.size:Int)≤9223372036854775807) (d:Nat):∀ i:Int,0≤i→(s.size:Int) - i≤d→Evt (fun k=>spec_l01Name.l0 k s i) (B (∀ j:Int,i≤j→j<s.size→okc (bt s j))):=by
 induction d with
 | zero =>
  intro i h0 hd
  apply Evt.succ
  simp only [spec_l01Name.l0]
  refine Evt.neg (by omega) ((Evt.pure true).same (B_true ?_).symm)
  intro j h1 h2
  omega
 | succ d ih =>
  intro i h0 hd
  apply Evt.succ
  simp only [spec_l01Name.l0]
  by_cases hlt:i<(s.size:Int)
  ·refine Evt.pos hlt (Evt.pos h0 ?_)
   have hw:wrap64 (i+1)=i+1:=w64 (by omega) (by omega)
   rw [hw]
   have yes:okc (bt s i)→Evt (fun k=>spec_l01Name.l0 k s (i+1)) (B (∀ j:Int,i≤j→j<s.size→okc (bt s j))):=fun hc =>
    (ih (i+1) (by omega) (by omega)).same (B_congr ⟨fun h j h1 h2=>by
     by_cases e:j=i
     ·rw [e];exact hc
     ·exact h j (by omega) h2,fun h j h1 h2=>h j (by omega) h2⟩)
   have no:¬ okc (bt s i)→Evt (fun _=>some false) (B (∀ j:Int,i≤j→j<s.size→okc (bt s j))):=fun hc =>
    (Evt.pure false).same (B_false (fun h=>hc (h i (Int.le_refl _) hlt))).symm
   have digit:Evt (fun k=>if bt s i≥48 then (if bt s i≤57 then spec_l01Name.l0 k s (i+1) else (if bt s i=45 then spec_l01Name.l0 k s (i+1) else some false)) else (if bt s i=45 then spec_l01Name.l0 k s (i+1) else some false)) (B (∀ j:Int,i≤j→j<s.size→okc (bt s j)))∨(65≤bt s i∧bt s i≤90):=by
    by_cases hg:65≤bt s i∧bt s i≤90
    ·exact .inr hg
    ·refine .inl (Evt.ite (fun h1=>Evt.ite (fun h2=>yes (.inr (.inl ⟨h1,h2⟩))) (fun h2=>Evt.ite (fun h3=>yes (.inr (.inr h3))) (fun h3=>no (fun hk=>?_)))) (fun h1=>Evt.ite (fun h3=>yes (.inr (.inr h3))) (fun h3=>no (fun hk=>?_))))
     ·rcases hk with hk|hk|hk
      ·exact hg hk
      ·omega
      ·exact h3 hk
     ·rcases hk with hk|hk|hk
      ·exact hg hk
      ·omega
      ·exact h3 hk
   refine Evt.ite (fun h1=>Evt.ite (fun h2=>yes (.inl ⟨h1,h2⟩)) (fun h2=>?_)) (fun h1=>?_)
   ·exact digit.resolve_right (fun h=>h2 h.2)
   ·exact digit.resolve_right (fun h=>h1 h.1)
  ·refine Evt.neg hlt ((Evt.pure true).same (B_true ?_).symm)
   intro j h1 h2
   omega
theorem specName_ev (s:ByteArray) (hs:(s.size:Int)≤9223372036854775807):Evt (fun k=>spec_l01Name.f k s) (nameB s):=by
 unfold spec_l01Name.f
 have bad:¬ NameP s→Evt (fun k=>spec_l01Name.j0 k s true) (nameB s):=fun h=>by
  apply Evt.succ
  simp only [spec_l01Name.j0]
  exact (Evt.pure false).same (B_false h).symm
 refine Evt.ite (fun h=>bad (fun hn=>by have:=hn.1;omega)) (fun h1=>Evt.ite (fun h=>bad (fun hn=>by have:=hn.2.1;omega)) (fun h2=>Evt.pos (by omega) (Evt.ite (fun h=>bad (fun hn=>by have:=hn.2.2.1.1;omega)) (fun h3=>?_))))
 by_cases h4:bt s 0>90
 ·rw [decide_eq_true h4]
  exact bad (fun hn=>by have:=hn.2.2.1.2;omega)
 ·rw [decide_eq_false h4]
  apply Evt.succ
  simp only [spec_l01Name.j0]
  refine (specName_l s hs s.size 0 (Int.le_refl _) (by omega)).same (B_congr ⟨fun h=>⟨by omega,by omega,⟨by omega,by omega⟩,h⟩,fun h=>h.2.2.2⟩)
theorem implName_l (s:ByteArray) (hs:(s.size:Int)≤9223372036854775807) (d:Nat):∀ i:Int,0≤i→(s.size:Int) - i≤d →
  Evt (fun k=>impl_isName.l0 k s (s.size:Int) i) (B ((∀ j:Int,i≤j→j<s.size→(65≤bt s j∧bt s j≤90)∨(j≠0∧okc (bt s j)))∧1≤(s.size:Int)∧(s.size:Int)≤12)):=by
 induction d with
 | zero =>
  intro i h0 hd
  apply Evt.succ
  simp only [impl_isName.l0]
  refine Evt.neg (by omega) (Evt.const ?_)
  rw [within_ev]
  exact congrArg some (B_congr ⟨fun h=>⟨fun j h1 h2=>by omega,h⟩,fun h=>h.2⟩)
 | succ d ih =>
  intro i h0 hd
  apply Evt.succ
  simp only [impl_isName.l0]
  by_cases hlt:i<(s.size:Int)
  ·refine Evt.pos hlt (Evt.pos h0 (Evt.pos hlt ?_))
   have hw:wrap64 (i+1)=i+1:=w64 (by omega) (by omega)
   rw [hw,isGreat_ev,isDigit_ev]
   have yes:((65≤bt s i∧bt s i≤90)∨(i≠0∧okc (bt s i)))→Evt (fun k=>impl_isName.l0 k s (s.size:Int) (i+1)) (B ((∀ j:Int,i≤j→j<s.size→(65≤bt s j∧bt s j≤90)∨(j≠0∧okc (bt s j)))∧1≤(s.size:Int)∧(s.size:Int)≤12)):=fun hc =>
    (ih (i+1) (by omega) (by omega)).same (B_congr ⟨fun h=>⟨fun j h1 h2=>by
     by_cases e:j=i
     ·rw [e];exact hc
     ·exact h.1 j (by omega) h2,h.2⟩,fun h=>⟨fun j h1 h2=>h.1 j (by omega) h2,h.2⟩⟩)
   have no:¬ ((65≤bt s i∧bt s i≤90)∨(i≠0∧okc (bt s i)))→Evt (fun _=>some false) (B ((∀ j:Int,i≤j→j<s.size→(65≤bt s j∧bt s j≤90)∨(j≠0∧okc (bt s j)))∧1≤(s.size:Int)∧(s.size:Int)≤12)):=fun hc =>
    (Evt.pure false).same (B_false (fun h=>hc (h.1 i (Int.le_refl _) hlt))).symm
   simp only [Option.bind_some]
   refine Evt.ite (fun h1=>yes (.inl (B_iff.1 h1))) (fun h1=>?_)
   have g1:¬ (65≤bt s i∧bt s i≤90):=fun h=>h1 (B_iff.2 h)
   refine Evt.ite (fun h2=>no (fun h=>h.elim g1 (fun h=>h.1 h2))) (fun h2=>Evt.ite (fun h3=>yes (.inr ⟨h2,.inr (.inl (B_iff.1 h3))⟩)) (fun h3=>Evt.ite (fun h4=>yes (.inr ⟨h2,.inr (.inr h4)⟩)) (fun h4=>no (fun h=>?_))))
   rcases h with h | ⟨_,h|h|h⟩
   ·exact g1 h
   ·exact g1 h
   ·exact h3 (B_iff.2 h)
   ·exact h4 h
  ·refine Evt.neg hlt (Evt.const ?_)
   rw [within_ev]
   exact congrArg some (B_congr ⟨fun h=>⟨fun j h1 h2=>by omega,h⟩,fun h=>h.2⟩)
theorem implName_ev (s:ByteArray) (hs:(s.size:Int)≤9223372036854775807):Evt (fun k=>impl_isName.f k s) (nameB s):=by
 unfold impl_isName.f
 refine (implName_l s hs s.size 0 (Int.le_refl _) (by omega)).same (B_congr ⟨fun h=>⟨h.2.1,h.2.2,?_,?_⟩,fun h=>⟨?_,h.1,h.2.1⟩⟩)
 ·rcases h.1 0 (Int.le_refl _) (by omega) with h|h
  ·exact h
  ·exact absurd rfl h.1
 ·intro j h1 h2
  rcases h.1 j h1 h2 with h|h
  ·exact .inl h
  ·exact h.2
 ·intro j h1 h2
  by_cases e:j=0
  ·rw [e];exact .inl h.2.2.1
  ·exact .inr ⟨e,h.2.2.2 j h1 h2⟩
end Go.Proofs.YtogkcllenfkdmaaGreatDoor.QR
namespace Go.Proofs.YtogkcllenfkdmaaGreatDoor.Num
def dig (c:UInt8):Prop:=48≤c.toNat∧c.toNat≤57
def val (acc:Nat):List UInt8→Nat
 | []=>acc
 | c :: r=>val (acc * 10+(c.toNat - 48)) r
theorem val_ge (l:List UInt8):∀ acc,acc≤val acc l:=by
 induction l with
 | nil=>intro acc;exact Nat.le_refl _
 | cons c r ih=>intro acc;exact Nat.le_trans (by omega) (ih _)
theorem val_snoc (l:List UInt8) (c:UInt8):∀ acc,val acc (l++[c])=val acc l * 10+(c.toNat - 48):=by
 induction l with
 | nil=>intro acc;rfl
 | cons a r ih=>intro acc;exact ih _
theorem parse_ok (l:List UInt8):∀ acc,(∀ c ∈ l,dig c)→val acc l≤1000000000000000000→Lib.parseUint10 acc l=.ok (val acc l):=by
 induction l with
 | nil=>intro acc _ _;rfl
 | cons c r ih =>
  intro acc hd hv
  have hc:=hd c (List.mem_cons_self ..)
  have hg:=val_ge r (acc * 10+(c.toNat - 48))
  have hv':val (acc * 10+(c.toNat - 48)) r≤1000000000000000000:=hv
  unfold Lib.parseUint10
  rw [if_pos (show 48≤c.toNat∧c.toNat≤57 from hc),if_neg (by omega),if_neg (by omega)]
  exact ih _ (fun x hx=>hd x (List.mem_cons_of_mem _ hx)) hv'
theorem parse_back (l:List UInt8):∀ acc u,Lib.parseUint10 acc l=.ok u→(∀ c ∈ l,dig c)∧u=val acc l:=by
 induction l with
 | nil =>
  intro acc u h
  simp only [Lib.parseUint10] at h
  injection h with h
  exact ⟨by simp,h.symm⟩
 | cons c r ih =>
  intro acc u h
  unfold Lib.parseUint10 at h
  by_cases hc:48≤c.toNat∧c.toNat≤57
  ·rw [if_pos hc] at h
   by_cases h1:1844674407370955162≤acc
   ·rw [if_pos h1] at h;cases h
   ·rw [if_neg h1] at h
    by_cases h2:18446744073709551616≤acc * 10+(c.toNat - 48)
    ·rw [if_pos h2] at h;cases h
    ·rw [if_neg h2] at h
     obtain ⟨g1,g2⟩:=ih _ _ h
     refine ⟨fun x hx=>?_,g2⟩
     rcases List.mem_cons.1 hx with rfl|hx
     ·exact hc
     ·exact g1 x hx
  ·rw [if_neg hc] at h;cases h
theorem byte_of (v:Nat) (h:v<10):(UInt8.ofNat (48+v)).toNat=48+v:=by
 have:v=0∨v=1∨v=2∨v=3∨v=4∨v=5∨v=6∨v=7∨v=8∨v=9:=by omega
 rcases this with rfl|rfl|rfl|rfl|rfl|rfl|rfl|rfl|rfl|rfl <;> rfl
theorem head_app {a b:List UInt8} (h:a≠[]):(a++b).head? = a.head?:=by
 cases a with
 | nil=>exact absurd rfl h
 | cons c r=>rfl
theorem dec_facts (u:Nat):(∀ c ∈ Lib.decDigits u,dig c)∧val 0 (Lib.decDigits u)=u∧Lib.decDigits u≠[]∧(0<u→(Lib.decDigits u).head? ≠ some 48):=by
 induction u using Nat.strongRecOn with
 | ind u ih =>
  rw [Lib.decDigits]
  by_cases g:u<10
  ·rw [dif_pos g]
   have hb:=byte_of u g
   refine ⟨fun c hc=>?_,?_,by simp,fun hp=>?_⟩
   ·rw [List.mem_singleton.1 hc]
    unfold dig
    omega
   ·show 0 * 10+((UInt8.ofNat (48+u)).toNat - 48)=u
    omega
   ·intro h
    have h2:UInt8.ofNat (48+u)=48:=by simpa using h
    have h3:=congrArg UInt8.toNat h2
    rw [hb] at h3
    have h4:(48:UInt8).toNat=48:=rfl
    omega
  ·rw [dif_neg g]
   obtain ⟨i1,i2,i3,i4⟩:=ih (u / 10) (by omega)
   have hb:=byte_of (u % 10) (by omega)
   refine ⟨fun c hc=>?_,?_,by simp,fun hp=>?_⟩
   ·rcases List.mem_append.1 hc with hc|hc
    ·exact i1 c hc
    ·rw [List.mem_singleton.1 hc]
     unfold dig
     omega
   ·rw [val_snoc,i2,hb]
    omega
   ·rw [head_app i3]
    exact i4 (by omega)
theorem val_pos (l:List UInt8):∀ c r,l=c :: r→dig c→c≠48→0<val 0 l:=by
 intro c r hl hc hn
 subst hl
 have h1:=val_ge r (0 * 10+(c.toNat - 48))
 have h2:c.toNat≠48:=fun h=>hn (UInt8.toNat_inj.1 h)
 have h3:val 0 (c :: r)=val (0 * 10+(c.toNat - 48)) r:=rfl
 unfold dig at hc
 omega
theorem dec_back (n:Nat):∀ l:List UInt8,l.length=n→l≠[]→(∀ c ∈ l,dig c)→(l.head? ≠ some 48∨l=[48])→Lib.decDigits (val 0 l)=l:=by
 induction n with
 | zero=>intro l hl hn;exact absurd (List.eq_nil_of_length_eq_zero hl) hn
 | succ n ih =>
  intro l hl hn hd hh
  obtain ⟨m,c,rfl⟩:∃ m c,l=m++[c]:=⟨l.dropLast,l.getLast hn,(List.dropLast_concat_getLast hn).symm⟩
  have hc:=hd c (by simp)
  have hcb:UInt8.ofNat (48+(c.toNat - 48))=c:=by
   unfold dig at hc
   rw [show 48+(c.toNat - 48)=c.toNat by omega]
   exact UInt8.ofNat_toNat
  rw [val_snoc]
  by_cases hm:m=[]
  ·subst hm
   have e:val 0 [] * 10+(c.toNat - 48)=c.toNat - 48:=by show 0 * 10+_=_;omega
   rw [e,Lib.decDigits,dif_pos (by unfold dig at hc;omega),hcb]
   rfl
  ·have hm48:m.head? ≠ some 48:=by
    rcases hh with h|h
    ·rwa [head_app hm] at h
    ·exfalso
     have:=congrArg List.length h
     exact hm (by simpa using this)
   have ih':=ih m (by simp at hl;exact hl) hm (fun x hx=>hd x (List.mem_append_left _ hx)) (.inl hm48)
   have hp:0<val 0 m:=by
    cases m with
    | nil=>exact absurd rfl hm
    | cons a r=>exact val_pos _ a r rfl (hd a (by simp)) (fun h=>hm48 (by rw [h];rfl))
   have hlt:c.toNat - 48<10:=by unfold dig at hc;omega
   rw [Lib.decDigits,dif_neg (by omega),show (val 0 m * 10+(c.toNat - 48)) / 10=val 0 m by omega,show (val 0 m * 10+(c.toNat - 48)) % 10=c.toNat - 48 by omega,ih',hcb]
def digs (t:List UInt8):List UInt8:=if t.head? = some 45 then t.tail else t
def isNum (t:List UInt8):Prop:=digs t≠[]∧(∀ c ∈ digs t,dig c)∧((digs t).head? ≠ some 48∨t=[48])
def valT (t:List UInt8):Int:=if t.head? = some 45 then -(val 0 (digs t):Int) else (val 0 (digs t):Int)
theorem num_itoa (t:List UInt8) (h:isNum t):Lib.itoa (valT t)=t:=by
 obtain ⟨h1,h2,h3⟩:=h
 unfold valT digs at *
 by_cases hn:t.head? = some 45
 ·rw [if_pos hn] at h1 h2 h3 ⊢
  rw [if_pos hn]
  cases t with
  | nil=>cases hn
  | cons a r =>
   have ha:a=45:=by simpa using hn
   subst ha
   have h4:r.head? ≠ some 48:=h3.resolve_right (by simp)
   have hb:=dec_back r.length r rfl h1 h2 (.inl h4)
   have hp:0<val 0 r:=by
    cases r with
    | nil=>exact absurd rfl h1
    | cons b q=>exact val_pos _ b q rfl (h2 b (by simp)) (fun h=>h4 (by rw [h];rfl))
   unfold Lib.itoa
   show (if (-(val 0 r:Int))<0 then 45 :: Lib.decDigits (-(val 0 r:Int)).natAbs else _)=45 :: r
   rw [if_pos (by omega),show (-(val 0 r:Int)).natAbs=val 0 r by omega,hb]
 ·rw [if_neg hn] at h1 h2 h3 ⊢
  rw [if_neg hn]
  have hb:=dec_back t.length t rfl h1 h2 (h3.imp id id)
  unfold Lib.itoa
  rw [if_neg (by omega),show ((val 0 t:Int)).toNat=val 0 t by omega,hb]
theorem itoa_num (t:List UInt8) (hd:∀ c ∈ digs t,dig c) (h:Lib.itoa (valT t)=t):isNum t:=by
 unfold isNum
 unfold valT digs at *
 by_cases hn:t.head? = some 45
 ·rw [if_pos hn] at hd h ⊢
  rw [if_pos hn] at h
  cases t with
  | nil=>cases hn
  | cons a r =>
   have ha:a=45:=by simpa using hn
   subst ha
   have h':Lib.itoa (-(val 0 r:Int))=45 :: r:=h
   unfold Lib.itoa at h'
   by_cases hz:val 0 r=0
   ·rw [hz,if_neg (by omega)] at h'
    have e:(-((0:Nat):Int)).toNat=0:=rfl
    rw [e,Lib.decDigits,dif_pos (by decide)] at h'
    have:=congrArg List.head? h'
    simp at this
   ·rw [if_pos (by omega),show (-(val 0 r:Int)).natAbs=val 0 r by omega] at h'
    have hr:Lib.decDigits (val 0 r)=r:=by simpa using h'
    obtain ⟨_,_,d3,d4⟩:=dec_facts (val 0 r)
    rw [hr] at d3 d4
    exact ⟨d3,hd,.inl (d4 (by omega))⟩
 ·rw [if_neg hn] at hd h ⊢
  rw [if_neg hn] at h
  unfold Lib.itoa at h
  rw [if_neg (by omega),show ((val 0 t:Int)).toNat=val 0 t by omega] at h
  obtain ⟨_,_,d3,d4⟩:=dec_facts (val 0 t)
  rw [h] at d3 d4
  refine ⟨d3,hd,?_⟩
  by_cases hz:val 0 t=0
  ·rw [hz,Lib.decDigits,dif_pos (by decide)] at h
   exact .inr h.symm
  ·exact .inl (d4 (by omega))
theorem num_parse (t:List UInt8) (h:isNum t) (hv:val 0 (digs t)≤1000000000000000000):Lib.atoiAll t=.ok (valT t):=by
 obtain ⟨h1,h2,h3⟩:=h
 unfold valT digs at *
 cases t with
 | nil=>simp at h1
 | cons a r =>
  by_cases ha:a=45
  ·subst ha
   have hn:((45:UInt8) :: r).head? = some 45:=rfl
   rw [if_pos hn] at h1 h2 hv ⊢
   rw [if_pos hn]
   have hr:r≠[]:=h1
   have hp:=parse_ok r 0 h2 hv
   have hv':val 0 r≤1000000000000000000:=hv
   unfold Lib.atoiAll Lib.parseMag
   have e45:(45:UInt8).toNat=45:=rfl
   simp only [e45,or_true,if_true,if_neg hr,hp,not_true,false_and,if_false,true_and]
   rw [if_neg (by omega)]
   rfl
  ·have hn:¬ (a :: r).head? = some 45:=by simpa using ha
   rw [if_neg hn] at h1 h2 hv ⊢
   rw [if_neg hn]
   have hda:=h2 a (by simp)
   unfold dig at hda
   have hp:=parse_ok (a :: r) 0 h2 hv
   unfold Lib.atoiAll Lib.parseMag
   have e2:¬ a.toNat=45:=by omega
   have e5:¬ a.toNat=43:=by omega
   have e4:¬ (a :: r)=[]:=by simp
   simp only [e5,e2,or_self,if_false,if_neg e4,hp,not_false_eq_true,true_and,false_and]
   rw [if_neg (by omega)]
theorem parse_num (t:List UInt8) (h:isNum t) (v:Int) (hp:Lib.atoiAll t=.ok v):v=valT t:=by
 obtain ⟨h1,h2,h3⟩:=h
 unfold valT digs at *
 cases t with
 | nil=>simp at h1
 | cons a r =>
  unfold Lib.atoiAll Lib.parseMag at hp
  by_cases ha:a=45
  ·subst ha
   have hn:((45:UInt8) :: r).head? = some 45:=rfl
   rw [if_pos hn] at h1 h2 ⊢
   rw [if_pos hn]
   have e45:(45:UInt8).toNat=45:=rfl
   have hr:r≠[]:=h1
   simp only [e45,or_true,if_true,if_neg hr,not_true,false_and,if_false,true_and] at hp
   cases hq:Lib.parseUint10 0 r with
   | «syntax»=>rw [hq] at hp;cases hp
   | range=>rw [hq] at hp;cases hp
   | ok u =>
    rw [hq] at hp
    simp only at hp
    obtain ⟨_,rfl⟩:=parse_back r 0 u hq
    by_cases hb:9223372036854775808<val 0 r
    ·rw [if_pos hb] at hp;cases hp
    ·rw [if_neg hb] at hp
     injection hp with hp
     exact hp.symm
  ·have hn:¬ (a :: r).head? = some 45:=by simpa using ha
   rw [if_neg hn] at h1 h2 ⊢
   rw [if_neg hn]
   have hda:=h2 a (by simp)
   unfold dig at hda
   have e2:¬ a.toNat=45:=by omega
   have e5:¬ a.toNat=43:=by omega
   have e4:¬ (a :: r)=[]:=by simp
   simp only [e5,e2,or_self,if_false,if_neg e4,not_false_eq_true,true_and,false_and] at hp
   cases hq:Lib.parseUint10 0 (a :: r) with
   | «syntax»=>rw [hq] at hp;cases hp
   | range=>rw [hq] at hp;cases hp
   | ok u =>
    rw [hq] at hp
    simp only at hp
    obtain ⟨_,rfl⟩:=parse_back (a :: r) 0 u hq
    by_cases hb:9223372036854775808≤val 0 (a :: r)
    ·rw [if_pos hb] at hp;cases hp
    ·rw [if_neg hb] at hp
     injection hp with hp
     exact hp.symm
theorem dec_len (d:Nat):∀ u:Nat,0<d→u<10 ^ d→(Lib.decDigits u).length≤d:=by
 induction d with
 | zero=>intro u h;omega
 | succ d ih =>
  intro u _ hu
  rw [Lib.decDigits]
  by_cases g:u<10
  ·rw [dif_pos g];simp
  ·rw [dif_neg g,List.length_append,List.length_singleton]
   have h1:u / 10<10 ^ d:=by rw [Nat.pow_succ] at hu;omega
   have h2:0<d:=by
    rcases Nat.eq_zero_or_pos d with z|z
    ·subst z;simp at h1;omega
    ·exact z
   have:=ih (u / 10) h2 h1
   omega
theorem num_len (t:List UInt8) (h:isNum t) (hv:val 0 (digs t)<1000000000000):(digs t).length≤12:=by
 obtain ⟨h1,h2,h3⟩:=h
 have h4:(digs t).head? ≠ some 48∨digs t=[48]:=h3.imp id (fun h=>by subst h;rfl)
 rw [← dec_back _ _ rfl h1 h2 h4]
 exact dec_len 12 _ (by decide) (by omega)
end Go.Proofs.YtogkcllenfkdmaaGreatDoor.Num
