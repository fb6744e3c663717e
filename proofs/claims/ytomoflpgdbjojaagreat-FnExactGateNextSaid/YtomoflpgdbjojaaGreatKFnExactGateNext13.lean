-- Merged by a program of this session (wip/tool/pack.py) out of its own texts for this claim.
import Derived.Lib.SliceRun
import Derived.Test.YtomoflpgdbjojaaGreatKFnExactGateNext12
set_option maxHeartbeats 8000000
set_option maxRecDepth 100000
set_option linter.unusedSimpArgs false
set_option linter.unusedVariables false
namespace Go.Proofs.YtomoflpgdbjojaaGreat.QN
open Go.RowKit Go.Proofs.YtomoflpgdbjojaaGreatW.PrintWords Go.Proofs.YtomoflpgdbjojaaGreatW.PrintLast Go.Proofs.YtomoflpgdbjojaaGreatW.PrintMore
attribute [local go_sem] max2_int min2_int max_two min_two max_three min_three max_four min_four   -- for this text's walks alone
theorem spec_GateNext.calls (k:Nat) (a0_0:ByteArray) (a0_1:Int) (A0_2:Option Addr) (c0_2:Nat) (l0_2:List (S83)) (A0_3:Option Addr) (c0_3:Nat) (l0_3:List (S114)) (A0_4:Option Addr) (c0_4:Nat) (l0_4:List (S152)) (A0_5:Option Addr) (c0_5:Nat) (l0_5:List (S161)) (A0_6:Option Addr) (c0_6:Nat) (l0_6:List (S118)) (A0_7:Option Addr) (c0_7:Nat) (l0_7:List (S120)) (r1:ByteArray) (r2:Int) (r3:List (S83)) (r4:List (S114)) (r5:List (S152)) (r6:List (S161)) (r7:List (S118)) (r8:List (S120)) (w:World) (hr0_2:Kd.C k83 w A0_2 l0_2.length l0_2) (hc0_2:l0_2.length≤c0_2) (hr0_3:Kd.C k114 w A0_3 l0_3.length l0_3) (hc0_3:l0_3.length≤c0_3) (hr0_4:Kd.C k152 w A0_4 l0_4.length l0_4) (hc0_4:l0_4.length≤c0_4) (hr0_5:Kd.C k161 w A0_5 l0_5.length l0_5) (hc0_5:l0_5.length≤c0_5) (hr0_6:Kd.C k118 w A0_6 l0_6.length l0_6) (hc0_6:l0_6.length≤c0_6) (hr0_7:Kd.C k120 w A0_7 l0_7.length l0_7) (hc0_7:l0_7.length≤c0_7) (H:spec_GateNext.f k a0_0 a0_1 l0_2 l0_3 l0_4 l0_5 l0_6 l0_7=some (r1,r2,r3,r4,r5,r6,r7,r8)) :
  Calls Tryz.prog 6 #[.agg #[.string a0_0,.int .i64 a0_1,.slice A0_2 l0_2.length c0_2,.slice A0_3 l0_3.length c0_3,.slice A0_4 l0_4.length c0_4,.slice A0_5 l0_5.length c0_5,.slice A0_6 l0_6.length c0_6,.slice A0_7 l0_7.length c0_7]] w fun e w'=>∃ v2_ v3_ v4_ v5_ v6_ v7_:Value,e=.returned (.agg #[.string r1,.int .i64 r2,v2_,v3_,v4_,v5_,v6_,v7_])∧Kd.S k83 83 w' w.heap.size (fun _=>True) v2_ r3∧Kd.R k114 114 w' w.heap.size (fun _=>True) v3_ r4∧Kd.R k152 152 w' w.heap.size (fun _=>True) v4_ r5∧Kd.R k161 161 w' w.heap.size (fun _=>True) v5_ r6∧Kd.R k118 118 w' w.heap.size (fun _=>True) v6_ r7∧Kd.R k120 120 w' w.heap.size (fun _=>True) v7_ r8∧Below w.heap.size w w':=by
 have hu42:=Tryz.underlying42
 have hfd62_0:∀ (v0 v1 v2 v3:Value) (W:World),(Instr.field 62 (.agg #[v0,v1,v2,v3]) 0).run Tryz.prog W=.ok v0 W:=fun _ _ _ _ _=>by kernel_rfl
 have HR0_2:=am hr0_2;have HC0_2:=am hc0_2;clear hr0_2 hc0_2;have HR0_3:=am hr0_3;have HC0_3:=am hc0_3;clear hr0_3 hc0_3;have HR0_4:=am hr0_4;have HC0_4:=am hc0_4;clear hr0_4 hc0_4;have HR0_5:=am hr0_5;have HC0_5:=am hc0_5;clear hr0_5 hc0_5;have HR0_6:=am hr0_6;have HC0_6:=am hc0_6;clear hr0_6 hc0_6;have HR0_7:=am hr0_7;have HC0_7:=am hc0_7;clear hr0_7 hc0_7;have HB:=am (Below.refl w.heap.size w);unfold spec_GateNext.f at H;replace H:=bo H;obtain ⟨⟨t49,t61,t50,t51,t52,t53,t54,t63⟩,A2,H⟩:=H;(try dsimp only at H)
 go_in
 try go_wp2_with (first|((with_reducible refine gate_dst (N:=1) rfl ?_);refine bz 1 (cs:=#[.string a0_0,.int .i64 a0_1,.slice A0_2 l0_2.length c0_2,.slice A0_3 l0_3.length c0_3,.slice A0_4 l0_4.length c0_4,.slice A0_5 l0_5.length c0_5,.slice A0_6 l0_6.length c0_6,.slice A0_7 l0_7.length c0_7]) (t:=42) HB ?_;clear HB;intro gb47 hg w3 BK47 GW47 hb HB;clear hb hg)|((with_reducible refine gate_dst (N:=2) rfl ?_);refine bz 2 (cs:=#[.string (⟨#[]⟩:ByteArray),.int .i64 0,.slice none 0 0,.slice none 0 0,.slice none 0 0,.slice none 0 0,.slice none 0 0,.slice none 0 0]) (t:=42) HB ?_;clear HB;intro gb45 hg w4 BK45 GW45 hb HB;have NB47_45:=na hg BK47;have NB45_47:=nc hg BK47;replace BK47:=bb BK47 hb;clear hb hg;have hnb5:=NB47_45.out;have hnc5:=NB45_47.out;have hcz6:=cf8 BK47))
 go_at_call 22;(with_reducible refine (spec_l13Copy.calls k a0_0 a0_1 _ _ l0_2 _ _ l0_3 _ _ l0_4 _ _ l0_5 _ _ l0_6 _ _ l0_7 t49 t61 t50 t51 t52 t53 t54 t63 _ (Kd.C_below HR0_2.out (bs HB)) HC0_2.out (Kd.C_below HR0_3.out (bs HB)) HC0_3.out (Kd.C_below HR0_4.out (bs HB)) HC0_4.out (Kd.C_below HR0_5.out (bs HB)) HC0_5.out (Kd.C_below HR0_6.out (bs HB)) HC0_6.out (Kd.C_below HR0_7.out (bs HB)) HC0_7.out A2.out).mono ?_);rintro e w7 ⟨v73,v74,v75,v76,v77,v78,rfl,ho0,ho1,ho2,ho3,ho4,ho5,hb⟩;have HO56:=am (Kd.S_lower ho0 (below_size (bs HB)));have HO57:=am (Kd.R_lower ho1 (below_size (bs HB)));have HO58:=am (Kd.R_lower ho2 (below_size (bs HB)));have HO59:=am (Kd.R_lower ho3 (below_size (bs HB)));have HO60:=am (Kd.R_lower ho4 (below_size (bs HB)));have HO55:=am (Kd.R_lower ho5 (below_size (bs HB)));replace BK47:=bb BK47 hb;replace BK45:=bb BK45 hb;replace HB:=bq HB hb;(try clear hb);(try clear hb2);(try clear hk);(try clear hi);(try clear ho0);(try clear ho1);(try clear ho2);(try clear ho3);(try clear ho4);(try clear ho5);replace H:=bo H;obtain ⟨t65,A8,H⟩:=H
 try go_wp2_with (first|((with_reducible refine gate_dst (N:=3) rfl ?_);refine bx 3 (cs:=#[.string (⟨#[]⟩:ByteArray),.int .i64 0,.slice none 0 0,.slice none 0 0,.slice none 0 0,.slice none 0 0,.slice none 0 0,.slice none 0 0]) (t:=42) ?_;intro gb46 hg w9 hbox hb;have n0_:=am (Kd.S_below (by (with_reducible repeat (first|apply Kd.S_alloc|apply Kd.S_drewN|apply Kd.S_drew));exact HO56.out) hb);have n1_:=am (Kd.R_below (rs HO57) hb);have n2_:=am (Kd.R_below (rs HO58) hb);have n3_:=am (Kd.R_below (rs HO59) hb);have n4_:=am (Kd.R_below (rs HO60) hb);have n5_:=am (Kd.R_below (rs HO55) hb);have n6_:=am (blk_below (ks BK47) hb);have n7_:=am (blk_below (ks BK45) hb);have n8_:=am (below_step (bs HB) hb);have n9_:=am (hbox);have n10_:=am ((gs hg (bs HB)));have n11_:=am ((gs hg (bs HB)));have n12_:=am ((gn hg (ks BK47)));have n13_:=am ((gm hg (ks BK47)));have n14_:=am ((gn hg (ks BK45)));have n15_:=am ((gm hg (ks BK45)));clear HO56;clear HO57;clear HO58;clear HO59;clear HO60;clear HO55;clear BK47;clear BK45;clear HB;have HO56:=n0_;have HO57:=n1_;have HO58:=n2_;have HO59:=n3_;have HO60:=n4_;have HO55:=n5_;have BK47:=n6_;have BK45:=n7_;have HB:=n8_;have BK46:=n9_;have GW46:=n10_;have GE46:=n11_;have NB47_46:=n12_;have NB46_47:=n13_;have NB45_46:=n14_;have NB46_45:=n15_;clear n0_ n1_ n2_ n3_ n4_ n5_ n6_ n7_ n8_ n9_ n10_ n11_ n12_ n13_ n14_ n15_;clear hb hbox hg;have hnb10:=NB46_47.out;have hnc10:=NB47_46.out;have hnb11:=NB46_45.out;have hnc11:=NB45_46.out;have hcz12:=cf8 BK46;obtain ⟨Ao13,co13,eo13⟩:=Kd.S_slice HO56.out;subst eo13;obtain ⟨Ao14,co14,eo14⟩:=Kd.R_slice HO57.out;subst eo14;obtain ⟨Ao15,co15,eo15⟩:=Kd.R_slice HO58.out;subst eo15;obtain ⟨Ao16,co16,eo16⟩:=Kd.R_slice HO59.out;subst eo16;obtain ⟨Ao17,co17,eo17⟩:=Kd.R_slice HO60.out;subst eo17;obtain ⟨Ao18,co18,eo18⟩:=Kd.R_slice HO55.out;subst eo18;have hnb19:=NB47_45.out;have hnc19:=NB45_47.out;have hcz20:=cf8 BK47))
 go_at_call 23;(with_reducible refine (spec_GateRight.calls k a0_0 a0_1 _ _ l0_2 _ _ l0_3 _ _ l0_4 _ _ l0_5 _ _ l0_6 _ _ l0_7 t65 _ ?side1 HC0_2.out ?side3 HC0_3.out ?side5 HC0_4.out ?side7 HC0_5.out ?side9 HC0_6.out ?side11 HC0_7.out A8.out).mono ?_);(case side1=>exact Kd.C_below HR0_2.out (bs HB));(case side3=>exact Kd.C_below HR0_3.out (bs HB));(case side5=>exact Kd.C_below HR0_4.out (bs HB));(case side7=>exact Kd.C_below HR0_5.out (bs HB));(case side9=>exact Kd.C_below HR0_6.out (bs HB));(case side11=>exact Kd.C_below HR0_7.out (bs HB));rintro e w21 ⟨rfl,hb⟩;have n0_:=am (Kd.S_below (by (with_reducible repeat (first|apply Kd.S_alloc|apply Kd.S_drewN|apply Kd.S_drew));exact (Kd.S_mono (Kd.S_far (p:=⟨gb46,7,none⟩) (Kd.S_far (p:=⟨gb46,6,none⟩) (Kd.S_far (p:=⟨gb46,5,none⟩) (Kd.S_far (p:=⟨gb46,4,none⟩) (Kd.S_far (p:=⟨gb46,3,none⟩) (Kd.S_far (p:=⟨gb46,2,none⟩) (Kd.S_far (p:=⟨gb46,1,none⟩) (Kd.S_far (p:=⟨gb46,0,none⟩) (Kd.S_types HO56.out BK46.out (by decide)) (fun _ hk=>hk.2) (.string t49)) (fun _ hk=>hk.2) (.int .i64 t61)) (fun _ hk=>hk.2) (.slice Ao13 t50.length co13)) (fun _ hk=>hk.2) (.slice Ao14 t51.length co14)) (fun _ hk=>hk.2) (.slice Ao15 t52.length co15)) (fun _ hk=>hk.2) (.slice Ao16 t53.length co16)) (fun _ hk=>hk.2) (.slice Ao17 t54.length co17)) (fun _ hk=>hk.2) (.slice Ao18 t63.length co18)) (fun _ h_=>h_.1))) hb);have n1_:=am (Kd.R_below (by (with_reducible repeat (first|apply Kd.R_alloc|apply Kd.R_drewN|apply Kd.R_drew));exact (Kd.R_mono (rf (Kd.R_types HO57.out BK46.out (by decide))) (fun _ h_=>h_.1))) hb);have n2_:=am (Kd.R_below (by (with_reducible repeat (first|apply Kd.R_alloc|apply Kd.R_drewN|apply Kd.R_drew));exact (Kd.R_mono (rf (Kd.R_types HO58.out BK46.out (by decide))) (fun _ h_=>h_.1))) hb);have n3_:=am (Kd.R_below (by (with_reducible repeat (first|apply Kd.R_alloc|apply Kd.R_drewN|apply Kd.R_drew));exact (Kd.R_mono (rf (Kd.R_types HO59.out BK46.out (by decide))) (fun _ h_=>h_.1))) hb);have n4_:=am (Kd.R_below (by (with_reducible repeat (first|apply Kd.R_alloc|apply Kd.R_drewN|apply Kd.R_drew));exact (Kd.R_mono (rf (Kd.R_types HO60.out BK46.out (by decide))) (fun _ h_=>h_.1))) hb);have n5_:=am (Kd.R_below (by (with_reducible repeat (first|apply Kd.R_alloc|apply Kd.R_drewN|apply Kd.R_drew));exact (Kd.R_mono (rf (Kd.R_types HO55.out BK46.out (by decide))) (fun _ h_=>h_.1))) hb);have n6_:=am (blk_below (ks BK47) hb);have n7_:=am (blk_below (ks BK45) hb);have n8_:=am (blk_below (g:=gb46) (o:=.cells #[.string t49,.int .i64 t61,.slice Ao13 t50.length co13,.slice Ao14 t51.length co14,.slice Ao15 t52.length co15,.slice Ao16 t53.length co16,.slice Ao17 t54.length co17,.slice Ao18 t63.length co18] 42 (0,0)) (kp BK46) hb);have n9_:=am (below_step (bs HB) hb);clear HO56;clear HO57;clear HO58;clear HO59;clear HO60;clear HO55;clear BK47;clear BK45;clear BK46;clear HB;have HO56:=n0_;have HO57:=n1_;have HO58:=n2_;have HO59:=n3_;have HO60:=n4_;have HO55:=n5_;have BK47:=n6_;have BK45:=n7_;have BK46:=n8_;have HB:=n9_;clear n0_ n1_ n2_ n3_ n4_ n5_ n6_ n7_ n8_ n9_;(try clear hb);(try clear hb2);(try clear hk);(try clear hi)
 obtain rfl|rfl:=bt t65
 ·replace H:=itT H
  revert H;refine ie2 ?_ ?_
  ·intro c23b0 c23b1 H;replace H:=sj8 H;obtain ⟨rfl,rfl,rfl,rfl,rfl,rfl,rfl,rfl⟩:=H;have hnb24:=NB47_45.out;have hnc24:=NB45_47.out;have hnb25:=NB47_46.out;have hnc25:=NB46_47.out;have hcz26:=cf8 BK47;have hnb27:=NB46_45.out;have hnc27:=NB45_46.out;have hcz28:=cf8 BK46;have hcz29:=cf8 BK45
   go_wp2
   refine bodyPost_ret (results_cell_row rfl _ _ gb45 42 #[.string t49,.int .i64 t61,.slice Ao13 t50.length co13,.slice Ao14 t51.length co14,.slice Ao15 t52.length co15,.slice Ao16 t53.length co16,.slice Ao17 t54.length co17,.slice Ao18 t63.length co18] (0,0) _ rfl (kp BK45) Tryz.underlying42 rfl (by kernel_rfl)) rfl ?_
   exact ⟨_,_,_,_,_,_,ff,by (with_reducible repeat (first|apply Kd.S_alloc|apply Kd.S_drewN|apply Kd.S_drew));exact Kd.S_mono (Kd.S_far (p:=⟨gb45,7,none⟩) (Kd.S_far (p:=⟨gb45,6,none⟩) (Kd.S_far (p:=⟨gb45,5,none⟩) (Kd.S_far (p:=⟨gb45,4,none⟩) (Kd.S_far (p:=⟨gb45,3,none⟩) (Kd.S_far (p:=⟨gb45,2,none⟩) (Kd.S_far (p:=⟨gb45,1,none⟩) (Kd.S_far (p:=⟨gb45,0,none⟩) (Kd.S_types HO56.out BK45.out (by decide)) (fun _ hk=>hk.2) (.string t49)) (fun _ hk=>hk.2) (.int .i64 t61)) (fun _ hk=>hk.2) (.slice Ao13 t50.length co13)) (fun _ hk=>hk.2) (.slice Ao14 t51.length co14)) (fun _ hk=>hk.2) (.slice Ao15 t52.length co15)) (fun _ hk=>hk.2) (.slice Ao16 t53.length co16)) (fun _ hk=>hk.2) (.slice Ao17 t54.length co17)) (fun _ hk=>hk.2) (.slice Ao18 t63.length co18)) (fun _ hk=>trivial),Kd.R_mono (rf (Kd.R_types HO57.out BK45.out (by decide))) (fun _ hk=>trivial),Kd.R_mono (rf (Kd.R_types HO58.out BK45.out (by decide))) (fun _ hk=>trivial),Kd.R_mono (rf (Kd.R_types HO59.out BK45.out (by decide))) (fun _ hk=>trivial),Kd.R_mono (rf (Kd.R_types HO60.out BK45.out (by decide))) (fun _ hk=>trivial),Kd.R_mono (rf (Kd.R_types HO55.out BK45.out (by decide))) (fun _ hk=>trivial),bs HB⟩
  ·intro c23 c23b0 c23b1 H;replace H:=bo H;obtain ⟨⟨t48,t66,t67,t68⟩,A30,H⟩:=H;(try dsimp only at H);replace H:=sj8 H;obtain ⟨rfl,rfl,rfl,rfl,rfl,rfl,rfl,rfl⟩:=H;have hnb31:=NB47_45.out;have hnc31:=NB45_47.out;have hnb32:=NB47_46.out;have hnc32:=NB46_47.out;have hcz33:=cf8 BK47
   go_wp2_with (first|((first|((with_reducible refine gate_callee (f:=24) rfl ?_);refine goesL_ (some 16) rfl rfl Tryz.func24 (by kernel_rfl) rfl #[.agg #[.string a0_0,.int .i64 a0_1,.slice A0_2 l0_2.length c0_2,.slice A0_3 l0_3.length c0_3,.slice A0_4 l0_4.length c0_4,.slice A0_5 l0_5.length c0_5,.slice A0_6 l0_6.length c0_6,.slice A0_7 l0_7.length c0_7]] rfl (by (try simp only [List.map_toArray,List.map_cons,List.map_nil]);first|done|rfl|(simp only [List.length_drop,List.length_take];rfl)) ?_;(with_reducible refine (spec_GateDay.calls k a0_0 a0_1 _ _ l0_2 _ _ l0_3 _ _ l0_4 _ _ l0_5 _ _ l0_6 _ _ l0_7 t48 t66 t67 t68 _ (Kd.C_below HR0_2.out (bs HB)) HC0_2.out (Kd.C_below HR0_3.out (bs HB)) HC0_3.out (Kd.C_below HR0_4.out (bs HB)) HC0_4.out (Kd.C_below HR0_5.out (bs HB)) HC0_5.out (Kd.C_below HR0_6.out (bs HB)) HC0_6.out (Kd.C_below HR0_7.out (bs HB)) HC0_7.out A30.out).mono ?_);rintro e w34 ⟨v70,v71,v72,rfl,ho0,ho1,ho2,hb⟩;refine ⟨_,rfl,?_⟩)|(go_at_call 24;(with_reducible refine (spec_GateDay.calls k a0_0 a0_1 _ _ l0_2 _ _ l0_3 _ _ l0_4 _ _ l0_5 _ _ l0_6 _ _ l0_7 t48 t66 t67 t68 _ (Kd.C_below HR0_2.out (bs HB)) HC0_2.out (Kd.C_below HR0_3.out (bs HB)) HC0_3.out (Kd.C_below HR0_4.out (bs HB)) HC0_4.out (Kd.C_below HR0_5.out (bs HB)) HC0_5.out (Kd.C_below HR0_6.out (bs HB)) HC0_6.out (Kd.C_below HR0_7.out (bs HB)) HC0_7.out A30.out).mono ?_);rintro e w34 ⟨v70,v71,v72,rfl,ho0,ho1,ho2,hb⟩));have n0_:=am (Kd.S_below (by (with_reducible repeat (first|apply Kd.S_alloc|apply Kd.S_drewN|apply Kd.S_drew));exact HO56.out) hb);have n1_:=am (Kd.R_below (rs HO57) hb);have n2_:=am (Kd.R_below (rs HO58) hb);have n3_:=am (Kd.R_below (rs HO59) hb);have n4_:=am (Kd.R_below (rs HO60) hb);have n5_:=am (Kd.R_mono (Kd.R_told (Kd.R_told (Kd.R_old (rs HO55) hb) (Kd.R_base ho0)) (Kd.R_base ho2)) (fun _ h_=>h_.1));have n6_:=am (Kd.R_lower (Kd.R_new' ho0 (Kd.R_lt (rs HO55))) (below_size (bs HB)));have n7_:=am (Kd.R_lower ho1 (below_size (bs HB)));have n8_:=am (Kd.R_lower (Kd.R_new' ho2 (Kd.R_lt (rs HO55))) (below_size (bs HB)));have n9_:=am (blk_below (ks BK47) hb);have n10_:=am (blk_below (ks BK45) hb);have n11_:=am (blk_below (ks BK46) hb);have n12_:=am (below_step (bs HB) hb);clear HO56;clear HO57;clear HO58;clear HO59;clear HO60;clear HO55;clear BK47;clear BK45;clear BK46;clear HB;have HO56:=n0_;have HO57:=n1_;have HO58:=n2_;have HO59:=n3_;have HO60:=n4_;have HO55:=n5_;have HO69:=n6_;have HO79:=n7_;have HO80:=n8_;have BK47:=n9_;have BK45:=n10_;have BK46:=n11_;have HB:=n12_;clear n0_ n1_ n2_ n3_ n4_ n5_ n6_ n7_ n8_ n9_ n10_ n11_ n12_;(try clear hb);(try clear hb2);(try clear hk);(try clear hi);(try clear ho0);(try clear ho1);(try clear ho2);obtain ⟨Ao35,co35,eo35⟩:=Kd.R_slice HO69.out;subst eo35;have hnb36:=NB46_45.out;have hnc36:=NB45_46.out;have hcz37:=cf8 BK46;have hcz38:=cf8 BK47;have hcz39:=cf8 BK45))
   refine bodyPost_ret (results_cell_row rfl _ _ gb45 42 #[.string t49,.int .i64 (wrap64 (a0_1+1)),.slice Ao13 t50.length co13,.slice Ao14 t51.length co14,.slice Ao15 t52.length co15,.slice Ao16 t53.length co16,.slice Ao17 t54.length co17,.slice Ao35 t48.length co35] (0,0) _ rfl (kp BK45) Tryz.underlying42 rfl (by kernel_rfl)) rfl ?_
   exact ⟨_,_,_,_,_,_,ff,by (with_reducible repeat (first|apply Kd.S_alloc|apply Kd.S_drewN|apply Kd.S_drew));exact Kd.S_mono (Kd.S_far (p:=⟨gb45,7,none⟩) (Kd.S_far (p:=⟨gb45,6,none⟩) (Kd.S_far (p:=⟨gb45,5,none⟩) (Kd.S_far (p:=⟨gb45,4,none⟩) (Kd.S_far (p:=⟨gb45,3,none⟩) (Kd.S_far (p:=⟨gb45,2,none⟩) (Kd.S_far (p:=⟨gb45,1,none⟩) (Kd.S_far (p:=⟨gb45,0,none⟩) (Kd.S_far (p:=⟨gb46,1,none⟩) (Kd.S_far (p:=⟨gb46,7,none⟩) (Kd.S_types (Kd.S_types HO56.out BK46.out (by decide)) BK45.out (by decide)) (fun _ hk=>hk.1.2) (.slice Ao35 t48.length co35)) (fun _ hk=>hk.1.2) (.int .i64 (wrap64 (a0_1+1)))) (fun _ hk=>hk.2) (.string t49)) (fun _ hk=>hk.2) (.int .i64 (wrap64 (a0_1+1)))) (fun _ hk=>hk.2) (.slice Ao13 t50.length co13)) (fun _ hk=>hk.2) (.slice Ao14 t51.length co14)) (fun _ hk=>hk.2) (.slice Ao15 t52.length co15)) (fun _ hk=>hk.2) (.slice Ao16 t53.length co16)) (fun _ hk=>hk.2) (.slice Ao17 t54.length co17)) (fun _ hk=>hk.2) (.slice Ao35 t48.length co35)) (fun _ hk=>trivial),by (with_reducible repeat (first|apply Kd.R_alloc|apply Kd.R_drewN|apply Kd.R_drew));exact Kd.R_mono (Kd.R_far (p:=⟨gb45,7,none⟩) (Kd.R_far (p:=⟨gb45,6,none⟩) (Kd.R_far (p:=⟨gb45,5,none⟩) (Kd.R_far (p:=⟨gb45,4,none⟩) (Kd.R_far (p:=⟨gb45,3,none⟩) (Kd.R_far (p:=⟨gb45,2,none⟩) (Kd.R_far (p:=⟨gb45,1,none⟩) (Kd.R_far (p:=⟨gb45,0,none⟩) (Kd.R_far (p:=⟨gb46,1,none⟩) (Kd.R_far (p:=⟨gb46,7,none⟩) (Kd.R_types (Kd.R_types HO57.out BK46.out (by decide)) BK45.out (by decide)) (fun _ hk=>hk.1.2) (.slice Ao35 t48.length co35)) (fun _ hk=>hk.1.2) (.int .i64 (wrap64 (a0_1+1)))) (fun _ hk=>hk.2) (.string t49)) (fun _ hk=>hk.2) (.int .i64 (wrap64 (a0_1+1)))) (fun _ hk=>hk.2) (.slice Ao13 t50.length co13)) (fun _ hk=>hk.2) (.slice Ao14 t51.length co14)) (fun _ hk=>hk.2) (.slice Ao15 t52.length co15)) (fun _ hk=>hk.2) (.slice Ao16 t53.length co16)) (fun _ hk=>hk.2) (.slice Ao17 t54.length co17)) (fun _ hk=>hk.2) (.slice Ao35 t48.length co35)) (fun _ hk=>trivial),by (with_reducible repeat (first|apply Kd.R_alloc|apply Kd.R_drewN|apply Kd.R_drew));exact Kd.R_mono (Kd.R_far (p:=⟨gb45,7,none⟩) (Kd.R_far (p:=⟨gb45,6,none⟩) (Kd.R_far (p:=⟨gb45,5,none⟩) (Kd.R_far (p:=⟨gb45,4,none⟩) (Kd.R_far (p:=⟨gb45,3,none⟩) (Kd.R_far (p:=⟨gb45,2,none⟩) (Kd.R_far (p:=⟨gb45,1,none⟩) (Kd.R_far (p:=⟨gb45,0,none⟩) (Kd.R_far (p:=⟨gb46,1,none⟩) (Kd.R_far (p:=⟨gb46,7,none⟩) (Kd.R_types (Kd.R_types HO58.out BK46.out (by decide)) BK45.out (by decide)) (fun _ hk=>hk.1.2) (.slice Ao35 t48.length co35)) (fun _ hk=>hk.1.2) (.int .i64 (wrap64 (a0_1+1)))) (fun _ hk=>hk.2) (.string t49)) (fun _ hk=>hk.2) (.int .i64 (wrap64 (a0_1+1)))) (fun _ hk=>hk.2) (.slice Ao13 t50.length co13)) (fun _ hk=>hk.2) (.slice Ao14 t51.length co14)) (fun _ hk=>hk.2) (.slice Ao15 t52.length co15)) (fun _ hk=>hk.2) (.slice Ao16 t53.length co16)) (fun _ hk=>hk.2) (.slice Ao17 t54.length co17)) (fun _ hk=>hk.2) (.slice Ao35 t48.length co35)) (fun _ hk=>trivial),by (with_reducible repeat (first|apply Kd.R_alloc|apply Kd.R_drewN|apply Kd.R_drew));exact Kd.R_mono (Kd.R_far (p:=⟨gb45,7,none⟩) (Kd.R_far (p:=⟨gb45,6,none⟩) (Kd.R_far (p:=⟨gb45,5,none⟩) (Kd.R_far (p:=⟨gb45,4,none⟩) (Kd.R_far (p:=⟨gb45,3,none⟩) (Kd.R_far (p:=⟨gb45,2,none⟩) (Kd.R_far (p:=⟨gb45,1,none⟩) (Kd.R_far (p:=⟨gb45,0,none⟩) (Kd.R_far (p:=⟨gb46,1,none⟩) (Kd.R_far (p:=⟨gb46,7,none⟩) (Kd.R_types (Kd.R_types HO59.out BK46.out (by decide)) BK45.out (by decide)) (fun _ hk=>hk.1.2) (.slice Ao35 t48.length co35)) (fun _ hk=>hk.1.2) (.int .i64 (wrap64 (a0_1+1)))) (fun _ hk=>hk.2) (.string t49)) (fun _ hk=>hk.2) (.int .i64 (wrap64 (a0_1+1)))) (fun _ hk=>hk.2) (.slice Ao13 t50.length co13)) (fun _ hk=>hk.2) (.slice Ao14 t51.length co14)) (fun _ hk=>hk.2) (.slice Ao15 t52.length co15)) (fun _ hk=>hk.2) (.slice Ao16 t53.length co16)) (fun _ hk=>hk.2) (.slice Ao17 t54.length co17)) (fun _ hk=>hk.2) (.slice Ao35 t48.length co35)) (fun _ hk=>trivial),by (with_reducible repeat (first|apply Kd.R_alloc|apply Kd.R_drewN|apply Kd.R_drew));exact Kd.R_mono (Kd.R_far (p:=⟨gb45,7,none⟩) (Kd.R_far (p:=⟨gb45,6,none⟩) (Kd.R_far (p:=⟨gb45,5,none⟩) (Kd.R_far (p:=⟨gb45,4,none⟩) (Kd.R_far (p:=⟨gb45,3,none⟩) (Kd.R_far (p:=⟨gb45,2,none⟩) (Kd.R_far (p:=⟨gb45,1,none⟩) (Kd.R_far (p:=⟨gb45,0,none⟩) (Kd.R_far (p:=⟨gb46,1,none⟩) (Kd.R_far (p:=⟨gb46,7,none⟩) (Kd.R_types (Kd.R_types HO60.out BK46.out (by decide)) BK45.out (by decide)) (fun _ hk=>hk.1.2) (.slice Ao35 t48.length co35)) (fun _ hk=>hk.1.2) (.int .i64 (wrap64 (a0_1+1)))) (fun _ hk=>hk.2) (.string t49)) (fun _ hk=>hk.2) (.int .i64 (wrap64 (a0_1+1)))) (fun _ hk=>hk.2) (.slice Ao13 t50.length co13)) (fun _ hk=>hk.2) (.slice Ao14 t51.length co14)) (fun _ hk=>hk.2) (.slice Ao15 t52.length co15)) (fun _ hk=>hk.2) (.slice Ao16 t53.length co16)) (fun _ hk=>hk.2) (.slice Ao17 t54.length co17)) (fun _ hk=>hk.2) (.slice Ao35 t48.length co35)) (fun _ hk=>trivial),by (with_reducible repeat (first|apply Kd.R_alloc|apply Kd.R_drewN|apply Kd.R_drew));exact Kd.R_mono (Kd.R_far (p:=⟨gb45,7,none⟩) (Kd.R_far (p:=⟨gb45,6,none⟩) (Kd.R_far (p:=⟨gb45,5,none⟩) (Kd.R_far (p:=⟨gb45,4,none⟩) (Kd.R_far (p:=⟨gb45,3,none⟩) (Kd.R_far (p:=⟨gb45,2,none⟩) (Kd.R_far (p:=⟨gb45,1,none⟩) (Kd.R_far (p:=⟨gb45,0,none⟩) (Kd.R_far (p:=⟨gb46,1,none⟩) (Kd.R_far (p:=⟨gb46,7,none⟩) (Kd.R_types (Kd.R_types HO69.out BK46.out (by decide)) BK45.out (by decide)) (fun _ hk=>hk.1.2) (.slice Ao35 t48.length co35)) (fun _ hk=>hk.1.2) (.int .i64 (wrap64 (a0_1+1)))) (fun _ hk=>hk.2) (.string t49)) (fun _ hk=>hk.2) (.int .i64 (wrap64 (a0_1+1)))) (fun _ hk=>hk.2) (.slice Ao13 t50.length co13)) (fun _ hk=>hk.2) (.slice Ao14 t51.length co14)) (fun _ hk=>hk.2) (.slice Ao15 t52.length co15)) (fun _ hk=>hk.2) (.slice Ao16 t53.length co16)) (fun _ hk=>hk.2) (.slice Ao17 t54.length co17)) (fun _ hk=>hk.2) (.slice Ao35 t48.length co35)) (fun _ hk=>trivial),bs HB⟩
 ·replace H:=itF H;replace H:=sj8 H;obtain ⟨rfl,rfl,rfl,rfl,rfl,rfl,rfl,rfl⟩:=H;have hnb40:=NB46_47.out;have hnc40:=NB47_46.out;have hnb41:=NB46_45.out;have hnc41:=NB45_46.out;have hcz42:=cf8 BK46;have hnb43:=NB45_47.out;have hnc43:=NB47_45.out;have hcz44:=cf8 BK45
  go_wp2
  refine bodyPost_ret (results_cell_row rfl _ _ gb45 42 #[.string t49,.int .i64 t61,.slice Ao13 t50.length co13,.slice Ao14 t51.length co14,.slice Ao15 t52.length co15,.slice Ao16 t53.length co16,.slice Ao17 t54.length co17,.slice Ao18 t63.length co18] (0,0) _ rfl (kp BK45) Tryz.underlying42 rfl (by kernel_rfl)) rfl ?_
  exact ⟨_,_,_,_,_,_,ff,by (with_reducible repeat (first|apply Kd.S_alloc|apply Kd.S_drewN|apply Kd.S_drew));exact Kd.S_mono (Kd.S_far (p:=⟨gb45,7,none⟩) (Kd.S_far (p:=⟨gb45,6,none⟩) (Kd.S_far (p:=⟨gb45,5,none⟩) (Kd.S_far (p:=⟨gb45,4,none⟩) (Kd.S_far (p:=⟨gb45,3,none⟩) (Kd.S_far (p:=⟨gb45,2,none⟩) (Kd.S_far (p:=⟨gb45,1,none⟩) (Kd.S_far (p:=⟨gb45,0,none⟩) (Kd.S_types HO56.out BK45.out (by decide)) (fun _ hk=>hk.2) (.string t49)) (fun _ hk=>hk.2) (.int .i64 t61)) (fun _ hk=>hk.2) (.slice Ao13 t50.length co13)) (fun _ hk=>hk.2) (.slice Ao14 t51.length co14)) (fun _ hk=>hk.2) (.slice Ao15 t52.length co15)) (fun _ hk=>hk.2) (.slice Ao16 t53.length co16)) (fun _ hk=>hk.2) (.slice Ao17 t54.length co17)) (fun _ hk=>hk.2) (.slice Ao18 t63.length co18)) (fun _ hk=>trivial),Kd.R_mono (rf (Kd.R_types HO57.out BK45.out (by decide))) (fun _ hk=>trivial),Kd.R_mono (rf (Kd.R_types HO58.out BK45.out (by decide))) (fun _ hk=>trivial),Kd.R_mono (rf (Kd.R_types HO59.out BK45.out (by decide))) (fun _ hk=>trivial),Kd.R_mono (rf (Kd.R_types HO60.out BK45.out (by decide))) (fun _ hk=>trivial),Kd.R_mono (rf (Kd.R_types HO55.out BK45.out (by decide))) (fun _ hk=>trivial),bs HB⟩
theorem slices_Clone_implSeen.calls (A0:Option Addr) (c0:Nat) (l0:List S155) (r:List S155) (w:World) (hr0:Kd.C k155 w A0 l0.length l0) (hc0:l0.length≤c0) (h:slices_Clone_implSeen.f l0=some r) :
  Calls Tryz.prog 123 #[.slice A0 l0.length c0] w fun e w'=>∃ v0_:Value,e=.returned (v0_)∧Kd.R k155 155 w' w.heap.size (fun _=>True) v0_ r∧Below w.heap.size w w':=by
 unfold slices_Clone_implSeen.f at h
 by_cases hl:l0.length<5864062014805
 ·rw [if_pos hl] at h
  obtain rfl:=Option.some.inj h
  cases A0 with
  | none =>
   have h0:l0.length=0:=by
    by_cases g:0<l0.length
    ·obtain ⟨ad,e,_⟩:=hr0.2.2 g
     cases e
    ·omega
   obtain rfl:l0=[]:=List.eq_nil_of_length_eq_zero h0;clear hr0 hl h h0
   have hq:∀ W,(binOp .eql 81 (.slice none 0 c0) (.slice none 0 0)).run Tryz.prog W=.ok (.bool true) W:=fun W=>Lib.run_eql_slice_nil W _ _ none _ _ _ _ Tryz.underlying81
   simp only [List.length_nil]
   go_in
   go_wp2
   go_ret
   exact ⟨_,rfl,Kd.R_nil _ _ _ _ _,Below.refl _ _⟩
  | some a0 =>
   have HB:=am (Below.refl w.heap.size w);have HR0:=am hr0;have HL:=am hl;clear hr0 hl h hc0
   have hq:∀ W,(binOp .eql 81 (.slice (some a0) l0.length c0) (.slice none 0 0)).run Tryz.prog W=.ok (.bool false) W:=fun W=>Lib.run_eql_slice_nil W _ _ (some a0) _ _ _ _ Tryz.underlying81
   go_in
   go_wp2_with (first|((with_reducible refine gate_dst (N:=5) rfl ?_);refine rl k155 155 (N:=5) (xs:=([]:List S155)) (inner:=[]) ?hp ?_;(case hp=>exact (Reps.none _ _));intro v1 w5 ho6 hb hg_ hnew_;clear hg_ hnew_;have HO1:=am (Kd.R_lower ho6 (below_size (bs HB)));replace HB:=bq HB hb;clear hb ho6)|((with_reducible refine gate_builtin (b:=.append) (xs:=#[.tmp 5,.tmp 6]) rfl ?_);at_builtin;refine Kd.R_append_rows k155 (w0:=w) w.heap.size rfl (.tmp 5) (.tmp 6) 81 155 ((.agg #[(.int .i64 0),(.int .i64 0),(.int .i64 0)])) 24 rfl Tryz.underlying81 info155 rfl (by decide) (by omega) v1 [] l0 _ _ _ (fun _=>True) (fun _=>False) rfl rfl ?aO ?aR (fun _ _ h=>h) (fun _ h=>h.elim) ?aF ?aB ?aS ?aL ?_;(case aR=>repeat (first|exact (Kd.C_below HR0.out HB.out)|(with_reducible refine Kd.C_alloc ?_ _)|(with_reducible refine Kd.C_drewN ?_ _)|(with_reducible refine Kd.C_drew ?_)));(case aB=>exact (bs HB));(case aF=>exact (fun _ _=>trivial));(case aO=>exact (rs HO1));(case aS=>exact (below_size (bs HB)));(case aL=>have:=HL.out;simp only [List.length_nil];omega);intro v2 w6 ho hb hg hat;have HO2:=am ho;replace HB:=am hb;clear ho hb hg hat HO1))
   go_ret
   exact ⟨_,rfl,by (with_reducible repeat (first|apply Kd.R_alloc|apply Kd.R_drewN|apply Kd.R_drew));exact HO2.out,bs HB⟩
 ·rw [if_neg hl] at h
  cases h
theorem impl_ownPartner.calls (a0_0:ByteArray) (a0_1:Int) (a0_2:Int) (A0_3:Option Addr) (c0_3:Nat) (l0_3:List (S155)) (r1:ByteArray) (r2:Int) (r3:Int) (r4:List (S155)) (w:World) (hr0_3:Kd.C k155 w A0_3 l0_3.length l0_3) (hc0_3:l0_3.length≤c0_3) (H:impl_ownPartner.f a0_0 a0_1 a0_2 l0_3=some (r1,r2,r3,r4)) :
  Calls Tryz.prog 77 #[.agg #[.string a0_0,.int .i64 a0_1,.int .i64 a0_2,.slice A0_3 l0_3.length c0_3]] w fun e w'=>∃ v3_:Value,e=.returned (.agg #[.string r1,.int .i64 r2,.int .i64 r3,v3_])∧Kd.R k155 155 w' w.heap.size (fun _=>True) v3_ r4∧Below w.heap.size w w':=by
 have hu83:=Tryz.underlying83;have HR0_3:=am hr0_3;have HC0_3:=am hc0_3;clear hr0_3 hc0_3;have HB:=am (Below.refl w.heap.size w);unfold impl_ownPartner.f at H;replace H:=bo H;obtain ⟨t13,A2,H⟩:=H;replace H:=sj4 H;obtain ⟨rfl,rfl,rfl,rfl⟩:=H
 go_in
 go_wp2_with (first|((with_reducible refine gate_dst (N:=1) rfl ?_);refine bz 1 (cs:=#[.string a0_0,.int .i64 a0_1,.int .i64 a0_2,.slice A0_3 l0_3.length c0_3]) (t:=83) HB ?_;clear HB;intro gb11 hg w3 BK11 GW11 hb HB;clear hb hg)|((with_reducible refine gate_dst (N:=2) rfl ?_);refine bz 2 (cs:=#[.string (⟨#[]⟩:ByteArray),.int .i64 0,.int .i64 0,.slice none 0 0]) (t:=83) HB ?_;clear HB;intro gb12 hg w4 BK12 GW12 hb HB;have NB11_12:=na hg BK11;have NB12_11:=nc hg BK11;replace BK11:=bb BK11 hb;clear hb hg;have hnb5:=NB11_12.out;have hnc5:=NB12_11.out;have hcz6_0:w4.cell? ⟨gb11,0,none⟩=some (.string a0_0):=(blk_cell BK11.out 0).trans rfl;have hcz6_1:w4.cell? ⟨gb11,1,none⟩=some (.int .i64 a0_1):=(blk_cell BK11.out 1).trans rfl;have hcz6_2:w4.cell? ⟨gb11,2,none⟩=some (.int .i64 a0_2):=(blk_cell BK11.out 2).trans rfl;have hcz6_3:w4.cell? ⟨gb11,3,none⟩=some (.slice A0_3 l0_3.length c0_3):=(blk_cell BK11.out 3).trans rfl;have hfz6_0:=blk_frozen BK11.out 0;have hfz6_1:=blk_frozen BK11.out 1;have hfz6_2:=blk_frozen BK11.out 2;have hfz6_3:=blk_frozen BK11.out 3)|((first|((with_reducible refine gate_callee (f:=123) rfl ?_);refine goesL_ (some 5) rfl rfl Tryz.func123 (by kernel_rfl) rfl #[.slice A0_3 l0_3.length c0_3] rfl (by (try simp only [List.map_toArray,List.map_cons,List.map_nil]);first|done|rfl|(simp only [List.length_drop,List.length_take];rfl)) ?_;(with_reducible refine (slices_Clone_implSeen.calls _ _ l0_3 t13 _ (Kd.C_below HR0_3.out (bs HB)) HC0_3.out A2.out).mono ?_);rintro e w7 ⟨v15,rfl,ho0,hb⟩;refine ⟨_,rfl,?_⟩)|(go_at_call 123;(with_reducible refine (slices_Clone_implSeen.calls _ _ l0_3 t13 _ (Kd.C_below HR0_3.out (bs HB)) HC0_3.out A2.out).mono ?_);rintro e w7 ⟨v15,rfl,ho0,hb⟩));have HO14:=am (Kd.R_lower ho0 (below_size (bs HB)));replace BK11:=bb BK11 hb;replace BK12:=bb BK12 hb;replace HB:=bq HB hb;(try clear hb);(try clear hb2);(try clear hk);(try clear hi);(try clear ho0);obtain ⟨Ao8,co8,eo8⟩:=Kd.R_slice HO14.out;subst eo8;have hcz9:=cf4 BK11;have hcz10:=cf4 BK12))
 refine bodyPost_ret (results_cell_row rfl _ _ gb12 83 #[.string a0_0,.int .i64 a0_1,.int .i64 a0_2,.slice Ao8 t13.length co8] (0,0) _ rfl (kp BK12) Tryz.underlying83 rfl (by kernel_rfl)) rfl ?_
 exact ⟨_,ff,by (with_reducible repeat (first|apply Kd.R_alloc|apply Kd.R_drewN|apply Kd.R_drew));exact Kd.R_mono (Kd.R_far (p:=⟨gb12,3,none⟩) (Kd.R_far (p:=⟨gb12,2,none⟩) (Kd.R_far (p:=⟨gb12,1,none⟩) (Kd.R_far (p:=⟨gb12,0,none⟩) (Kd.R_far (p:=⟨gb11,3,none⟩) (Kd.R_types (Kd.R_types HO14.out BK11.out (by decide)) BK12.out (by decide)) (fun _ hk=>hk.1.2) (.slice Ao8 t13.length co8)) (fun _ hk=>hk.2) (.string a0_0)) (fun _ hk=>hk.2) (.int .i64 a0_1)) (fun _ hk=>hk.2) (.int .i64 a0_2)) (fun _ hk=>hk.2) (.slice Ao8 t13.length co8)) (fun _ hk=>trivial),bs HB⟩
theorem slices_Clone_implCross.calls (A0:Option Addr) (c0:Nat) (l0:List S114) (r:List S114) (w:World) (hr0:Kd.C k114 w A0 l0.length l0) (hc0:l0.length≤c0) (h:slices_Clone_implCross.f l0=some r) :
  Calls Tryz.prog 78 #[.slice A0 l0.length c0] w fun e w'=>∃ v0_:Value,e=.returned (v0_)∧Kd.R k114 114 w' w.heap.size (fun _=>True) v0_ r∧Below w.heap.size w w':=by
 unfold slices_Clone_implCross.f at h
 by_cases hl:l0.length<2932031007402
 ·rw [if_pos hl] at h
  obtain rfl:=Option.some.inj h
  cases A0 with
  | none =>
   have h0:l0.length=0:=by
    by_cases g:0<l0.length
    ·obtain ⟨ad,e,_⟩:=hr0.2.2 g
     cases e
    ·omega
   obtain rfl:l0=[]:=List.eq_nil_of_length_eq_zero h0;clear hr0 hl h h0
   have hq:∀ W,(binOp .eql 34 (.slice none 0 c0) (.slice none 0 0)).run Tryz.prog W=.ok (.bool true) W:=fun W=>Lib.run_eql_slice_nil W _ _ none _ _ _ _ Tryz.underlying34
   simp only [List.length_nil]
   go_in
   go_wp2
   go_ret
   exact ⟨_,rfl,Kd.R_nil _ _ _ _ _,Below.refl _ _⟩
  | some a0 =>
   have HB:=am (Below.refl w.heap.size w);have HR0:=am hr0;have HL:=am hl;clear hr0 hl h hc0
   have hq:∀ W,(binOp .eql 34 (.slice (some a0) l0.length c0) (.slice none 0 0)).run Tryz.prog W=.ok (.bool false) W:=fun W=>Lib.run_eql_slice_nil W _ _ (some a0) _ _ _ _ Tryz.underlying34
   go_in
   go_wp2_with (first|((with_reducible refine gate_dst (N:=5) rfl ?_);refine rl k114 114 (N:=5) (xs:=([]:List S114)) (inner:=[]) ?hp ?_;(case hp=>exact (Reps.none _ _));intro v1 w5 ho6 hb hg_ hnew_;clear hg_ hnew_;have HO1:=am (Kd.R_lower ho6 (below_size (bs HB)));replace HB:=bq HB hb;clear hb ho6)|((with_reducible refine gate_builtin (b:=.append) (xs:=#[.tmp 5,.tmp 6]) rfl ?_);at_builtin;refine Kd.R_append_rows k114 (w0:=w) w.heap.size rfl (.tmp 5) (.tmp 6) 34 114 ((.agg #[(.string ⟨#[]⟩),(.string ⟨#[]⟩),(.string ⟨#[]⟩)])) 48 rfl Tryz.underlying34 info114 rfl (by decide) (by omega) v1 [] l0 _ _ _ (fun _=>True) (fun _=>False) rfl rfl ?aO ?aR (fun _ _ h=>h) (fun _ h=>h.elim) ?aF ?aB ?aS ?aL ?_;(case aR=>repeat (first|exact (Kd.C_below HR0.out HB.out)|(with_reducible refine Kd.C_alloc ?_ _)|(with_reducible refine Kd.C_drewN ?_ _)|(with_reducible refine Kd.C_drew ?_)));(case aB=>exact (bs HB));(case aF=>exact (fun _ _=>trivial));(case aO=>exact (rs HO1));(case aS=>exact (below_size (bs HB)));(case aL=>have:=HL.out;simp only [List.length_nil];omega);intro v2 w6 ho hb hg hat;have HO2:=am ho;replace HB:=am hb;clear ho hb hg hat HO1))
   go_ret
   exact ⟨_,rfl,by (with_reducible repeat (first|apply Kd.R_alloc|apply Kd.R_drewN|apply Kd.R_drew));exact HO2.out,bs HB⟩
 ·rw [if_neg hl] at h
  cases h
theorem slices_Clone_implStock.calls (A0:Option Addr) (c0:Nat) (l0:List S152) (r:List S152) (w:World) (hr0:Kd.C k152 w A0 l0.length l0) (hc0:l0.length≤c0) (h:slices_Clone_implStock.f l0=some r) :
  Calls Tryz.prog 124 #[.slice A0 l0.length c0] w fun e w'=>∃ v0_:Value,e=.returned (v0_)∧Kd.R k152 152 w' w.heap.size (fun _=>True) v0_ r∧Below w.heap.size w w':=by
 unfold slices_Clone_implStock.f at h
 by_cases hl:l0.length<5864062014805
 ·rw [if_pos hl] at h
  obtain rfl:=Option.some.inj h
  cases A0 with
  | none =>
   have h0:l0.length=0:=by
    by_cases g:0<l0.length
    ·obtain ⟨ad,e,_⟩:=hr0.2.2 g
     cases e
    ·omega
   obtain rfl:l0=[]:=List.eq_nil_of_length_eq_zero h0;clear hr0 hl h h0
   have hq:∀ W,(binOp .eql 35 (.slice none 0 c0) (.slice none 0 0)).run Tryz.prog W=.ok (.bool true) W:=fun W=>Lib.run_eql_slice_nil W _ _ none _ _ _ _ Tryz.underlying35
   simp only [List.length_nil]
   go_in
   go_wp2
   go_ret
   exact ⟨_,rfl,Kd.R_nil _ _ _ _ _,Below.refl _ _⟩
  | some a0 =>
   have HB:=am (Below.refl w.heap.size w);have HR0:=am hr0;have HL:=am hl;clear hr0 hl h hc0
   have hq:∀ W,(binOp .eql 35 (.slice (some a0) l0.length c0) (.slice none 0 0)).run Tryz.prog W=.ok (.bool false) W:=fun W=>Lib.run_eql_slice_nil W _ _ (some a0) _ _ _ _ Tryz.underlying35
   go_in
   go_wp2_with (first|((with_reducible refine gate_dst (N:=5) rfl ?_);refine rl k152 152 (N:=5) (xs:=([]:List S152)) (inner:=[]) ?hp ?_;(case hp=>exact (Reps.none _ _));intro v1 w5 ho6 hb hg_ hnew_;clear hg_ hnew_;have HO1:=am (Kd.R_lower ho6 (below_size (bs HB)));replace HB:=bq HB hb;clear hb ho6)|((with_reducible refine gate_builtin (b:=.append) (xs:=#[.tmp 5,.tmp 6]) rfl ?_);at_builtin;refine Kd.R_append_rows k152 (w0:=w) w.heap.size rfl (.tmp 5) (.tmp 6) 35 152 ((.agg #[(.string ⟨#[]⟩),(.int .i64 0)])) 24 rfl Tryz.underlying35 info152 rfl (by decide) (by omega) v1 [] l0 _ _ _ (fun _=>True) (fun _=>False) rfl rfl ?aO ?aR (fun _ _ h=>h) (fun _ h=>h.elim) ?aF ?aB ?aS ?aL ?_;(case aR=>repeat (first|exact (Kd.C_below HR0.out HB.out)|(with_reducible refine Kd.C_alloc ?_ _)|(with_reducible refine Kd.C_drewN ?_ _)|(with_reducible refine Kd.C_drew ?_)));(case aB=>exact (bs HB));(case aF=>exact (fun _ _=>trivial));(case aO=>exact (rs HO1));(case aS=>exact (below_size (bs HB)));(case aL=>have:=HL.out;simp only [List.length_nil];omega);intro v2 w6 ho hb hg hat;have HO2:=am ho;replace HB:=am hb;clear ho hb hg hat HO1))
   go_ret
   exact ⟨_,rfl,by (with_reducible repeat (first|apply Kd.R_alloc|apply Kd.R_drewN|apply Kd.R_drew));exact HO2.out,bs HB⟩
 ·rw [if_neg hl] at h
  cases h
theorem slices_Clone_implOrderLine.calls (A0:Option Addr) (c0:Nat) (l0:List S161) (r:List S161) (w:World) (hr0:Kd.C k161 w A0 l0.length l0) (hc0:l0.length≤c0) (h:slices_Clone_implOrderLine.f l0=some r) :
  Calls Tryz.prog 125 #[.slice A0 l0.length c0] w fun e w'=>∃ v0_:Value,e=.returned (v0_)∧Kd.R k161 161 w' w.heap.size (fun _=>True) v0_ r∧Below w.heap.size w w':=by
 unfold slices_Clone_implOrderLine.f at h
 by_cases hl:l0.length<1599289640401
 ·rw [if_pos hl] at h
  obtain rfl:=Option.some.inj h
  cases A0 with
  | none =>
   have h0:l0.length=0:=by
    by_cases g:0<l0.length
    ·obtain ⟨ad,e,_⟩:=hr0.2.2 g
     cases e
    ·omega
   obtain rfl:l0=[]:=List.eq_nil_of_length_eq_zero h0;clear hr0 hl h h0
   have hq:∀ W,(binOp .eql 36 (.slice none 0 c0) (.slice none 0 0)).run Tryz.prog W=.ok (.bool true) W:=fun W=>Lib.run_eql_slice_nil W _ _ none _ _ _ _ Tryz.underlying36
   simp only [List.length_nil]
   go_in
   go_wp2
   go_ret
   exact ⟨_,rfl,Kd.R_nil _ _ _ _ _,Below.refl _ _⟩
  | some a0 =>
   have HB:=am (Below.refl w.heap.size w);have HR0:=am hr0;have HL:=am hl;clear hr0 hl h hc0
   have hq:∀ W,(binOp .eql 36 (.slice (some a0) l0.length c0) (.slice none 0 0)).run Tryz.prog W=.ok (.bool false) W:=fun W=>Lib.run_eql_slice_nil W _ _ (some a0) _ _ _ _ Tryz.underlying36
   go_in
   go_wp2_with (first|((with_reducible refine gate_dst (N:=5) rfl ?_);refine rl k161 161 (N:=5) (xs:=([]:List S161)) (inner:=[]) ?hp ?_;(case hp=>exact (Reps.none _ _));intro v1 w5 ho6 hb hg_ hnew_;clear hg_ hnew_;have HO1:=am (Kd.R_lower ho6 (below_size (bs HB)));replace HB:=bq HB hb;clear hb ho6)|((with_reducible refine gate_builtin (b:=.append) (xs:=#[.tmp 5,.tmp 6]) rfl ?_);at_builtin;refine Kd.R_append_rows k161 (w0:=w) w.heap.size rfl (.tmp 5) (.tmp 6) 36 161 ((.agg #[(.string ⟨#[]⟩),(.string ⟨#[]⟩),(.int .i64 0),(.string ⟨#[]⟩),(.int .i64 0),(.int .i64 0),(.int .i64 0),(.int .i64 0)])) 88 rfl Tryz.underlying36 info161 rfl (by decide) (by omega) v1 [] l0 _ _ _ (fun _=>True) (fun _=>False) rfl rfl ?aO ?aR (fun _ _ h=>h) (fun _ h=>h.elim) ?aF ?aB ?aS ?aL ?_;(case aR=>repeat (first|exact (Kd.C_below HR0.out HB.out)|(with_reducible refine Kd.C_alloc ?_ _)|(with_reducible refine Kd.C_drewN ?_ _)|(with_reducible refine Kd.C_drew ?_)));(case aB=>exact (bs HB));(case aF=>exact (fun _ _=>trivial));(case aO=>exact (rs HO1));(case aS=>exact (below_size (bs HB)));(case aL=>have:=HL.out;simp only [List.length_nil];omega);intro v2 w6 ho hb hg hat;have HO2:=am ho;replace HB:=am hb;clear ho hb hg hat HO1))
   go_ret
   exact ⟨_,rfl,by (with_reducible repeat (first|apply Kd.R_alloc|apply Kd.R_drewN|apply Kd.R_drew));exact HO2.out,bs HB⟩
 ·rw [if_neg hl] at h
  cases h
def impl_ownBook.T1:Bool × List (List Nat × List Nat):=(true,[([],[]),([0],[0]),([1],[1]),([],[]),([3],[3]),([4,2],[4]),([2,5],[2,5]),([6,5,0,1,2,3,4,5,6],[6])])
def impl_ownBook.B1:List Nat:=[0,1,3,0,8,31,63,127]
theorem impl_ownBook.tab1:rtab .any (opsOf Tryz.f79 1)=impl_ownBook.T1:=by kernel_rfl
theorem impl_ownBook.bits1:waitsOk impl_ownBook.T1.2 impl_ownBook.B1=true:=by kernel_rfl
theorem impl_ownBook.calls (A0_0:Option Addr) (c0_0:Nat) (l0_0:List (S152)) (A0_1:Option Addr) (c0_1:Nat) (l0_1:List (S161)) (r1:List (S152)) (r2:List (S161)) (w:World) (hr0_0:Kd.C k152 w A0_0 l0_0.length l0_0) (hc0_0:l0_0.length≤c0_0) (hr0_1:Kd.C k161 w A0_1 l0_1.length l0_1) (hc0_1:l0_1.length≤c0_1) (H:impl_ownBook.f l0_0 l0_1=some (r1,r2)) :
  Calls Tryz.prog 79 #[.agg #[.slice A0_0 l0_0.length c0_0,.slice A0_1 l0_1.length c0_1]] w fun e w'=>∃ v0_ v1_:Value,e=.returned (.agg #[v0_,v1_])∧Kd.R k152 152 w' w.heap.size (fun _=>True) v0_ r1∧Kd.R k161 161 w' w.heap.size (fun _=>True) v1_ r2∧Below w.heap.size w w':=by
 have hu38:=Tryz.underlying38;have HR0_0:=am hr0_0;have HC0_0:=am hc0_0;clear hr0_0 hc0_0;have HR0_1:=am hr0_1;have HC0_1:=am hc0_1;clear hr0_1 hc0_1;have HB:=am (Below.refl w.heap.size w);unfold impl_ownBook.f at H;replace H:=bo H;obtain ⟨t16,A2,H⟩:=H;replace H:=bo H;obtain ⟨t17,A3,H⟩:=H;replace H:=sj2 H;obtain ⟨rfl,rfl⟩:=H
 go_in
 try go_wp2_with (first|((with_reducible refine gate_dst (N:=1) rfl ?_);refine bz 1 (cs:=#[.slice A0_0 l0_0.length c0_0,.slice A0_1 l0_1.length c0_1]) (t:=38) HB ?_;clear HB;intro gb14 hg w4 BK14 GW14 hb HB;clear hb hg)|((with_reducible refine gate_dst (N:=2) rfl ?_);refine bz 2 (cs:=#[.slice none 0 0,.slice none 0 0]) (t:=38) HB ?_;clear HB;intro gb13 hg w5 BK13 GW13 hb HB;have NB14_13:=na hg BK14;have NB13_14:=nc hg BK14;replace BK14:=bb BK14 hb;clear hb hg))
 replace BK14:=am (blk_drew BK14.out);replace BK13:=am (blk_drew BK13.out);replace HB:=am (below_drew1 HB.out);refine sta 8 (hb2 BK14) (fun hHeld=>?_);refine with_tabW impl_ownBook.tab1 impl_ownBook.bits1 (fun HT_ HW_=>?_)
 generalize w5.drew=w6 at BK14 BK13 HB hHeld ⊢
 refine pA 0 3 HT_ ?_;refine pA 3 6 HT_ ?_;refine tA 1 4 HT_ HW_ hHeld ?_;refine tA 4 7 HT_ HW_ hHeld ?_;refine oA 2 5 HT_ (fun K hK=>?_);refine gA Tryz.func124 #[.slice A0_0 l0_0.length c0_0] ?_;(with_reducible refine (slices_Clone_implStock.calls _ _ l0_0 t16 _ ?side1 ?side2 A2.out).mono ?_)
 (case side1=>exact sd (Kd.C_below HR0_0.out HB.out))
 (case side2=>exact HC0_0.out)
 rintro e w7 ⟨v19,rfl,ho0,hb⟩;refine ⟨_,rfl,?_⟩;have HO15:=am (Kd.R_lower ho0 (below_size (bs HB)));replace BK14:=bb BK14 hb;replace BK13:=bb BK13 hb;replace HB:=bq HB hb;(try clear hb);(try clear hb2);(try clear hk);(try clear hi);(try clear ho0);refine hK.out _ _ (hb2 BK14).out (fun hHeld=>?_);clear hK K;refine nA 5 ?_;refine oA 5 8 HT_ (fun K hK=>?_);refine gA Tryz.func125 #[.slice A0_1 l0_1.length c0_1] ?_;(with_reducible refine (slices_Clone_implOrderLine.calls _ _ l0_1 t17 _ ?side1 ?side2 A3.out).mono ?_)
 (case side1=>exact sd (Kd.C_below HR0_1.out HB.out))
 (case side2=>exact HC0_1.out)
 rintro e w8 ⟨v20,rfl,ho0,hb⟩;refine ⟨_,rfl,?_⟩;replace HO15:=am (Kd.R_below (rs HO15) hb);have HO18:=am (Kd.R_lower ho0 (below_size (bs HB)));replace BK14:=bb BK14 hb;replace BK13:=bb BK13 hb;replace HB:=bq HB hb;(try clear hb);(try clear hb2);(try clear hk);(try clear hi);(try clear ho0);obtain ⟨Ao9,co9,eo9⟩:=Kd.R_slice HO18.out
 (first|subst eo9|(injection eo9 with f1_ f2_ f3_;have f4_:=f1_.symm;have f5_:=f3_.symm;clear f1_ f2_ f3_;subst f4_;subst f5_))
 obtain ⟨Ao10,co10,eo10⟩:=Kd.R_slice HO15.out
 (first|subst eo10|(injection eo10 with f1_ f2_ f3_;have f4_:=f1_.symm;have f5_:=f3_.symm;clear f1_ f2_ f3_;subst f4_;subst f5_))
 refine hK.out _ _ (hb2 BK14).out (fun hHeld=>?_);clear hK K;refine nA 8 ?_;refine pA 6 9 HT_ ?_;refine one_ (i:=7) (N:=none) #[true,true,true,true,true,true,true,true] rfl rfl (one_of HT_.out (by kernel_rfl)) (by decide) (fun K hK=>?_);have hs11:w8.cell? ⟨gb13,0,none⟩=some (.slice none 0 0):=(blk_cell BK13.out 0).trans rfl;have hfs11:=blk_frozen BK13.out 0;have hns11_0:=NB14_13.out;have hms11_0:=NB13_14.out;have hs12:w8.cell? ⟨gb13,1,none⟩=some (.slice none 0 0):=(blk_cell BK13.out 1).trans rfl;have hfs12:=blk_frozen BK13.out 1;have hns12_0:=NB14_13.out;have hms12_0:=NB13_14.out;refine skip_ (w1:=?_) (by rfl) rfl ?_ ?_
 rotate_left
 ·go_simp
  rfl
 refine hK.out _ _ ⟨((cell_far (p:=⟨gb13,_,none⟩) NB14_13.out _).trans (((cell_far (p:=⟨gb13,_,none⟩) NB14_13.out _).trans (hHeld.1)))),((cell_far (p:=⟨gb13,_,none⟩) NB14_13.out _).trans (((cell_far (p:=⟨gb13,_,none⟩) NB14_13.out _).trans (hHeld.2))))⟩ (fun hHeld=>?_);clear hK K;refine done_ (done_of HT_.out (by kernel_rfl)) ?_
 try go_wp2
 refine bodyPost_ret (results_cell_row rfl _ _ gb13 38 #[.slice Ao10 t16.length co10,.slice Ao9 t17.length co9] (0,0) _ rfl (kp BK13) Tryz.underlying38 rfl (by kernel_rfl)) rfl ?_
 exact ⟨_,_,ff,Kd.R_mono (rf (Kd.R_types HO15.out BK13.out (by decide))) (fun _ hk=>trivial),Kd.R_mono (rf (Kd.R_types HO18.out BK13.out (by decide))) (fun _ hk=>trivial),bs HB⟩
theorem slices_Clone_implDiff.calls (A0:Option Addr) (c0:Nat) (l0:List S118) (r:List S118) (w:World) (hr0:Kd.C k118 w A0 l0.length l0) (hc0:l0.length≤c0) (h:slices_Clone_implDiff.f l0=some r) :
  Calls Tryz.prog 80 #[.slice A0 l0.length c0] w fun e w'=>∃ v0_:Value,e=.returned (v0_)∧Kd.R k118 118 w' w.heap.size (fun _=>True) v0_ r∧Below w.heap.size w w':=by
 unfold slices_Clone_implDiff.f at h
 by_cases hl:l0.length<1954687338268
 ·rw [if_pos hl] at h
  obtain rfl:=Option.some.inj h
  cases A0 with
  | none =>
   have h0:l0.length=0:=by
    by_cases g:0<l0.length
    ·obtain ⟨ad,e,_⟩:=hr0.2.2 g
     cases e
    ·omega
   obtain rfl:l0=[]:=List.eq_nil_of_length_eq_zero h0;clear hr0 hl h h0
   have hq:∀ W,(binOp .eql 39 (.slice none 0 c0) (.slice none 0 0)).run Tryz.prog W=.ok (.bool true) W:=fun W=>Lib.run_eql_slice_nil W _ _ none _ _ _ _ Tryz.underlying39
   simp only [List.length_nil]
   go_in
   go_wp2
   go_ret
   exact ⟨_,rfl,Kd.R_nil _ _ _ _ _,Below.refl _ _⟩
  | some a0 =>
   have HB:=am (Below.refl w.heap.size w);have HR0:=am hr0;have HL:=am hl;clear hr0 hl h hc0
   have hq:∀ W,(binOp .eql 39 (.slice (some a0) l0.length c0) (.slice none 0 0)).run Tryz.prog W=.ok (.bool false) W:=fun W=>Lib.run_eql_slice_nil W _ _ (some a0) _ _ _ _ Tryz.underlying39
   go_in
   go_wp2_with (first|((with_reducible refine gate_dst (N:=5) rfl ?_);refine rl k118 118 (N:=5) (xs:=([]:List S118)) (inner:=[]) ?hp ?_;(case hp=>exact (Reps.none _ _));intro v1 w5 ho6 hb hg_ hnew_;clear hg_ hnew_;have HO1:=am (Kd.R_lower ho6 (below_size (bs HB)));replace HB:=bq HB hb;clear hb ho6)|((with_reducible refine gate_builtin (b:=.append) (xs:=#[.tmp 5,.tmp 6]) rfl ?_);at_builtin;refine Kd.R_append_rows k118 (w0:=w) w.heap.size rfl (.tmp 5) (.tmp 6) 39 118 ((.agg #[(.int .i64 0),(.string ⟨#[]⟩),(.string ⟨#[]⟩),(.int .i64 0),(.string ⟨#[]⟩),(.int .i64 0)])) 72 rfl Tryz.underlying39 info118 rfl (by decide) (by omega) v1 [] l0 _ _ _ (fun _=>True) (fun _=>False) rfl rfl ?aO ?aR (fun _ _ h=>h) (fun _ h=>h.elim) ?aF ?aB ?aS ?aL ?_;(case aR=>repeat (first|exact (Kd.C_below HR0.out HB.out)|(with_reducible refine Kd.C_alloc ?_ _)|(with_reducible refine Kd.C_drewN ?_ _)|(with_reducible refine Kd.C_drew ?_)));(case aB=>exact (bs HB));(case aF=>exact (fun _ _=>trivial));(case aO=>exact (rs HO1));(case aS=>exact (below_size (bs HB)));(case aL=>have:=HL.out;simp only [List.length_nil];omega);intro v2 w6 ho hb hg hat;have HO2:=am ho;replace HB:=am hb;clear ho hb hg hat HO1))
   go_ret
   exact ⟨_,rfl,by (with_reducible repeat (first|apply Kd.R_alloc|apply Kd.R_drewN|apply Kd.R_drew));exact HO2.out,bs HB⟩
 ·rw [if_neg hl] at h
  cases h
theorem slices_Clone_implOut.calls (A0:Option Addr) (c0:Nat) (l0:List S120) (r:List S120) (w:World) (hr0:Kd.C k120 w A0 l0.length l0) (hc0:l0.length≤c0) (h:slices_Clone_implOut.f l0=some r) :
  Calls Tryz.prog 81 #[.slice A0 l0.length c0] w fun e w'=>∃ v0_:Value,e=.returned (v0_)∧Kd.R k120 120 w' w.heap.size (fun _=>True) v0_ r∧Below w.heap.size w w':=by
 unfold slices_Clone_implOut.f at h
 by_cases hl:l0.length<2513169434916
 ·rw [if_pos hl] at h
  obtain rfl:=Option.some.inj h
  cases A0 with
  | none =>
   have h0:l0.length=0:=by
    by_cases g:0<l0.length
    ·obtain ⟨ad,e,_⟩:=hr0.2.2 g
     cases e
    ·omega
   obtain rfl:l0=[]:=List.eq_nil_of_length_eq_zero h0;clear hr0 hl h h0
   have hq:∀ W,(binOp .eql 40 (.slice none 0 c0) (.slice none 0 0)).run Tryz.prog W=.ok (.bool true) W:=fun W=>Lib.run_eql_slice_nil W _ _ none _ _ _ _ Tryz.underlying40
   simp only [List.length_nil]
   go_in
   go_wp2
   go_ret
   exact ⟨_,rfl,Kd.R_nil _ _ _ _ _,Below.refl _ _⟩
  | some a0 =>
   have HB:=am (Below.refl w.heap.size w);have HR0:=am hr0;have HL:=am hl;clear hr0 hl h hc0
   have hq:∀ W,(binOp .eql 40 (.slice (some a0) l0.length c0) (.slice none 0 0)).run Tryz.prog W=.ok (.bool false) W:=fun W=>Lib.run_eql_slice_nil W _ _ (some a0) _ _ _ _ Tryz.underlying40
   go_in
   go_wp2_with (first|((with_reducible refine gate_dst (N:=5) rfl ?_);refine rl k120 120 (N:=5) (xs:=([]:List S120)) (inner:=[]) ?hp ?_;(case hp=>exact (Reps.none _ _));intro v1 w5 ho6 hb hg_ hnew_;clear hg_ hnew_;have HO1:=am (Kd.R_lower ho6 (below_size (bs HB)));replace HB:=bq HB hb;clear hb ho6)|((with_reducible refine gate_builtin (b:=.append) (xs:=#[.tmp 5,.tmp 6]) rfl ?_);at_builtin;refine Kd.R_append_rows k120 (w0:=w) w.heap.size rfl (.tmp 5) (.tmp 6) 40 120 ((.agg #[(.string ⟨#[]⟩),(.int .i64 0),(.string ⟨#[]⟩),(.int .i64 0),(.int .i64 0)])) 56 rfl Tryz.underlying40 info120 rfl (by decide) (by omega) v1 [] l0 _ _ _ (fun _=>True) (fun _=>False) rfl rfl ?aO ?aR (fun _ _ h=>h) (fun _ h=>h.elim) ?aF ?aB ?aS ?aL ?_;(case aR=>repeat (first|exact (Kd.C_below HR0.out HB.out)|(with_reducible refine Kd.C_alloc ?_ _)|(with_reducible refine Kd.C_drewN ?_ _)|(with_reducible refine Kd.C_drew ?_)));(case aB=>exact (bs HB));(case aF=>exact (fun _ _=>trivial));(case aO=>exact (rs HO1));(case aS=>exact (below_size (bs HB)));(case aL=>have:=HL.out;simp only [List.length_nil];omega);intro v2 w6 ho hb hg hat;have HO2:=am ho;replace HB:=am hb;clear ho hb hg hat HO1))
   go_ret
   exact ⟨_,rfl,by (with_reducible repeat (first|apply Kd.R_alloc|apply Kd.R_drewN|apply Kd.R_drew));exact HO2.out,bs HB⟩
 ·rw [if_neg hl] at h
  cases h
end Go.Proofs.YtomoflpgdbjojaaGreat.QN
