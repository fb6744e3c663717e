-- Merged by a program of this session (wip/tool/pack.py) out of its own texts for this claim.
import Derived.Test.YtomoflpgdbjojaaGreatKFnExactGatePartner7
set_option maxHeartbeats 8000000
set_option maxRecDepth 100000
set_option linter.unusedSimpArgs false
set_option linter.unusedVariables false
namespace Go.Proofs.YtomoflpgdbjojaaGreat.QO
open Go.RowKit Go.Proofs.YtomoflpgdbjojaaGreatW.PrintWords Go.Proofs.YtomoflpgdbjojaaGreatW.PrintLast Go.Proofs.YtomoflpgdbjojaaGreatW.PrintMore
attribute [local go_sem] max2_int min2_int max_two min_two max_three min_three max_four min_four   -- for this text's walks alone
theorem laws_toGate.calls (k:Nat) (a0_0:ByteArray) (a0_1:Int) (A0_2:Option Addr) (c0_2:Nat) (l0_2:List (S93)) (A0_3:Option Addr) (c0_3:Nat) (l0_3:List (S96)) (A0_4:Option Addr) (c0_4:Nat) (l0_4:List (S147)) (A0_5:Option Addr) (c0_5:Nat) (l0_5:List (S150)) (A0_6:Option Addr) (c0_6:Nat) (l0_6:List (S101)) (A0_7:Option Addr) (c0_7:Nat) (l0_7:List (S104)) (r1:ByteArray) (r2:Int) (r3:List (S83)) (r4:List (S114)) (r5:List (S152)) (r6:List (S161)) (r7:List (S118)) (r8:List (S120)) (w:World) (hr0_2:Kd.C k93 w A0_2 l0_2.length l0_2) (hc0_2:l0_2.length≤c0_2) (hr0_3:Kd.C k96 w A0_3 l0_3.length l0_3) (hc0_3:l0_3.length≤c0_3) (hr0_4:Kd.C k147 w A0_4 l0_4.length l0_4) (hc0_4:l0_4.length≤c0_4) (hr0_5:Kd.C k150 w A0_5 l0_5.length l0_5) (hc0_5:l0_5.length≤c0_5) (hr0_6:Kd.C k101 w A0_6 l0_6.length l0_6) (hc0_6:l0_6.length≤c0_6) (hr0_7:Kd.C k104 w A0_7 l0_7.length l0_7) (hc0_7:l0_7.length≤c0_7) (H:laws_toGate.f k a0_0 a0_1 l0_2 l0_3 l0_4 l0_5 l0_6 l0_7=some (r1,r2,r3,r4,r5,r6,r7,r8)) :
  Calls Tryz.prog 7 #[.agg #[.string a0_0,.int .i64 a0_1,.slice A0_2 l0_2.length c0_2,.slice A0_3 l0_3.length c0_3,.slice A0_4 l0_4.length c0_4,.slice A0_5 l0_5.length c0_5,.slice A0_6 l0_6.length c0_6,.slice A0_7 l0_7.length c0_7]] w fun e w'=>∃ v2_ v3_ v4_ v5_ v6_ v7_:Value,e=.returned (.agg #[.string r1,.int .i64 r2,v2_,v3_,v4_,v5_,v6_,v7_])∧Kd.S k83 83 w' w.heap.size (fun _=>True) v2_ r3∧Kd.R k114 114 w' w.heap.size (fun _=>True) v3_ r4∧Kd.R k152 152 w' w.heap.size (fun _=>True) v4_ r5∧Kd.R k161 161 w' w.heap.size (fun _=>True) v5_ r6∧Kd.R k118 118 w' w.heap.size (fun _=>True) v6_ r7∧Kd.R k120 120 w' w.heap.size (fun _=>True) v7_ r8∧Below w.heap.size w w':=by
 have hu31:=Tryz.underlying31;have hu42:=Tryz.underlying42;have hu27:=Tryz.underlying27;have hu38:=Tryz.underlying38;have HR0_2:=am hr0_2;have HC0_2:=am hc0_2;clear hr0_2 hc0_2;have HR0_3:=am hr0_3;have HC0_3:=am hc0_3;clear hr0_3 hc0_3;have HR0_4:=am hr0_4;have HC0_4:=am hc0_4;clear hr0_4 hc0_4;have HR0_5:=am hr0_5;have HC0_5:=am hc0_5;clear hr0_5 hc0_5;have HR0_6:=am hr0_6;have HC0_6:=am hc0_6;clear hr0_6 hc0_6;have HR0_7:=am hr0_7;have HC0_7:=am hc0_7;clear hr0_7 hc0_7;have HB:=am (Below.refl w.heap.size w);unfold laws_toGate.f at H;replace H:=bo H;obtain ⟨t41,A2,H⟩:=H;replace H:=bo H;obtain ⟨t44,A3,H⟩:=H;replace H:=bo H;obtain ⟨⟨t45,t46⟩,A4,H⟩:=H;(try dsimp only at H);replace H:=bo H;obtain ⟨t47,A5,H⟩:=H;replace H:=bo H;obtain ⟨t40,A6,H⟩:=H;replace H:=sj8 H;obtain ⟨rfl,rfl,rfl,rfl,rfl,rfl,rfl,rfl⟩:=H
 go_in
 go_wp2_with (first|((with_reducible refine gate_dst (N:=1) rfl ?_);refine bz 1 (cs:=#[.string a0_0,.int .i64 a0_1,.slice A0_2 l0_2.length c0_2,.slice A0_3 l0_3.length c0_3,.slice A0_4 l0_4.length c0_4,.slice A0_5 l0_5.length c0_5,.slice A0_6 l0_6.length c0_6,.slice A0_7 l0_7.length c0_7]) (t:=31) HB ?_;clear HB;intro gb36 hg w7 BK36 GW36 hb HB;clear hb hg)|((with_reducible refine gate_dst (N:=2) rfl ?_);refine bz 2 (cs:=#[.string (⟨#[]⟩:ByteArray),.int .i64 0,.slice none 0 0,.slice none 0 0,.slice none 0 0,.slice none 0 0,.slice none 0 0,.slice none 0 0]) (t:=42) HB ?_;clear HB;intro gb39 hg w8 BK39 GW39 hb HB;have NB36_39:=na hg BK36;have NB39_36:=nc hg BK36;replace BK36:=bb BK36 hb;clear hb hg)|((with_reducible refine gate_dst (N:=3) rfl ?_);refine bz 3 (cs:=#[.string (⟨#[]⟩:ByteArray),.int .i64 0,.slice none 0 0,.slice none 0 0,.slice none 0 0,.slice none 0 0,.slice none 0 0,.slice none 0 0]) (t:=42) HB ?_;clear HB;intro gb37 hg w9 BK37 GW37 hb HB;have NB36_37:=na hg BK36;have NB37_36:=nc hg BK36;replace BK36:=bb BK36 hb;have NB39_37:=na hg BK39;have NB37_39:=nc hg BK39;replace BK39:=bb BK39 hb;clear hb hg;have hnb10:=NB36_39.out;have hnc10:=NB39_36.out;have hnb11:=NB36_37.out;have hnc11:=NB37_36.out;have hcz12:=cf8 BK36;have hnb13:=NB37_39.out;have hnc13:=NB39_37.out;have hcz14_0:w9.cell? ⟨gb37,0,none⟩=some (.string (⟨#[]⟩:ByteArray)):=(blk_cell BK37.out 0).trans rfl;have hcz14_1:w9.cell? ⟨gb37,1,none⟩=some (.int .i64 0):=(blk_cell BK37.out 1).trans rfl;have hcz14_2:w9.cell? ⟨gb37,2,none⟩=some (.slice none 0 0):=(blk_cell BK37.out 2).trans rfl;have hcz14_3:w9.cell? ⟨gb37,3,none⟩=some (.slice none 0 0):=(blk_cell BK37.out 3).trans rfl;have hcz14_4:w9.cell? ⟨gb37,4,none⟩=some (.slice none 0 0):=(blk_cell BK37.out 4).trans rfl;have hcz14_5:w9.cell? ⟨gb37,5,none⟩=some (.slice none 0 0):=(blk_cell BK37.out 5).trans rfl;have hcz14_6:w9.cell? ⟨gb37,6,none⟩=some (.slice none 0 0):=(blk_cell BK37.out 6).trans rfl;have hcz14_7:w9.cell? ⟨gb37,7,none⟩=some (.slice none 0 0):=(blk_cell BK37.out 7).trans rfl;have hfz14_0:=blk_frozen BK37.out 0;have hfz14_1:=blk_frozen BK37.out 1;have hfz14_2:=blk_frozen BK37.out 2;have hfz14_3:=blk_frozen BK37.out 3;have hfz14_4:=blk_frozen BK37.out 4;have hfz14_5:=blk_frozen BK37.out 5;have hfz14_6:=blk_frozen BK37.out 6;have hfz14_7:=blk_frozen BK37.out 7)|((first|((with_reducible refine gate_callee (f:=25) rfl ?_);refine goesL_ (some 12) rfl rfl Tryz.func25 (by kernel_rfl) rfl #[.slice A0_2 l0_2.length c0_2] rfl (by (try simp only [List.map_toArray,List.map_cons,List.map_nil]);first|done|rfl|(simp only [List.length_drop,List.length_take];rfl)) ?_;(with_reducible refine (laws_toPartnerS.calls k _ _ l0_2 t41 _ ?side1 HC0_2.out A2.out).mono ?_);(case side1=>exact Kd.C_below HR0_2.out (bs HB));rintro e w15 ⟨v53,rfl,ho0,hb⟩;refine ⟨_,rfl,?_⟩)|(go_at_call 25;(with_reducible refine (laws_toPartnerS.calls k _ _ l0_2 t41 _ ?side1 HC0_2.out A2.out).mono ?_);(case side1=>exact Kd.C_below HR0_2.out (bs HB));rintro e w15 ⟨v53,rfl,ho0,hb⟩));have HO43:=am (Kd.S_lower ho0 (below_size (bs HB)));replace BK36:=bb BK36 hb;replace BK39:=bb BK39 hb;replace BK37:=am (blk_below (g:=gb37) (o:=.cells #[.string a0_0,.int .i64 a0_1,.slice none 0 0,.slice none 0 0,.slice none 0 0,.slice none 0 0,.slice none 0 0,.slice none 0 0] 42 (0,0)) (kp BK37) hb);replace HB:=bq HB hb;(try clear hb);(try clear hb2);(try clear hk);(try clear hi);(try clear ho0);obtain ⟨Ao16,co16,eo16⟩:=Kd.S_slice HO43.out;subst eo16;have hcz17:=cf8 BK37;have hcz18_0:w15.cell? ⟨gb36,0,none⟩=some (.string a0_0):=(blk_cell BK36.out 0).trans rfl;have hcz18_1:w15.cell? ⟨gb36,1,none⟩=some (.int .i64 a0_1):=(blk_cell BK36.out 1).trans rfl;have hcz18_2:w15.cell? ⟨gb36,2,none⟩=some (.slice A0_2 l0_2.length c0_2):=(blk_cell BK36.out 2).trans rfl;have hcz18_3:w15.cell? ⟨gb36,3,none⟩=some (.slice A0_3 l0_3.length c0_3):=(blk_cell BK36.out 3).trans rfl;have hcz18_4:w15.cell? ⟨gb36,4,none⟩=some (.slice A0_4 l0_4.length c0_4):=(blk_cell BK36.out 4).trans rfl;have hcz18_5:w15.cell? ⟨gb36,5,none⟩=some (.slice A0_5 l0_5.length c0_5):=(blk_cell BK36.out 5).trans rfl;have hcz18_6:w15.cell? ⟨gb36,6,none⟩=some (.slice A0_6 l0_6.length c0_6):=(blk_cell BK36.out 6).trans rfl;have hcz18_7:w15.cell? ⟨gb36,7,none⟩=some (.slice A0_7 l0_7.length c0_7):=(blk_cell BK36.out 7).trans rfl;have hfz18_0:=blk_frozen BK36.out 0;have hfz18_1:=blk_frozen BK36.out 1;have hfz18_2:=blk_frozen BK36.out 2;have hfz18_3:=blk_frozen BK36.out 3;have hfz18_4:=blk_frozen BK36.out 4;have hfz18_5:=blk_frozen BK36.out 5;have hfz18_6:=blk_frozen BK36.out 6;have hfz18_7:=blk_frozen BK36.out 7)|((first|((with_reducible refine gate_callee (f:=26) rfl ?_);refine goesL_ (some 16) rfl rfl Tryz.func26 (by kernel_rfl) rfl #[.slice A0_3 l0_3.length c0_3] rfl (by (try simp only [List.map_toArray,List.map_cons,List.map_nil]);first|done|rfl|(simp only [List.length_drop,List.length_take];rfl)) ?_;(with_reducible refine (laws_toCrossS.calls k _ _ l0_3 t44 _ ?side1 HC0_3.out A3.out).mono ?_);(case side1=>exact Kd.C_below HR0_3.out (bs HB));rintro e w19 ⟨v54,rfl,ho0,hb⟩;refine ⟨_,rfl,?_⟩)|(go_at_call 26;(with_reducible refine (laws_toCrossS.calls k _ _ l0_3 t44 _ ?side1 HC0_3.out A3.out).mono ?_);(case side1=>exact Kd.C_below HR0_3.out (bs HB));rintro e w19 ⟨v54,rfl,ho0,hb⟩));have n0_:=am (Kd.S_below (by (with_reducible repeat (first|apply Kd.S_alloc|apply Kd.S_drewN|apply Kd.S_drew));exact (Kd.S_mono (Kd.S_far (p:=⟨gb37,2,none⟩) (Kd.S_types HO43.out BK37.out (by decide)) (fun _ hk=>hk.2) (.slice Ao16 t41.length co16)) (fun _ h_=>h_.1))) hb);have n1_:=am (Kd.R_lower ho0 (below_size (bs HB)));have n2_:=am (blk_below (ks BK36) hb);have n3_:=am (blk_below (ks BK39) hb);have n4_:=am (blk_below (g:=gb37) (o:=.cells #[.string a0_0,.int .i64 a0_1,.slice Ao16 t41.length co16,.slice none 0 0,.slice none 0 0,.slice none 0 0,.slice none 0 0,.slice none 0 0] 42 (0,0)) (kp BK37) hb);have n5_:=am (below_step (bs HB) hb);clear HO43;clear BK36;clear BK39;clear BK37;clear HB;have HO43:=n0_;have HO48:=n1_;have BK36:=n2_;have BK39:=n3_;have BK37:=n4_;have HB:=n5_;clear n0_ n1_ n2_ n3_ n4_ n5_;(try clear hb);(try clear hb2);(try clear hk);(try clear hi);(try clear ho0);obtain ⟨Ao20,co20,eo20⟩:=Kd.R_slice HO48.out;subst eo20;have hcz21:=cf8 BK37;have hcz22_0:w19.cell? ⟨gb36,0,none⟩=some (.string a0_0):=(blk_cell BK36.out 0).trans rfl;have hcz22_1:w19.cell? ⟨gb36,1,none⟩=some (.int .i64 a0_1):=(blk_cell BK36.out 1).trans rfl;have hcz22_2:w19.cell? ⟨gb36,2,none⟩=some (.slice A0_2 l0_2.length c0_2):=(blk_cell BK36.out 2).trans rfl;have hcz22_3:w19.cell? ⟨gb36,3,none⟩=some (.slice A0_3 l0_3.length c0_3):=(blk_cell BK36.out 3).trans rfl;have hcz22_4:w19.cell? ⟨gb36,4,none⟩=some (.slice A0_4 l0_4.length c0_4):=(blk_cell BK36.out 4).trans rfl;have hcz22_5:w19.cell? ⟨gb36,5,none⟩=some (.slice A0_5 l0_5.length c0_5):=(blk_cell BK36.out 5).trans rfl;have hcz22_6:w19.cell? ⟨gb36,6,none⟩=some (.slice A0_6 l0_6.length c0_6):=(blk_cell BK36.out 6).trans rfl;have hcz22_7:w19.cell? ⟨gb36,7,none⟩=some (.slice A0_7 l0_7.length c0_7):=(blk_cell BK36.out 7).trans rfl;have hfz22_0:=blk_frozen BK36.out 0;have hfz22_1:=blk_frozen BK36.out 1;have hfz22_2:=blk_frozen BK36.out 2;have hfz22_3:=blk_frozen BK36.out 3;have hfz22_4:=blk_frozen BK36.out 4;have hfz22_5:=blk_frozen BK36.out 5;have hfz22_6:=blk_frozen BK36.out 6;have hfz22_7:=blk_frozen BK36.out 7)|((first|((with_reducible refine gate_callee (f:=27) rfl ?_);refine goesL_ (some 20) rfl rfl Tryz.func27 (by kernel_rfl) rfl #[.agg #[.slice A0_4 l0_4.length c0_4,.slice A0_5 l0_5.length c0_5]] rfl (by (try simp only [List.map_toArray,List.map_cons,List.map_nil]);first|done|rfl|(simp only [List.length_drop,List.length_take];rfl)) ?_;(with_reducible refine (laws_toBook.calls k _ _ l0_4 _ _ l0_5 t45 t46 _ ?side1 HC0_4.out ?side3 HC0_5.out A4.out).mono ?_);(case side1=>exact Kd.C_below HR0_4.out (bs HB));(case side3=>exact Kd.C_below HR0_5.out (bs HB));rintro e w23 ⟨v55,v56,rfl,ho0,ho1,hb⟩;refine ⟨_,rfl,?_⟩)|(go_at_call 27;(with_reducible refine (laws_toBook.calls k _ _ l0_4 _ _ l0_5 t45 t46 _ ?side1 HC0_4.out ?side3 HC0_5.out A4.out).mono ?_);(case side1=>exact Kd.C_below HR0_4.out (bs HB));(case side3=>exact Kd.C_below HR0_5.out (bs HB));rintro e w23 ⟨v55,v56,rfl,ho0,ho1,hb⟩));have n0_:=am (Kd.S_below (by (with_reducible repeat (first|apply Kd.S_alloc|apply Kd.S_drewN|apply Kd.S_drew));exact (Kd.S_mono (Kd.S_far (p:=⟨gb37,3,none⟩) (Kd.S_types HO43.out BK37.out (by decide)) (fun _ hk=>hk.2) (.slice Ao20 t44.length co20)) (fun _ h_=>h_.1))) hb);have n1_:=am (Kd.R_below (by (with_reducible repeat (first|apply Kd.R_alloc|apply Kd.R_drewN|apply Kd.R_drew));exact (Kd.R_mono (rf (Kd.R_types HO48.out BK37.out (by decide))) (fun _ h_=>h_.1))) hb);have n2_:=am (Kd.R_lower ho0 (below_size (bs HB)));have n3_:=am (Kd.R_lower ho1 (below_size (bs HB)));have n4_:=am (blk_below (ks BK36) hb);have n5_:=am (blk_below (ks BK39) hb);have n6_:=am (blk_below (g:=gb37) (o:=.cells #[.string a0_0,.int .i64 a0_1,.slice Ao16 t41.length co16,.slice Ao20 t44.length co20,.slice none 0 0,.slice none 0 0,.slice none 0 0,.slice none 0 0] 42 (0,0)) (kp BK37) hb);have n7_:=am (below_step (bs HB) hb);clear HO43;clear HO48;clear BK36;clear BK39;clear BK37;clear HB;have HO43:=n0_;have HO48:=n1_;have HO49:=n2_;have HO50:=n3_;have BK36:=n4_;have BK39:=n5_;have BK37:=n6_;have HB:=n7_;clear n0_ n1_ n2_ n3_ n4_ n5_ n6_ n7_;(try clear hb);(try clear hb2);(try clear hk);(try clear hi);(try clear ho0);(try clear ho1);obtain ⟨Ao24,co24,eo24⟩:=Kd.R_slice HO49.out;subst eo24;have hcz25:=cf8 BK37;obtain ⟨Ao26,co26,eo26⟩:=Kd.R_slice HO50.out;subst eo26;have hcz27_0:w23.cell? ⟨gb36,0,none⟩=some (.string a0_0):=(blk_cell BK36.out 0).trans rfl;have hcz27_1:w23.cell? ⟨gb36,1,none⟩=some (.int .i64 a0_1):=(blk_cell BK36.out 1).trans rfl;have hcz27_2:w23.cell? ⟨gb36,2,none⟩=some (.slice A0_2 l0_2.length c0_2):=(blk_cell BK36.out 2).trans rfl;have hcz27_3:w23.cell? ⟨gb36,3,none⟩=some (.slice A0_3 l0_3.length c0_3):=(blk_cell BK36.out 3).trans rfl;have hcz27_4:w23.cell? ⟨gb36,4,none⟩=some (.slice A0_4 l0_4.length c0_4):=(blk_cell BK36.out 4).trans rfl;have hcz27_5:w23.cell? ⟨gb36,5,none⟩=some (.slice A0_5 l0_5.length c0_5):=(blk_cell BK36.out 5).trans rfl;have hcz27_6:w23.cell? ⟨gb36,6,none⟩=some (.slice A0_6 l0_6.length c0_6):=(blk_cell BK36.out 6).trans rfl;have hcz27_7:w23.cell? ⟨gb36,7,none⟩=some (.slice A0_7 l0_7.length c0_7):=(blk_cell BK36.out 7).trans rfl;have hfz27_0:=blk_frozen BK36.out 0;have hfz27_1:=blk_frozen BK36.out 1;have hfz27_2:=blk_frozen BK36.out 2;have hfz27_3:=blk_frozen BK36.out 3;have hfz27_4:=blk_frozen BK36.out 4;have hfz27_5:=blk_frozen BK36.out 5;have hfz27_6:=blk_frozen BK36.out 6;have hfz27_7:=blk_frozen BK36.out 7)|((first|((with_reducible refine gate_callee (f:=28) rfl ?_);refine goesL_ (some 24) rfl rfl Tryz.func28 (by kernel_rfl) rfl #[.slice A0_6 l0_6.length c0_6] rfl (by (try simp only [List.map_toArray,List.map_cons,List.map_nil]);first|done|rfl|(simp only [List.length_drop,List.length_take];rfl)) ?_;(with_reducible refine (laws_toDiffS.calls k _ _ l0_6 t47 _ ?side1 HC0_6.out A5.out).mono ?_);(case side1=>exact Kd.C_below HR0_6.out (bs HB));rintro e w28 ⟨v57,rfl,ho0,hb⟩;refine ⟨_,rfl,?_⟩)|(go_at_call 28;(with_reducible refine (laws_toDiffS.calls k _ _ l0_6 t47 _ ?side1 HC0_6.out A5.out).mono ?_);(case side1=>exact Kd.C_below HR0_6.out (bs HB));rintro e w28 ⟨v57,rfl,ho0,hb⟩));have n0_:=am (Kd.S_below (by (with_reducible repeat (first|apply Kd.S_alloc|apply Kd.S_drewN|apply Kd.S_drew));exact (Kd.S_mono (Kd.S_far (p:=⟨gb37,5,none⟩) (Kd.S_far (p:=⟨gb37,4,none⟩) (Kd.S_types HO43.out BK37.out (by decide)) (fun _ hk=>hk.2) (.slice Ao24 t45.length co24)) (fun _ hk=>hk.2) (.slice Ao26 t46.length co26)) (fun _ h_=>h_.1))) hb);have n1_:=am (Kd.R_below (by (with_reducible repeat (first|apply Kd.R_alloc|apply Kd.R_drewN|apply Kd.R_drew));exact (Kd.R_mono (rf (Kd.R_types HO48.out BK37.out (by decide))) (fun _ h_=>h_.1))) hb);have n2_:=am (Kd.R_below (by (with_reducible repeat (first|apply Kd.R_alloc|apply Kd.R_drewN|apply Kd.R_drew));exact (Kd.R_mono (rf (Kd.R_types HO49.out BK37.out (by decide))) (fun _ h_=>h_.1))) hb);have n3_:=am (Kd.R_below (by (with_reducible repeat (first|apply Kd.R_alloc|apply Kd.R_drewN|apply Kd.R_drew));exact (Kd.R_mono (rf (Kd.R_types HO50.out BK37.out (by decide))) (fun _ h_=>h_.1))) hb);have n4_:=am (Kd.R_lower ho0 (below_size (bs HB)));have n5_:=am (blk_below (ks BK36) hb);have n6_:=am (blk_below (ks BK39) hb);have n7_:=am (blk_below (g:=gb37) (o:=.cells #[.string a0_0,.int .i64 a0_1,.slice Ao16 t41.length co16,.slice Ao20 t44.length co20,.slice Ao24 t45.length co24,.slice Ao26 t46.length co26,.slice none 0 0,.slice none 0 0] 42 (0,0)) (kp BK37) hb);have n8_:=am (below_step (bs HB) hb);clear HO43;clear HO48;clear HO49;clear HO50;clear BK36;clear BK39;clear BK37;clear HB;have HO43:=n0_;have HO48:=n1_;have HO49:=n2_;have HO50:=n3_;have HO51:=n4_;have BK36:=n5_;have BK39:=n6_;have BK37:=n7_;have HB:=n8_;clear n0_ n1_ n2_ n3_ n4_ n5_ n6_ n7_ n8_;(try clear hb);(try clear hb2);(try clear hk);(try clear hi);(try clear ho0);obtain ⟨Ao29,co29,eo29⟩:=Kd.R_slice HO51.out;subst eo29;have hcz30:=cf8 BK37;have hcz31_0:w28.cell? ⟨gb36,0,none⟩=some (.string a0_0):=(blk_cell BK36.out 0).trans rfl;have hcz31_1:w28.cell? ⟨gb36,1,none⟩=some (.int .i64 a0_1):=(blk_cell BK36.out 1).trans rfl;have hcz31_2:w28.cell? ⟨gb36,2,none⟩=some (.slice A0_2 l0_2.length c0_2):=(blk_cell BK36.out 2).trans rfl;have hcz31_3:w28.cell? ⟨gb36,3,none⟩=some (.slice A0_3 l0_3.length c0_3):=(blk_cell BK36.out 3).trans rfl;have hcz31_4:w28.cell? ⟨gb36,4,none⟩=some (.slice A0_4 l0_4.length c0_4):=(blk_cell BK36.out 4).trans rfl;have hcz31_5:w28.cell? ⟨gb36,5,none⟩=some (.slice A0_5 l0_5.length c0_5):=(blk_cell BK36.out 5).trans rfl;have hcz31_6:w28.cell? ⟨gb36,6,none⟩=some (.slice A0_6 l0_6.length c0_6):=(blk_cell BK36.out 6).trans rfl;have hcz31_7:w28.cell? ⟨gb36,7,none⟩=some (.slice A0_7 l0_7.length c0_7):=(blk_cell BK36.out 7).trans rfl;have hfz31_0:=blk_frozen BK36.out 0;have hfz31_1:=blk_frozen BK36.out 1;have hfz31_2:=blk_frozen BK36.out 2;have hfz31_3:=blk_frozen BK36.out 3;have hfz31_4:=blk_frozen BK36.out 4;have hfz31_5:=blk_frozen BK36.out 5;have hfz31_6:=blk_frozen BK36.out 6;have hfz31_7:=blk_frozen BK36.out 7)|((first|((with_reducible refine gate_callee (f:=29) rfl ?_);refine goesL_ (some 28) rfl rfl Tryz.func29 (by kernel_rfl) rfl #[.slice A0_7 l0_7.length c0_7] rfl (by (try simp only [List.map_toArray,List.map_cons,List.map_nil]);first|done|rfl|(simp only [List.length_drop,List.length_take];rfl)) ?_;(with_reducible refine (laws_toOutS.calls k _ _ l0_7 t40 _ ?side1 HC0_7.out A6.out).mono ?_);(case side1=>exact Kd.C_below HR0_7.out (bs HB));rintro e w32 ⟨v58,rfl,ho0,hb⟩;refine ⟨_,rfl,?_⟩)|(go_at_call 29;(with_reducible refine (laws_toOutS.calls k _ _ l0_7 t40 _ ?side1 HC0_7.out A6.out).mono ?_);(case side1=>exact Kd.C_below HR0_7.out (bs HB));rintro e w32 ⟨v58,rfl,ho0,hb⟩));have n0_:=am (Kd.S_below (by (with_reducible repeat (first|apply Kd.S_alloc|apply Kd.S_drewN|apply Kd.S_drew));exact (Kd.S_mono (Kd.S_far (p:=⟨gb37,6,none⟩) (Kd.S_types HO43.out BK37.out (by decide)) (fun _ hk=>hk.2) (.slice Ao29 t47.length co29)) (fun _ h_=>h_.1))) hb);have n1_:=am (Kd.R_below (by (with_reducible repeat (first|apply Kd.R_alloc|apply Kd.R_drewN|apply Kd.R_drew));exact (Kd.R_mono (rf (Kd.R_types HO48.out BK37.out (by decide))) (fun _ h_=>h_.1))) hb);have n2_:=am (Kd.R_below (by (with_reducible repeat (first|apply Kd.R_alloc|apply Kd.R_drewN|apply Kd.R_drew));exact (Kd.R_mono (rf (Kd.R_types HO49.out BK37.out (by decide))) (fun _ h_=>h_.1))) hb);have n3_:=am (Kd.R_below (by (with_reducible repeat (first|apply Kd.R_alloc|apply Kd.R_drewN|apply Kd.R_drew));exact (Kd.R_mono (rf (Kd.R_types HO50.out BK37.out (by decide))) (fun _ h_=>h_.1))) hb);have n4_:=am (Kd.R_below (by (with_reducible repeat (first|apply Kd.R_alloc|apply Kd.R_drewN|apply Kd.R_drew));exact (Kd.R_mono (rf (Kd.R_types HO51.out BK37.out (by decide))) (fun _ h_=>h_.1))) hb);have n5_:=am (Kd.R_lower ho0 (below_size (bs HB)));have n6_:=am (blk_below (ks BK36) hb);have n7_:=am (blk_below (ks BK39) hb);have n8_:=am (blk_below (g:=gb37) (o:=.cells #[.string a0_0,.int .i64 a0_1,.slice Ao16 t41.length co16,.slice Ao20 t44.length co20,.slice Ao24 t45.length co24,.slice Ao26 t46.length co26,.slice Ao29 t47.length co29,.slice none 0 0] 42 (0,0)) (kp BK37) hb);have n9_:=am (below_step (bs HB) hb);clear HO43;clear HO48;clear HO49;clear HO50;clear HO51;clear BK36;clear BK39;clear BK37;clear HB;have HO43:=n0_;have HO48:=n1_;have HO49:=n2_;have HO50:=n3_;have HO51:=n4_;have HO52:=n5_;have BK36:=n6_;have BK39:=n7_;have BK37:=n8_;have HB:=n9_;clear n0_ n1_ n2_ n3_ n4_ n5_ n6_ n7_ n8_ n9_;(try clear hb);(try clear hb2);(try clear hk);(try clear hi);(try clear ho0);obtain ⟨Ao33,co33,eo33⟩:=Kd.R_slice HO52.out;subst eo33;have hcz34:=cf8 BK37;have hcz35:=cf8 BK39))
 refine bodyPost_ret (results_cell_row rfl _ _ gb39 42 #[.string a0_0,.int .i64 a0_1,.slice Ao16 t41.length co16,.slice Ao20 t44.length co20,.slice Ao24 t45.length co24,.slice Ao26 t46.length co26,.slice Ao29 t47.length co29,.slice Ao33 t40.length co33] (0,0) _ rfl (kp BK39) Tryz.underlying42 rfl (by kernel_rfl)) rfl ?_
 exact ⟨_,_,_,_,_,_,ff,by (with_reducible repeat (first|apply Kd.S_alloc|apply Kd.S_drewN|apply Kd.S_drew));exact Kd.S_mono (Kd.S_far (p:=⟨gb39,7,none⟩) (Kd.S_far (p:=⟨gb39,6,none⟩) (Kd.S_far (p:=⟨gb39,5,none⟩) (Kd.S_far (p:=⟨gb39,4,none⟩) (Kd.S_far (p:=⟨gb39,3,none⟩) (Kd.S_far (p:=⟨gb39,2,none⟩) (Kd.S_far (p:=⟨gb39,1,none⟩) (Kd.S_far (p:=⟨gb39,0,none⟩) (Kd.S_far (p:=⟨gb37,7,none⟩) (Kd.S_types (Kd.S_types HO43.out BK37.out (by decide)) BK39.out (by decide)) (fun _ hk=>hk.1.2) (.slice Ao33 t40.length co33)) (fun _ hk=>hk.2) (.string a0_0)) (fun _ hk=>hk.2) (.int .i64 a0_1)) (fun _ hk=>hk.2) (.slice Ao16 t41.length co16)) (fun _ hk=>hk.2) (.slice Ao20 t44.length co20)) (fun _ hk=>hk.2) (.slice Ao24 t45.length co24)) (fun _ hk=>hk.2) (.slice Ao26 t46.length co26)) (fun _ hk=>hk.2) (.slice Ao29 t47.length co29)) (fun _ hk=>hk.2) (.slice Ao33 t40.length co33)) (fun _ hk=>trivial),by (with_reducible repeat (first|apply Kd.R_alloc|apply Kd.R_drewN|apply Kd.R_drew));exact Kd.R_mono (Kd.R_far (p:=⟨gb39,7,none⟩) (Kd.R_far (p:=⟨gb39,6,none⟩) (Kd.R_far (p:=⟨gb39,5,none⟩) (Kd.R_far (p:=⟨gb39,4,none⟩) (Kd.R_far (p:=⟨gb39,3,none⟩) (Kd.R_far (p:=⟨gb39,2,none⟩) (Kd.R_far (p:=⟨gb39,1,none⟩) (Kd.R_far (p:=⟨gb39,0,none⟩) (Kd.R_far (p:=⟨gb37,7,none⟩) (Kd.R_types (Kd.R_types HO48.out BK37.out (by decide)) BK39.out (by decide)) (fun _ hk=>hk.1.2) (.slice Ao33 t40.length co33)) (fun _ hk=>hk.2) (.string a0_0)) (fun _ hk=>hk.2) (.int .i64 a0_1)) (fun _ hk=>hk.2) (.slice Ao16 t41.length co16)) (fun _ hk=>hk.2) (.slice Ao20 t44.length co20)) (fun _ hk=>hk.2) (.slice Ao24 t45.length co24)) (fun _ hk=>hk.2) (.slice Ao26 t46.length co26)) (fun _ hk=>hk.2) (.slice Ao29 t47.length co29)) (fun _ hk=>hk.2) (.slice Ao33 t40.length co33)) (fun _ hk=>trivial),by (with_reducible repeat (first|apply Kd.R_alloc|apply Kd.R_drewN|apply Kd.R_drew));exact Kd.R_mono (Kd.R_far (p:=⟨gb39,7,none⟩) (Kd.R_far (p:=⟨gb39,6,none⟩) (Kd.R_far (p:=⟨gb39,5,none⟩) (Kd.R_far (p:=⟨gb39,4,none⟩) (Kd.R_far (p:=⟨gb39,3,none⟩) (Kd.R_far (p:=⟨gb39,2,none⟩) (Kd.R_far (p:=⟨gb39,1,none⟩) (Kd.R_far (p:=⟨gb39,0,none⟩) (Kd.R_far (p:=⟨gb37,7,none⟩) (Kd.R_types (Kd.R_types HO49.out BK37.out (by decide)) BK39.out (by decide)) (fun _ hk=>hk.1.2) (.slice Ao33 t40.length co33)) (fun _ hk=>hk.2) (.string a0_0)) (fun _ hk=>hk.2) (.int .i64 a0_1)) (fun _ hk=>hk.2) (.slice Ao16 t41.length co16)) (fun _ hk=>hk.2) (.slice Ao20 t44.length co20)) (fun _ hk=>hk.2) (.slice Ao24 t45.length co24)) (fun _ hk=>hk.2) (.slice Ao26 t46.length co26)) (fun _ hk=>hk.2) (.slice Ao29 t47.length co29)) (fun _ hk=>hk.2) (.slice Ao33 t40.length co33)) (fun _ hk=>trivial),by (with_reducible repeat (first|apply Kd.R_alloc|apply Kd.R_drewN|apply Kd.R_drew));exact Kd.R_mono (Kd.R_far (p:=⟨gb39,7,none⟩) (Kd.R_far (p:=⟨gb39,6,none⟩) (Kd.R_far (p:=⟨gb39,5,none⟩) (Kd.R_far (p:=⟨gb39,4,none⟩) (Kd.R_far (p:=⟨gb39,3,none⟩) (Kd.R_far (p:=⟨gb39,2,none⟩) (Kd.R_far (p:=⟨gb39,1,none⟩) (Kd.R_far (p:=⟨gb39,0,none⟩) (Kd.R_far (p:=⟨gb37,7,none⟩) (Kd.R_types (Kd.R_types HO50.out BK37.out (by decide)) BK39.out (by decide)) (fun _ hk=>hk.1.2) (.slice Ao33 t40.length co33)) (fun _ hk=>hk.2) (.string a0_0)) (fun _ hk=>hk.2) (.int .i64 a0_1)) (fun _ hk=>hk.2) (.slice Ao16 t41.length co16)) (fun _ hk=>hk.2) (.slice Ao20 t44.length co20)) (fun _ hk=>hk.2) (.slice Ao24 t45.length co24)) (fun _ hk=>hk.2) (.slice Ao26 t46.length co26)) (fun _ hk=>hk.2) (.slice Ao29 t47.length co29)) (fun _ hk=>hk.2) (.slice Ao33 t40.length co33)) (fun _ hk=>trivial),by (with_reducible repeat (first|apply Kd.R_alloc|apply Kd.R_drewN|apply Kd.R_drew));exact Kd.R_mono (Kd.R_far (p:=⟨gb39,7,none⟩) (Kd.R_far (p:=⟨gb39,6,none⟩) (Kd.R_far (p:=⟨gb39,5,none⟩) (Kd.R_far (p:=⟨gb39,4,none⟩) (Kd.R_far (p:=⟨gb39,3,none⟩) (Kd.R_far (p:=⟨gb39,2,none⟩) (Kd.R_far (p:=⟨gb39,1,none⟩) (Kd.R_far (p:=⟨gb39,0,none⟩) (Kd.R_far (p:=⟨gb37,7,none⟩) (Kd.R_types (Kd.R_types HO51.out BK37.out (by decide)) BK39.out (by decide)) (fun _ hk=>hk.1.2) (.slice Ao33 t40.length co33)) (fun _ hk=>hk.2) (.string a0_0)) (fun _ hk=>hk.2) (.int .i64 a0_1)) (fun _ hk=>hk.2) (.slice Ao16 t41.length co16)) (fun _ hk=>hk.2) (.slice Ao20 t44.length co20)) (fun _ hk=>hk.2) (.slice Ao24 t45.length co24)) (fun _ hk=>hk.2) (.slice Ao26 t46.length co26)) (fun _ hk=>hk.2) (.slice Ao29 t47.length co29)) (fun _ hk=>hk.2) (.slice Ao33 t40.length co33)) (fun _ hk=>trivial),by (with_reducible repeat (first|apply Kd.R_alloc|apply Kd.R_drewN|apply Kd.R_drew));exact Kd.R_mono (Kd.R_far (p:=⟨gb39,7,none⟩) (Kd.R_far (p:=⟨gb39,6,none⟩) (Kd.R_far (p:=⟨gb39,5,none⟩) (Kd.R_far (p:=⟨gb39,4,none⟩) (Kd.R_far (p:=⟨gb39,3,none⟩) (Kd.R_far (p:=⟨gb39,2,none⟩) (Kd.R_far (p:=⟨gb39,1,none⟩) (Kd.R_far (p:=⟨gb39,0,none⟩) (Kd.R_far (p:=⟨gb37,7,none⟩) (Kd.R_types (Kd.R_types HO52.out BK37.out (by decide)) BK39.out (by decide)) (fun _ hk=>hk.1.2) (.slice Ao33 t40.length co33)) (fun _ hk=>hk.2) (.string a0_0)) (fun _ hk=>hk.2) (.int .i64 a0_1)) (fun _ hk=>hk.2) (.slice Ao16 t41.length co16)) (fun _ hk=>hk.2) (.slice Ao20 t44.length co20)) (fun _ hk=>hk.2) (.slice Ao24 t45.length co24)) (fun _ hk=>hk.2) (.slice Ao26 t46.length co26)) (fun _ hk=>hk.2) (.slice Ao29 t47.length co29)) (fun _ hk=>hk.2) (.slice Ao33 t40.length co33)) (fun _ hk=>trivial),bs HB⟩
theorem spec_l01Name.calls (k:Nat) (a0:ByteArray) (r:Bool) (w:World) (H:spec_l01Name.f k a0=some r) :
  Calls Tryz.prog 48 #[.string a0] w fun e w'=>e=.returned (.bool r)∧Drawn0 w w':=by
 unfold spec_l01Name.f at H;have HC2:=am H;clear H
 go_in
 go_upto_region 1 with (fail)
 go_cut [22] (fun v22 wc=>∃ (kq:Nat) (x22_1:Bool),v22=.bool x22_1∧Aside0 (spec_l01Name.j0 kq a0 x22_1=some r)∧Aside0 (kq≤k)∧Drawn0 w wc)
 case first =>
  have H:=HC2.out;clear HC2
  revert H;refine id2k ?_ ?_
  ·intro c3 c3b0 H;have c3b1:decide (a0.size<1)=true:=decide_eq_true (by omega);clear c3
   (first|rw [c3b0]|(simp only [i64_w,i32_w];rw [c3b0])|rw [c3b1]|skip)
   have H':=am H;clear H
   go_wp2
   go_meet
   case rel=>exact ⟨_,(true),fg,H',⟨fl⟩,by repeat (first|exact Drawn0.refl _|apply Drawn0.step)⟩
  ·intro c3 c3b0 H;have c3b1:decide (a0.size<1)=false:=decide_eq_false (by omega);clear c3
   (first|rw [c3b0]|(simp only [i64_w,i32_w];rw [c3b0])|rw [c3b1]|skip)
   revert H;refine ip2 ?_ ?_
   ·intro c4 H;have c4b0:decide (12<(a0.size:Int))=true:=decide_eq_true c4;have c4b1:decide (12<a0.size)=true:=decide_eq_true (by omega);clear c4;have H':=am H;clear H
    go_wp2
    go_meet
    case rel=>exact ⟨_,(true),fg,H',⟨fl⟩,by repeat (first|exact Drawn0.refl _|apply Drawn0.step)⟩
   ·intro c4 H;have c4b0:decide (12<(a0.size:Int))=false:=decide_eq_false c4;have c4b1:decide (12<a0.size)=false:=decide_eq_false (by omega);clear c4
    revert H;refine id1k ?_
    intro c5 c5b0 H;have c5b1:decide (0<a0.size)=true:=decide_eq_true (by omega);clear c5
    revert H;refine id2 ?_ ?_
    ·intro c7b0 H;have H':=am H;clear H;have p6:0≤(0:Int):=(by omega);have q6:0<a0.size:=(by have:(0:Int)<(a0.size:Int):=oa;omega);have hx6:∀ h:0<a0.size,((a0[0]'h).toNat:Int)=bt a0 0:=bt_at a0 0;clear p6;have qi6:(0<(a0.size:Int))=True:=eq_true (oa);replace q6:=eq_true q6
     go_wp2
     go_meet
     case rel=>exact ⟨_,(true),fg,H',⟨fl⟩,by repeat (first|exact Drawn0.refl _|apply Drawn0.step)⟩
    ·intro c7b0 H;have H':=am H;clear H;have p6:0≤(0:Int):=(by omega);have q6:0<a0.size:=(by have:(0:Int)<(a0.size:Int):=oa;omega);have hx6:∀ h:0<a0.size,((a0[0]'h).toNat:Int)=bt a0 0:=bt_at a0 0;clear p6;have qi6:(0<(a0.size:Int))=True:=eq_true (oa);replace q6:=eq_true q6;have p8:0≤(0:Int):=(by omega);have q8:0<a0.size:=(by have:(0:Int)<(a0.size:Int):=oa;omega);have hx8:∀ h:0<a0.size,((a0[0]'h).toNat:Int)=bt a0 0:=bt_at a0 0;clear p8;have qi8:(0<(a0.size:Int))=True:=eq_true (oa);replace q8:=eq_true q8
     go_wp2
     go_meet
     case rel=>exact ⟨_,(decide ((bt a0 0)>90)),fg,H',⟨fl⟩,by repeat (first|exact Drawn0.refl _|apply Drawn0.step)⟩
 case rest =>
  clear HC2
  obtain ⟨kq,x22_1,rfl,HA,HJ1,⟨mc1,rfl⟩⟩:=hcut
  cases kq with
  | zero=>exact absurd HA.out (by simp [spec_l01Name.j0])
  | succ kj1 =>
   have H:=HA.out;clear HA;simp only [spec_l01Name.j0] at H
   obtain rfl|rfl:=bt x22_1
   ·replace H:=itT H;obtain rfl:=si H
    go_wp2
    go_ret
    exact ⟨fg,dr⟩
   ·replace H:=itF H;have H':=am H;clear H
    go_wp2
    go_loopg [3] kj1 (fun kq v3 w'=>∃ (x3_2:Int),v3=.int .i64 x3_2∧Aside0 (spec_l01Name.l0 kq a0 x3_2=some r)∧Aside0 (kq≤kj1)∧Drawn0 w w')
    case atStart=>exact ⟨(0),fg,H',⟨Nat.le_refl _⟩,by repeat (first|exact Drawn0.refl _|apply Drawn0.step)⟩
    case round =>
     clear H'
     obtain ⟨x3_2,rfl,HA,HK2,⟨m2,rfl⟩⟩:=hrel
     cases gk with
     | zero=>exact absurd HA.out (by simp [spec_l01Name.l0])
     | succ k2 =>
      have H:=HA.out;clear HA;simp only [spec_l01Name.l0] at H
      revert H;refine id2 ?_ ?_
      ·intro c10b0 H
       revert H;refine id1 ?_
       intro c11b0 H
       revert H;refine ip2 ?_ ?_
       ·intro c13 H;have c13b0:decide (65≤(bt a0 x3_2))=true:=decide_eq_true c13;clear c13
        revert H;refine id2 ?_ ?_
        ·intro c14b0 H;have H':=am H;clear H;have p12:0≤(x3_2:Int):=oa;have q12:x3_2<(a0.size:Int):=oa;have hx12:=bt_at a0 x3_2;replace p12:=eq_true p12;replace q12:=eq_true q12
         go_wp2
         go_roundg k2
         case measure=>have:=HJ1.out;have:=HK2.out;omega
         case rel=>exact ⟨(wrap64 (x3_2+1)),fg,H',⟨by have:=HJ1.out;have:=HK2.out;omega⟩,by repeat (first|exact Drawn0.refl _|apply Drawn0.step)⟩
        ·intro c14b0 H
         revert H;refine ip2 ?_ ?_
         ·intro c15 H;have c15b0:decide (48≤(bt a0 x3_2))=true:=decide_eq_true c15;clear c15
          revert H;refine id2 ?_ ?_
          ·intro c16b0 H;have H':=am H;clear H;have p12:0≤(x3_2:Int):=oa;have q12:x3_2<(a0.size:Int):=oa;have hx12:=bt_at a0 x3_2;replace p12:=eq_true p12;replace q12:=eq_true q12
           go_wp2
           go_roundg k2
           case measure=>have:=HJ1.out;have:=HK2.out;omega
           case rel=>exact ⟨(wrap64 (x3_2+1)),fg,H',⟨by have:=HJ1.out;have:=HK2.out;omega⟩,by repeat (first|exact Drawn0.refl _|apply Drawn0.step)⟩
          ·intro c16b0 H
           revert H;refine ie2 ?_ ?_
           ·intro c17b0 c17b1 H;have H':=am H;clear H;have p12:0≤(x3_2:Int):=oa;have q12:x3_2<(a0.size:Int):=oa;have hx12:=bt_at a0 x3_2;replace p12:=eq_true p12;replace q12:=eq_true q12
            go_wp2
            go_roundg k2
            case measure=>have:=HJ1.out;have:=HK2.out;omega
            case rel=>exact ⟨(wrap64 (x3_2+1)),fg,H',⟨by have:=HJ1.out;have:=HK2.out;omega⟩,by repeat (first|exact Drawn0.refl _|apply Drawn0.step)⟩
           ·intro c17 c17b0 c17b1 H;obtain rfl:=si H;have p12:0≤(x3_2:Int):=oa;have q12:x3_2<(a0.size:Int):=oa;have hx12:=bt_at a0 x3_2;replace p12:=eq_true p12;replace q12:=eq_true q12
            go_wp2
            go_ret
            exact ⟨fg,dr⟩
         ·intro c15 H;have c15b0:decide (48≤(bt a0 x3_2))=false:=decide_eq_false c15;clear c15
          revert H;refine ie2 ?_ ?_
          ·intro c18b0 c18b1 H;have H':=am H;clear H;have p12:0≤(x3_2:Int):=oa;have q12:x3_2<(a0.size:Int):=oa;have hx12:=bt_at a0 x3_2;replace p12:=eq_true p12;replace q12:=eq_true q12
           go_wp2
           go_roundg k2
           case measure=>have:=HJ1.out;have:=HK2.out;omega
           case rel=>exact ⟨(wrap64 (x3_2+1)),fg,H',⟨by have:=HJ1.out;have:=HK2.out;omega⟩,by repeat (first|exact Drawn0.refl _|apply Drawn0.step)⟩
          ·intro c18 c18b0 c18b1 H;obtain rfl:=si H;have p12:0≤(x3_2:Int):=oa;have q12:x3_2<(a0.size:Int):=oa;have hx12:=bt_at a0 x3_2;replace p12:=eq_true p12;replace q12:=eq_true q12
           go_wp2
           go_ret
           exact ⟨fg,dr⟩
       ·intro c13 H;have c13b0:decide (65≤(bt a0 x3_2))=false:=decide_eq_false c13;clear c13
        revert H;refine ip2 ?_ ?_
        ·intro c19 H;have c19b0:decide (48≤(bt a0 x3_2))=true:=decide_eq_true c19;clear c19
         revert H;refine id2 ?_ ?_
         ·intro c20b0 H;have H':=am H;clear H;have p12:0≤(x3_2:Int):=oa;have q12:x3_2<(a0.size:Int):=oa;have hx12:=bt_at a0 x3_2;replace p12:=eq_true p12;replace q12:=eq_true q12
          go_wp2
          go_roundg k2
          case measure=>have:=HJ1.out;have:=HK2.out;omega
          case rel=>exact ⟨(wrap64 (x3_2+1)),fg,H',⟨by have:=HJ1.out;have:=HK2.out;omega⟩,by repeat (first|exact Drawn0.refl _|apply Drawn0.step)⟩
         ·intro c20b0 H
          revert H;refine ie2 ?_ ?_
          ·intro c21b0 c21b1 H;have H':=am H;clear H;have p12:0≤(x3_2:Int):=oa;have q12:x3_2<(a0.size:Int):=oa;have hx12:=bt_at a0 x3_2;replace p12:=eq_true p12;replace q12:=eq_true q12
           go_wp2
           go_roundg k2
           case measure=>have:=HJ1.out;have:=HK2.out;omega
           case rel=>exact ⟨(wrap64 (x3_2+1)),fg,H',⟨by have:=HJ1.out;have:=HK2.out;omega⟩,by repeat (first|exact Drawn0.refl _|apply Drawn0.step)⟩
          ·intro c21 c21b0 c21b1 H;obtain rfl:=si H;have p12:0≤(x3_2:Int):=oa;have q12:x3_2<(a0.size:Int):=oa;have hx12:=bt_at a0 x3_2;replace p12:=eq_true p12;replace q12:=eq_true q12
           go_wp2
           go_ret
           exact ⟨fg,dr⟩
        ·intro c19 H;have c19b0:decide (48≤(bt a0 x3_2))=false:=decide_eq_false c19;clear c19
         revert H;refine ie2 ?_ ?_
         ·intro c22b0 c22b1 H;have H':=am H;clear H;have p12:0≤(x3_2:Int):=oa;have q12:x3_2<(a0.size:Int):=oa;have hx12:=bt_at a0 x3_2;replace p12:=eq_true p12;replace q12:=eq_true q12
          go_wp2
          go_roundg k2
          case measure=>have:=HJ1.out;have:=HK2.out;omega
          case rel=>exact ⟨(wrap64 (x3_2+1)),fg,H',⟨by have:=HJ1.out;have:=HK2.out;omega⟩,by repeat (first|exact Drawn0.refl _|apply Drawn0.step)⟩
         ·intro c22 c22b0 c22b1 H;obtain rfl:=si H;have p12:0≤(x3_2:Int):=oa;have q12:x3_2<(a0.size:Int):=oa;have hx12:=bt_at a0 x3_2;replace p12:=eq_true p12;replace q12:=eq_true q12
          go_wp2
          go_ret
          exact ⟨fg,dr⟩
      ·intro c10b0 H;obtain rfl:=si H
       go_wp2
       go_ret
       exact ⟨fg,dr⟩
theorem spec_l01Day.calls (a0:Int) (r:Bool) (w:World) (H:spec_l01Day.f a0=some r) :
  Calls Tryz.prog 64 #[.int .i64 a0] w fun e w'=>e=.returned (.bool r)∧Drawn0 w w':=by
 unfold spec_l01Day.f at H
 revert H;refine ip2 ?_ ?_
 ·intro c2 H;have c2b0:decide (0≤a0)=true:=decide_eq_true c2;clear c2;obtain rfl:=si H
  go_in
  go_wp2
  go_ret
  exact ⟨fg,dr⟩
 ·intro c2 H;have c2b0:decide (0≤a0)=false:=decide_eq_false c2;clear c2;obtain rfl:=si H
  go_in
  go_wp2
  go_ret
  exact ⟨fg,dr⟩
theorem spec_l08Before.calls (a0_0:ByteArray) (a0_1:ByteArray) (a0_2:ByteArray) (a1_0:ByteArray) (a1_1:ByteArray) (a1_2:ByteArray) (r:Bool) (w:World) (H:spec_l08Before.f a0_0 a0_1 a0_2 a1_0 a1_1 a1_2=some r) :
  Calls Tryz.prog 114 #[.agg #[.string a0_0,.string a0_1,.string a0_2],.agg #[.string a1_0,.string a1_1,.string a1_2]] w fun e w'=>e=.returned (.bool r)∧Below w.heap.size w w':=by
 have hu114:=Tryz.underlying114;have HB:=am (Below.refl w.heap.size w);unfold spec_l08Before.f at H
 revert H;refine ip2 ?_ ?_
 ·intro c3 H;have c3b0:(Op.bytesLess a0_0.toList a1_0.toList)=true:=c3;clear c3;obtain rfl:=si H
  go_in
  go_wp2_with (first|((with_reducible refine gate_dst (N:=2) rfl ?_);refine bz 2 (cs:=#[.string a0_0,.string a0_1,.string a0_2]) (t:=114) HB ?_;clear HB;intro gb20 hg w4 BK20 GW20 hb HB;clear hb hg)|((with_reducible refine gate_dst (N:=3) rfl ?_);refine bz 3 (cs:=#[.string a1_0,.string a1_1,.string a1_2]) (t:=114) HB ?_;clear HB;intro gb21 hg w5 BK21 GW21 hb HB;have NB20_21:=na hg BK20;have NB21_20:=nc hg BK20;replace BK20:=bb BK20 hb;clear hb hg;have hnb6:=NB20_21.out;have hnc6:=NB21_20.out;have hcz7:=cf3 BK20;have hcz8:=cf3 BK21))
  go_ret
  exact ⟨ff,bs HB⟩
 ·intro c3 H
  have c3b0:(Op.bytesLess a0_0.toList a1_0.toList)=false:=by simpa using c3
  clear c3
  revert H;refine ie2 ?_ ?_
  ·intro c9b0 c9b1 H;obtain rfl:=si H
   go_in
   go_wp2_with (first|((with_reducible refine gate_dst (N:=2) rfl ?_);refine bz 2 (cs:=#[.string a0_0,.string a0_1,.string a0_2]) (t:=114) HB ?_;clear HB;intro gb20 hg w10 BK20 GW20 hb HB;clear hb hg)|((with_reducible refine gate_dst (N:=3) rfl ?_);refine bz 3 (cs:=#[.string a1_0,.string a1_1,.string a1_2]) (t:=114) HB ?_;clear HB;intro gb21 hg w11 BK21 GW21 hb HB;have NB20_21:=na hg BK20;have NB21_20:=nc hg BK20;replace BK20:=bb BK20 hb;clear hb hg;have hnb12:=NB20_21.out;have hnc12:=NB21_20.out;have hcz13:=cf3 BK20;have hcz14:=cf3 BK21))
   go_ret
   exact ⟨ff,bs HB⟩
  ·intro c9 c9b0 c9b1 H;obtain rfl:=si H
   go_in
   go_wp2_with (first|((with_reducible refine gate_dst (N:=2) rfl ?_);refine bz 2 (cs:=#[.string a0_0,.string a0_1,.string a0_2]) (t:=114) HB ?_;clear HB;intro gb20 hg w15 BK20 GW20 hb HB;clear hb hg)|((with_reducible refine gate_dst (N:=3) rfl ?_);refine bz 3 (cs:=#[.string a1_0,.string a1_1,.string a1_2]) (t:=114) HB ?_;clear HB;intro gb21 hg w16 BK21 GW21 hb HB;have NB20_21:=na hg BK20;have NB21_20:=nc hg BK20;replace BK20:=bb BK20 hb;clear hb hg;have hnb17:=NB20_21.out;have hnc17:=NB21_20.out;have hcz18:=cf3 BK20;have hcz19:=cf3 BK21))
   go_ret
   exact ⟨ff,bs HB⟩
def spec_CrossRight.T7:Bool × List (List Nat × List Nat):=(true,[([],[]),([0],[0]),([1],[1]),([2],[2]),([3,2],[3]),([4],[4]),([5,4],[4,5]),([6,4,4],[4,6]),([7,4],[4,7]),([4,8],[4,8]),([9,7],[9]),([10],[10]),([11,10],[10,11]),([12,10,10],[10,12]),([13,10],[10,13]),([10,14],[10,14]),([15,13],[15]),([16],[16]),([17,16],[16,17]),([18,16,16],[16,18]),([19],[19]),([19],[19]),([21,19],[19,21]),([20,22,19],[19,20,22]),([23,19],[19,23]),([19],[19]),([24,25,19,19],[19,24,25]),([26,19],[19,26]),([19,27,16],[16,19,27]),([16,28],[16,28])])
def spec_CrossRight.B7:List Nat:=[0,1,3,7,15,31,63,127,255,511,1023,2047,4095,8191,16383,32767,65535,131071,262143,524287,1048575,1048575,3145727,8388607,16777215,1048575,67108863,134217727,268435455,536870911]
theorem spec_CrossRight.tab7:rtab .any (opsOf Tryz.f65 7)=spec_CrossRight.T7:=by kernel_rfl
theorem spec_CrossRight.bits7:waitsOk spec_CrossRight.T7.2 spec_CrossRight.B7=true:=by kernel_rfl
def spec_CrossRight.T12:Bool × List (List Nat × List Nat):=(true,[([],[]),([],[]),([0,1],[0,1]),([2],[2]),([3],[3]),([],[]),([5],[5]),([4,6],[4,6]),([7],[7]),([8],[8]),([8],[8]),([9,10,8],[8,9,10]),([11,8],[8,11]),([12,8],[8,12]),([8],[8]),([14,8],[8,14]),([13,15,8],[8,13,15]),([8,16],[8,16])])
def spec_CrossRight.B12:List Nat:=[0,0,3,7,15,0,32,127,255,511,511,2047,4095,8191,511,16895,65535,131071]
theorem spec_CrossRight.tab12:rtab .any (opsOf Tryz.f65 12)=spec_CrossRight.T12:=by kernel_rfl
theorem spec_CrossRight.bits12:waitsOk spec_CrossRight.T12.2 spec_CrossRight.B12=true:=by kernel_rfl
theorem spec_CrossRight.calls (k:Nat) (A0:Option Addr) (c0:Nat) (l0:List (S114)) (r:Bool) (w:World) (hr0:Kd.C k114 w A0 l0.length l0) (hc0:l0.length≤c0) (H:spec_CrossRight.f k l0=some r) :
  Calls Tryz.prog 65 #[.slice A0 l0.length c0] w fun e w'=>e=.returned (.bool r)∧Below w.heap.size w w':=by
 have hu114:=Tryz.underlying114;have HR0:=am hr0;have HC0:=am hc0;clear hr0 hc0;have HB:=am (Below.refl w.heap.size w);unfold spec_CrossRight.f at H
 revert H;refine ip2 ?_ ?_
 ·intro c2 H;have c2b0:decide (200<(l0.length:Int))=true:=decide_eq_true c2;have c2b1:decide (200<l0.length)=true:=decide_eq_true (by omega);clear c2;obtain rfl:=si H
  go_in
  go_wp2
  go_ret
  exact ⟨ff,bs HB⟩
 ·intro c2 H;have c2b0:decide (200<(l0.length:Int))=false:=decide_eq_false c2;have c2b1:decide (200<l0.length)=false:=decide_eq_false (by omega);clear c2;have H':=am H;clear H
  go_in
  go_wp2
  go_loopg [3] k (fun kq v3 w'=>∃ (x3_1:Int),v3=.int .i64 x3_1∧Aside0 (spec_CrossRight.l0 kq l0 x3_1=some r)∧Aside0 (kq≤k)∧Aside0 (Below w.heap.size w w'))
  case atStart=>exact ⟨(0),fg,H',⟨Nat.le_refl _⟩,⟨bs HB⟩⟩
  case round =>
   clear H'
   try clear c2
   try clear c2b0
   try clear c2b1
   obtain ⟨x3_1,rfl,HA,HK1,HB⟩:=hrel
   cases gk with
   | zero=>exact absurd HA.out (by simp [spec_CrossRight.l0])
   | succ k1 =>
    have H:=HA.out;clear HA;simp only [spec_CrossRight.l0] at H
    revert H;refine id2 ?_ ?_
    ·intro c3b0 H
     revert H;refine id1 ?_
     intro c4b0 H;have HC5:=am H;clear H;have p53:0≤(x3_1:Int):=oa;have q53:x3_1<(l0.length:Int):=oa;obtain ⟨ad53,e53,hx53_0,hx53_1,hx53_2⟩:=at_T114 HR0.out x3_1 p53 q53
     cases e53
     replace hx53_0:=cb HB hx53_0;replace hx53_1:=cb HB hx53_1;replace hx53_2:=cb HB hx53_2;replace p53:=eq_true p53;replace q53:=eq_true q53
     go_upto_region 7 with (first|((with_reducible refine gate_dst (N:=4) rfl ?_);refine bz 4 (cs:=#[.string (⟨#[]⟩:ByteArray),.string (⟨#[]⟩:ByteArray),.string (⟨#[]⟩:ByteArray)]) (t:=114) HB ?_;clear HB;intro gb49 hg w6 BK49 GW49 hb HB;clear hb hg;have hcz7:=cf3 BK49))
     (try simp only [Act.put,List.setIfInBounds_toArray,List.set_cons_zero,List.set_cons_succ])
     go_cut [48] (fun v48 wc=>∃ (kq:Nat) (x48_4:Bool),v48=.bool x48_4∧Aside0 (spec_CrossRight.j1 kq l0 x3_1 x48_4 ((rd_T114 l0 x3_1).f0) ((rd_T114 l0 x3_1).f1) ((rd_T114 l0 x3_1).f2)=some r)∧Aside0 (kq≤k1)∧Aside0 (wc.heap[gb49]? = some (.cells #[.string ((rd_T114 l0 x3_1).f0),.string ((rd_T114 l0 x3_1).f1),.string ((rd_T114 l0 x3_1).f2)] 114 (0,0)))∧Aside0 (Below w.heap.size w wc))
     case first =>
      have H:=HC5.out;clear HC5;replace H:=bo H;obtain ⟨t73,A8,H⟩:=H
      obtain rfl|rfl:=bt t73
      ·replace H:=itT H;replace H:=bo H;obtain ⟨t74,A10,H⟩:=H
       obtain rfl|rfl:=bt t74
       ·replace H:=itT H;replace H:=bo H;obtain ⟨t75,A12,H⟩:=H
        obtain rfl|rfl:=bt t75
        ·replace H:=itT H
         revert H;refine ip2 ?_ ?_
         ·intro c14 H;have c14b0:decide (0<x3_1)=true:=decide_eq_true c14;clear c14
          (first|rw [c14b0]|(simp only [i64_w,i32_w];rw [c14b0])|skip)
          obtain ⟨ji15,hji15⟩:∃ j_:Int,(wrap64 (x3_1 - 1))=j_:=⟨_,rfl⟩
          replace H:(if 0≤(ji15) then (if (ji15)<(l0.length:Int) then ((spec_l08Before.f ((rd_T114 l0 (ji15)).f0) ((rd_T114 l0 (ji15)).f1) ((rd_T114 l0 (ji15)).f2) ((rd_T114 l0 x3_1).f0) ((rd_T114 l0 x3_1).f1) ((rd_T114 l0 x3_1).f2)).bind fun t72=>(spec_CrossRight.j1 k1 l0 x3_1 (!t72) ((rd_T114 l0 x3_1).f0) ((rd_T114 l0 x3_1).f1) ((rd_T114 l0 x3_1).f2))) else (none)) else (none))=some r:=by first|(rw [hji15] at H;exact H)|(simp only [hji15] at H ⊢;exact H)
          (try rw [hji15] at A8)
          (try rw [hji15] at A10)
          (try rw [hji15] at A12)
          have hji15w:(IntKind.i64.wrap (x3_1 - 1))=ji15:=(i64_w _).trans hji15
          revert H;refine id1 ?_
          intro c16b0 H
          revert H;refine id1 ?_
          intro c17b0 H;replace H:=bo H;obtain ⟨t72,A18,H⟩:=H;have H':=am H;clear H
          try go_wp2
          have n0_:Aside0 ((((w6.setCell ⟨gb49,0,none⟩ (.string ((rd_T114 l0 x3_1).f0))).setCell ⟨gb49,1,none⟩ (.string ((rd_T114 l0 x3_1).f1))).setCell ⟨gb49,2,none⟩ (.string ((rd_T114 l0 x3_1).f2))).heap[gb49]? = some (.cells #[.string ((rd_T114 l0 x3_1).f0),.string ((rd_T114 l0 x3_1).f1),.string ((rd_T114 l0 x3_1).f2)] 114 (0,0))):=⟨kp BK49⟩;have n1_:Aside0 (Below w.heap.size w (((w6.setCell ⟨gb49,0,none⟩ (.string ((rd_T114 l0 x3_1).f0))).setCell ⟨gb49,1,none⟩ (.string ((rd_T114 l0 x3_1).f1))).setCell ⟨gb49,2,none⟩ (.string ((rd_T114 l0 x3_1).f2)))):=⟨bs HB⟩;(try clear BK49);(try clear HB)
          generalize (((w6.setCell ⟨gb49,0,none⟩ (.string ((rd_T114 l0 x3_1).f0))).setCell ⟨gb49,1,none⟩ (.string ((rd_T114 l0 x3_1).f1))).setCell ⟨gb49,2,none⟩ (.string ((rd_T114 l0 x3_1).f2)))=w19 at n0_ n1_ ⊢
          have BK49:=n0_;have HB:=n1_;clear n0_ n1_;replace BK49:=am (blk_drew BK49.out);replace HB:=am (below_drew1 HB.out);have p52:0≤((ji15):Int):=oa;have q52:(ji15)<(l0.length:Int):=oa;obtain ⟨ad52,e52,hx52_0,hx52_1,hx52_2⟩:=at_T114 HR0.out (ji15) p52 q52;have hw52_2:=hx52_2;have hw52_1:=hx52_1;have hw52_0:=hx52_0;obtain rfl:ad53=ad52:=(by injection e52);replace hx52_0:=cb HB hx52_0;replace hx52_1:=cb HB hx52_1;replace hx52_2:=cb HB hx52_2;replace p52:=eq_true p52;replace q52:=eq_true q52;refine sta 30 (hb3a BK49 (hca (cb HB hw52_0) (hca (cb HB hw52_1) (hc (cb HB hw52_2))))) (fun hHeld=>?_);refine with_tabW spec_CrossRight.tab7 spec_CrossRight.bits7 (fun HT_ HW_=>?_)
          generalize w19.drew=w20 at BK49 HB hx52_0 hx52_1 hx52_2 hHeld ⊢
          refine pz1 0 ?_;refine ta 1 ?_;refine oA 2 21 HT_ (fun K hK=>?_);refine gA Tryz.func48 #[.string ((rd_T114 l0 x3_1).f0)] ?_;(with_reducible refine (spec_l01Name.calls k1 ((rd_T114 l0 x3_1).f0) true _ A8.out).mono ?_);rintro e w' ⟨rfl,⟨nd,rfl⟩⟩;refine ⟨_,rfl,?_⟩;refine hK.out _ _ (hb3a BK49 (hca (cb HB hw52_0) (hca (cb HB hw52_1) (hc (cb HB hw52_2))))).out (fun hHeld=>?_);clear hK K;refine nA 21 ?_;refine pz3 3 ?_;refine ta 6 ?_;refine oA 7 26 HT_ (fun K hK=>?_);refine gA Tryz.func48 #[.string ((rd_T114 l0 x3_1).f1)] ?_;(with_reducible refine (spec_l01Name.calls k1 ((rd_T114 l0 x3_1).f1) true _ A10.out).mono ?_);rintro e w' ⟨rfl,⟨nd,rfl⟩⟩;refine ⟨_,rfl,?_⟩;refine hK.out _ _ (hb3a BK49 (hca (cb HB hw52_0) (hca (cb HB hw52_1) (hc (cb HB hw52_2))))).out (fun hHeld=>?_);clear hK K;refine nA 26 ?_;refine pz4 8 ?_;refine ta 12 ?_;refine oA 13 32 HT_ (fun K hK=>?_);refine gA Tryz.func48 #[.string ((rd_T114 l0 x3_1).f2)] ?_;(with_reducible refine (spec_l01Name.calls k1 ((rd_T114 l0 x3_1).f2) true _ A12.out).mono ?_);rintro e w' ⟨rfl,⟨nd,rfl⟩⟩;refine ⟨_,rfl,?_⟩;refine hK.out _ _ (hb3a BK49 (hca (cb HB hw52_0) (hca (cb HB hw52_1) (hc (cb HB hw52_2))))).out (fun hHeld=>?_);clear hK K;refine nA 32 ?_;refine pz8 14 ?_;refine pz2 22 ?_;refine ta 24 ?_;refine ta 25 ?_;refine oA 26 45 HT_ (fun K hK=>?_);refine goes_ Tryz.func114 (by kernel_rfl) rfl #[.agg #[.string ((rd_T114 l0 (ji15)).f0),.string ((rd_T114 l0 (ji15)).f1),.string ((rd_T114 l0 (ji15)).f2)],.agg #[.string ((rd_T114 l0 x3_1).f0),.string ((rd_T114 l0 x3_1).f1),.string ((rd_T114 l0 x3_1).f2)]] (by rfl) rfl rfl (by (try simp only [List.map_toArray,List.map_cons,List.map_nil]);first|done|(simp only [hji15];rfl)|rfl|(simp only [List.length_drop,List.length_take];rfl)) ?_;(with_reducible refine (spec_l08Before.calls ((rd_T114 l0 (ji15)).f0) ((rd_T114 l0 (ji15)).f1) ((rd_T114 l0 (ji15)).f2) ((rd_T114 l0 x3_1).f0) ((rd_T114 l0 x3_1).f1) ((rd_T114 l0 x3_1).f2) t72 _ A18.out).mono ?_);rintro e w21 ⟨rfl,hb⟩;refine ⟨_,rfl,?_⟩;replace BK49:=bb BK49 hb;replace HB:=bq HB hb;(try clear hb);(try clear hb2);(try clear hk);(try clear hi);refine hK.out _ _ (hb3a BK49 (hca (cb HB hw52_0) (hca (cb HB hw52_1) (hc (cb HB hw52_2))))).out (fun hHeld=>?_);clear hK K;refine nA 45 ?_;refine pz3 27 ?_;refine done_ (done_of HT_.out (by kernel_rfl)) ?_
          try go_wp2
          go_meet
          case rel=>exact ⟨_,(!t72),fg,H',⟨by have:=HK1.out;first|omega|exact Nat.le_refl _⟩,⟨ks BK49⟩,⟨bs HB⟩⟩
         ·intro c14 H;have c14b0:decide (0<x3_1)=false:=decide_eq_false c14;clear c14
          (first|rw [c14b0]|(simp only [i64_w,i32_w];rw [c14b0])|skip)
          have H':=am H;clear H
          try go_wp2
          have n0_:Aside0 ((((w6.setCell ⟨gb49,0,none⟩ (.string ((rd_T114 l0 x3_1).f0))).setCell ⟨gb49,1,none⟩ (.string ((rd_T114 l0 x3_1).f1))).setCell ⟨gb49,2,none⟩ (.string ((rd_T114 l0 x3_1).f2))).heap[gb49]? = some (.cells #[.string ((rd_T114 l0 x3_1).f0),.string ((rd_T114 l0 x3_1).f1),.string ((rd_T114 l0 x3_1).f2)] 114 (0,0))):=⟨kp BK49⟩;have n1_:Aside0 (Below w.heap.size w (((w6.setCell ⟨gb49,0,none⟩ (.string ((rd_T114 l0 x3_1).f0))).setCell ⟨gb49,1,none⟩ (.string ((rd_T114 l0 x3_1).f1))).setCell ⟨gb49,2,none⟩ (.string ((rd_T114 l0 x3_1).f2)))):=⟨bs HB⟩;(try clear BK49);(try clear HB)
          generalize (((w6.setCell ⟨gb49,0,none⟩ (.string ((rd_T114 l0 x3_1).f0))).setCell ⟨gb49,1,none⟩ (.string ((rd_T114 l0 x3_1).f1))).setCell ⟨gb49,2,none⟩ (.string ((rd_T114 l0 x3_1).f2)))=w22 at n0_ n1_ ⊢
          have BK49:=n0_;have HB:=n1_;clear n0_ n1_;replace BK49:=am (blk_drew BK49.out);replace HB:=am (below_drew1 HB.out);refine sta 30 (hb3 BK49) (fun hHeld=>?_);refine with_tabW spec_CrossRight.tab7 spec_CrossRight.bits7 (fun HT_ HW_=>?_)
          generalize w22.drew=w23 at BK49 HB hHeld ⊢
          refine pz1 0 ?_;refine ta 1 ?_;refine oA 2 21 HT_ (fun K hK=>?_);refine gA Tryz.func48 #[.string ((rd_T114 l0 x3_1).f0)] ?_;(with_reducible refine (spec_l01Name.calls k1 ((rd_T114 l0 x3_1).f0) true _ A8.out).mono ?_);rintro e w' ⟨rfl,⟨nd,rfl⟩⟩;refine ⟨_,rfl,?_⟩;refine hK.out _ _ (hb3 BK49).out (fun hHeld=>?_);clear hK K;refine nA 21 ?_;refine pz3 3 ?_;refine ta 6 ?_;refine oA 7 26 HT_ (fun K hK=>?_);refine gA Tryz.func48 #[.string ((rd_T114 l0 x3_1).f1)] ?_;(with_reducible refine (spec_l01Name.calls k1 ((rd_T114 l0 x3_1).f1) true _ A10.out).mono ?_);rintro e w' ⟨rfl,⟨nd,rfl⟩⟩;refine ⟨_,rfl,?_⟩;refine hK.out _ _ (hb3 BK49).out (fun hHeld=>?_);clear hK K;refine nA 26 ?_;refine pz4 8 ?_;refine ta 12 ?_;refine oA 13 32 HT_ (fun K hK=>?_);refine gA Tryz.func48 #[.string ((rd_T114 l0 x3_1).f2)] ?_;(with_reducible refine (spec_l01Name.calls k1 ((rd_T114 l0 x3_1).f2) true _ A12.out).mono ?_);rintro e w' ⟨rfl,⟨nd,rfl⟩⟩;refine ⟨_,rfl,?_⟩;refine hK.out _ _ (hb3 BK49).out (fun hHeld=>?_);clear hK K;refine nA 32 ?_;refine pz8 14 ?_;refine pz8 22 ?_;refine done_ (done_of HT_.out (by kernel_rfl)) ?_
          try go_wp2
          go_meet
          case rel=>exact ⟨_,(false),fg,H',⟨by have:=HK1.out;first|omega|exact Nat.le_refl _⟩,⟨ks BK49⟩,⟨bs HB⟩⟩
        ·replace H:=itF H;have H':=am H;clear H
         try go_wp2
         have n0_:Aside0 ((((w6.setCell ⟨gb49,0,none⟩ (.string ((rd_T114 l0 x3_1).f0))).setCell ⟨gb49,1,none⟩ (.string ((rd_T114 l0 x3_1).f1))).setCell ⟨gb49,2,none⟩ (.string ((rd_T114 l0 x3_1).f2))).heap[gb49]? = some (.cells #[.string ((rd_T114 l0 x3_1).f0),.string ((rd_T114 l0 x3_1).f1),.string ((rd_T114 l0 x3_1).f2)] 114 (0,0))):=⟨kp BK49⟩;have n1_:Aside0 (Below w.heap.size w (((w6.setCell ⟨gb49,0,none⟩ (.string ((rd_T114 l0 x3_1).f0))).setCell ⟨gb49,1,none⟩ (.string ((rd_T114 l0 x3_1).f1))).setCell ⟨gb49,2,none⟩ (.string ((rd_T114 l0 x3_1).f2)))):=⟨bs HB⟩;(try clear BK49);(try clear HB)
         generalize (((w6.setCell ⟨gb49,0,none⟩ (.string ((rd_T114 l0 x3_1).f0))).setCell ⟨gb49,1,none⟩ (.string ((rd_T114 l0 x3_1).f1))).setCell ⟨gb49,2,none⟩ (.string ((rd_T114 l0 x3_1).f2)))=w24 at n0_ n1_ ⊢
         have BK49:=n0_;have HB:=n1_;clear n0_ n1_;replace BK49:=am (blk_drew BK49.out);replace HB:=am (below_drew1 HB.out);refine sta 30 (hb3 BK49) (fun hHeld=>?_);refine with_tabW spec_CrossRight.tab7 spec_CrossRight.bits7 (fun HT_ HW_=>?_)
         generalize w24.drew=w25 at BK49 HB hHeld ⊢
         refine pz1 0 ?_;refine ta 1 ?_;refine oA 2 21 HT_ (fun K hK=>?_);refine gA Tryz.func48 #[.string ((rd_T114 l0 x3_1).f0)] ?_;(with_reducible refine (spec_l01Name.calls k1 ((rd_T114 l0 x3_1).f0) true _ A8.out).mono ?_);rintro e w' ⟨rfl,⟨nd,rfl⟩⟩;refine ⟨_,rfl,?_⟩;refine hK.out _ _ (hb3 BK49).out (fun hHeld=>?_);clear hK K;refine nA 21 ?_;refine pz3 3 ?_;refine ta 6 ?_;refine oA 7 26 HT_ (fun K hK=>?_);refine gA Tryz.func48 #[.string ((rd_T114 l0 x3_1).f1)] ?_;(with_reducible refine (spec_l01Name.calls k1 ((rd_T114 l0 x3_1).f1) true _ A10.out).mono ?_);rintro e w' ⟨rfl,⟨nd,rfl⟩⟩;refine ⟨_,rfl,?_⟩;refine hK.out _ _ (hb3 BK49).out (fun hHeld=>?_);clear hK K;refine nA 26 ?_;refine pz4 8 ?_;refine ta 12 ?_;refine oA 13 32 HT_ (fun K hK=>?_);refine gA Tryz.func48 #[.string ((rd_T114 l0 x3_1).f2)] ?_;(with_reducible refine (spec_l01Name.calls k1 ((rd_T114 l0 x3_1).f2) false _ A12.out).mono ?_);rintro e w' ⟨rfl,⟨nd,rfl⟩⟩;refine ⟨_,rfl,?_⟩;refine hK.out _ _ (hb3 BK49).out (fun hHeld=>?_);clear hK K;refine nA 32 ?_;refine pz8 14 ?_;refine pz8 22 ?_;refine done_ (done_of HT_.out (by kernel_rfl)) ?_
         try go_wp2
         go_meet
         case rel=>exact ⟨_,(true),fg,H',⟨by have:=HK1.out;first|omega|exact Nat.le_refl _⟩,⟨ks BK49⟩,⟨bs HB⟩⟩
       ·replace H:=itF H;have H':=am H;clear H
        try go_wp2
        have n0_:Aside0 ((((w6.setCell ⟨gb49,0,none⟩ (.string ((rd_T114 l0 x3_1).f0))).setCell ⟨gb49,1,none⟩ (.string ((rd_T114 l0 x3_1).f1))).setCell ⟨gb49,2,none⟩ (.string ((rd_T114 l0 x3_1).f2))).heap[gb49]? = some (.cells #[.string ((rd_T114 l0 x3_1).f0),.string ((rd_T114 l0 x3_1).f1),.string ((rd_T114 l0 x3_1).f2)] 114 (0,0))):=⟨kp BK49⟩;have n1_:Aside0 (Below w.heap.size w (((w6.setCell ⟨gb49,0,none⟩ (.string ((rd_T114 l0 x3_1).f0))).setCell ⟨gb49,1,none⟩ (.string ((rd_T114 l0 x3_1).f1))).setCell ⟨gb49,2,none⟩ (.string ((rd_T114 l0 x3_1).f2)))):=⟨bs HB⟩;(try clear BK49);(try clear HB)
        generalize (((w6.setCell ⟨gb49,0,none⟩ (.string ((rd_T114 l0 x3_1).f0))).setCell ⟨gb49,1,none⟩ (.string ((rd_T114 l0 x3_1).f1))).setCell ⟨gb49,2,none⟩ (.string ((rd_T114 l0 x3_1).f2)))=w26 at n0_ n1_ ⊢
        have BK49:=n0_;have HB:=n1_;clear n0_ n1_;replace BK49:=am (blk_drew BK49.out);replace HB:=am (below_drew1 HB.out);refine sta 30 (hb3 BK49) (fun hHeld=>?_);refine with_tabW spec_CrossRight.tab7 spec_CrossRight.bits7 (fun HT_ HW_=>?_)
        generalize w26.drew=w27 at BK49 HB hHeld ⊢
        refine pz1 0 ?_;refine ta 1 ?_;refine oA 2 21 HT_ (fun K hK=>?_);refine gA Tryz.func48 #[.string ((rd_T114 l0 x3_1).f0)] ?_;(with_reducible refine (spec_l01Name.calls k1 ((rd_T114 l0 x3_1).f0) true _ A8.out).mono ?_);rintro e w' ⟨rfl,⟨nd,rfl⟩⟩;refine ⟨_,rfl,?_⟩;refine hK.out _ _ (hb3 BK49).out (fun hHeld=>?_);clear hK K;refine nA 21 ?_;refine pz3 3 ?_;refine ta 6 ?_;refine oA 7 26 HT_ (fun K hK=>?_);refine gA Tryz.func48 #[.string ((rd_T114 l0 x3_1).f1)] ?_;(with_reducible refine (spec_l01Name.calls k1 ((rd_T114 l0 x3_1).f1) false _ A10.out).mono ?_);rintro e w' ⟨rfl,⟨nd,rfl⟩⟩;refine ⟨_,rfl,?_⟩;refine hK.out _ _ (hb3 BK49).out (fun hHeld=>?_);clear hK K;refine nA 26 ?_;refine pz8 8 ?_;refine pz8 16 ?_;refine pz4 24 ?_;refine pz2 28 ?_;refine done_ (done_of HT_.out (by kernel_rfl)) ?_
        try go_wp2
        go_meet
        case rel=>exact ⟨_,(true),fg,H',⟨by have:=HK1.out;first|omega|exact Nat.le_refl _⟩,⟨ks BK49⟩,⟨bs HB⟩⟩
      ·replace H:=itF H;have H':=am H;clear H
       try go_wp2
       have n0_:Aside0 ((((w6.setCell ⟨gb49,0,none⟩ (.string ((rd_T114 l0 x3_1).f0))).setCell ⟨gb49,1,none⟩ (.string ((rd_T114 l0 x3_1).f1))).setCell ⟨gb49,2,none⟩ (.string ((rd_T114 l0 x3_1).f2))).heap[gb49]? = some (.cells #[.string ((rd_T114 l0 x3_1).f0),.string ((rd_T114 l0 x3_1).f1),.string ((rd_T114 l0 x3_1).f2)] 114 (0,0))):=⟨kp BK49⟩;have n1_:Aside0 (Below w.heap.size w (((w6.setCell ⟨gb49,0,none⟩ (.string ((rd_T114 l0 x3_1).f0))).setCell ⟨gb49,1,none⟩ (.string ((rd_T114 l0 x3_1).f1))).setCell ⟨gb49,2,none⟩ (.string ((rd_T114 l0 x3_1).f2)))):=⟨bs HB⟩;(try clear BK49);(try clear HB)
       generalize (((w6.setCell ⟨gb49,0,none⟩ (.string ((rd_T114 l0 x3_1).f0))).setCell ⟨gb49,1,none⟩ (.string ((rd_T114 l0 x3_1).f1))).setCell ⟨gb49,2,none⟩ (.string ((rd_T114 l0 x3_1).f2)))=w28 at n0_ n1_ ⊢
       have BK49:=n0_;have HB:=n1_;clear n0_ n1_;replace BK49:=am (blk_drew BK49.out);replace HB:=am (below_drew1 HB.out);refine sta 30 (hb3 BK49) (fun hHeld=>?_);refine with_tabW spec_CrossRight.tab7 spec_CrossRight.bits7 (fun HT_ HW_=>?_)
       generalize w28.drew=w29 at BK49 HB hHeld ⊢
       refine pz1 0 ?_;refine ta 1 ?_;refine oA 2 21 HT_ (fun K hK=>?_);refine gA Tryz.func48 #[.string ((rd_T114 l0 x3_1).f0)] ?_;(with_reducible refine (spec_l01Name.calls k1 ((rd_T114 l0 x3_1).f0) false _ A8.out).mono ?_);rintro e w' ⟨rfl,⟨nd,rfl⟩⟩;refine ⟨_,rfl,?_⟩;refine hK.out _ _ (hb3 BK49).out (fun hHeld=>?_);clear hK K;refine nA 21 ?_;refine pz8 3 ?_;refine pz8 11 ?_;refine pz8 19 ?_;refine pz3 27 ?_;refine done_ (done_of HT_.out (by kernel_rfl)) ?_
       try go_wp2
       go_meet
       case rel=>exact ⟨_,(true),fg,H',⟨by have:=HK1.out;first|omega|exact Nat.le_refl _⟩,⟨ks BK49⟩,⟨bs HB⟩⟩
     case rest =>
      clear HC5
      obtain ⟨kq,x48_4,rfl,HA,HJ4,BK49,HB⟩:=hcut
      cases kq with
      | zero=>exact absurd HA.out (by simp [spec_CrossRight.j1])
      | succ kj4 =>
       have H:=HA.out;clear HA;simp only [spec_CrossRight.j1] at H
       obtain rfl|rfl:=bt x48_4
       ·replace H:=itT H;obtain rfl:=si H
        go_wp2
        go_ret
        exact ⟨ff,bs HB⟩
       ·replace H:=itF H;have H':=am H;clear H
        go_wp2
        go_loopg [5] kj4 (fun kq v5 w'=>∃ (x5_3:Int),v5=.int .i64 x5_3∧Aside0 (spec_CrossRight.l1 kq l0 x3_1 x5_3 ((rd_T114 l0 x3_1).f0) ((rd_T114 l0 x3_1).f1) ((rd_T114 l0 x3_1).f2)=some r)∧Aside0 (kq≤kj4)∧Aside0 (w'.heap[gb49]? = some (.cells #[.string ((rd_T114 l0 x3_1).f0),.string ((rd_T114 l0 x3_1).f1),.string ((rd_T114 l0 x3_1).f2)] 114 (0,0)))∧Aside0 (Below w.heap.size w w'))
        case atStart=>exact ⟨(0),fg,H',⟨Nat.le_refl _⟩,⟨ks BK49⟩,⟨bs HB⟩⟩
        case round =>
         clear H'
         try clear BK49
         obtain ⟨x5_3,rfl,HA,HK3,BK49,HB⟩:=hrel
         cases gk with
         | zero=>exact absurd HA.out (by simp [spec_CrossRight.l1])
         | succ k3 =>
          have H:=HA.out;clear HA;simp only [spec_CrossRight.l1] at H
          revert H;refine id2 ?_ ?_
          ·intro c31b0 H
           revert H;refine id1 ?_
           intro c32b0 H
           revert H;refine id1 ?_
           intro c33b0 H
           revert H;refine ie2 ?_ ?_
           ·intro c34b0 c34b1 H
            revert H;refine ie2 ?_ ?_
            ·intro c35b0 c35b1 H;obtain rfl:=si H
             try go_wp2
             replace BK49:=am (blk_drew BK49.out);replace HB:=am (below_drew1 HB.out);have p50:0≤(x5_3:Int):=oa;have q50:x5_3<(l0.length:Int):=oa;obtain ⟨ad50,e50,hx50_0,hx50_1,hx50_2⟩:=at_T114 HR0.out x5_3 p50 q50;have hw50_2:=hx50_2;have hw50_1:=hx50_1;have hw50_0:=hx50_0;obtain rfl:ad53=ad50:=(by injection e50);replace hx50_0:=cb HB hx50_0;replace hx50_1:=cb HB hx50_1;replace hx50_2:=cb HB hx50_2;replace p50:=eq_true p50;replace q50:=eq_true q50;have p51:0≤(x5_3:Int):=oa;have q51:x5_3<(l0.length:Int):=oa;obtain ⟨ad51,e51,hx51_0,hx51_1,hx51_2⟩:=at_T114 HR0.out x5_3 p51 q51;have hw51_2:=hx51_2;have hw51_1:=hx51_1;have hw51_0:=hx51_0;obtain rfl:ad53=ad51:=(by injection e51);replace hx51_0:=cb HB hx51_0;replace hx51_1:=cb HB hx51_1;replace hx51_2:=cb HB hx51_2;replace p51:=eq_true p51;replace q51:=eq_true q51;refine sta 18 (hb3a BK49 (hca (cb HB hw50_0) (hca (cb HB hw50_1) (hca (cb HB hw50_2) (hca (cb HB hw51_0) (hca (cb HB hw51_1) (hc (cb HB hw51_2)))))))) (fun hHeld=>?_);refine with_tabW spec_CrossRight.tab12 spec_CrossRight.bits12 (fun HT_ HW_=>?_)
             generalize wr.drew=w36 at BK49 HB hx50_0 hx50_1 hx50_2 hx51_0 hx51_1 hx51_2 hHeld ⊢
             refine pz4 0 ?_;refine pz1 5 ?_;refine ta 4 ?_;refine ta 6 ?_;refine pz4 7 ?_;refine pz2 11 ?_;refine pz1 14 ?_;refine ta 13 ?_;refine ta 15 ?_;refine pz2 16 ?_;refine done_ (done_of HT_.out (by kernel_rfl)) ?_
             try go_wp2
             go_ret
             exact ⟨ff,bs HB⟩
            ·intro c35 c35b0 c35b1 H;have H':=am H;clear H
             try go_wp2
             replace BK49:=am (blk_drew BK49.out);replace HB:=am (below_drew1 HB.out);have p50:0≤(x5_3:Int):=oa;have q50:x5_3<(l0.length:Int):=oa;obtain ⟨ad50,e50,hx50_0,hx50_1,hx50_2⟩:=at_T114 HR0.out x5_3 p50 q50;have hw50_2:=hx50_2;have hw50_1:=hx50_1;have hw50_0:=hx50_0;obtain rfl:ad53=ad50:=(by injection e50);replace hx50_0:=cb HB hx50_0;replace hx50_1:=cb HB hx50_1;replace hx50_2:=cb HB hx50_2;replace p50:=eq_true p50;replace q50:=eq_true q50;have p51:0≤(x5_3:Int):=oa;have q51:x5_3<(l0.length:Int):=oa;obtain ⟨ad51,e51,hx51_0,hx51_1,hx51_2⟩:=at_T114 HR0.out x5_3 p51 q51;have hw51_2:=hx51_2;have hw51_1:=hx51_1;have hw51_0:=hx51_0;obtain rfl:ad53=ad51:=(by injection e51);replace hx51_0:=cb HB hx51_0;replace hx51_1:=cb HB hx51_1;replace hx51_2:=cb HB hx51_2;replace p51:=eq_true p51;replace q51:=eq_true q51;refine sta 18 (hb3a BK49 (hca (cb HB hw50_0) (hca (cb HB hw50_1) (hca (cb HB hw50_2) (hca (cb HB hw51_0) (hca (cb HB hw51_1) (hc (cb HB hw51_2)))))))) (fun hHeld=>?_);refine with_tabW spec_CrossRight.tab12 spec_CrossRight.bits12 (fun HT_ HW_=>?_)
             generalize wr.drew=w37 at BK49 HB hx50_0 hx50_1 hx50_2 hx51_0 hx51_1 hx51_2 hHeld ⊢
             refine pz4 0 ?_;refine pz1 5 ?_;refine ta 4 ?_;refine ta 6 ?_;refine pz4 7 ?_;refine pz2 11 ?_;refine pz1 14 ?_;refine ta 13 ?_;refine ta 15 ?_;refine pz2 16 ?_;refine done_ (done_of HT_.out (by kernel_rfl)) ?_
             try go_wp2
             go_roundg k3
             case measure=>have:=HK1.out;have:=HJ4.out;have:=HK3.out;omega
             case rel=>exact ⟨(wrap64 (x5_3+1)),fg,H',⟨by have:=HK1.out;have:=HJ4.out;have:=HK3.out;omega⟩,⟨ks BK49⟩,⟨bs HB⟩⟩
           ·intro c34 c34b0 c34b1 H;have H':=am H;clear H
            try go_wp2
            replace BK49:=am (blk_drew BK49.out);replace HB:=am (below_drew1 HB.out);have p50:0≤(x5_3:Int):=oa;have q50:x5_3<(l0.length:Int):=oa;obtain ⟨ad50,e50,hx50_0,hx50_1,hx50_2⟩:=at_T114 HR0.out x5_3 p50 q50;have hw50_2:=hx50_2;have hw50_1:=hx50_1;have hw50_0:=hx50_0;obtain rfl:ad53=ad50:=(by injection e50);replace hx50_0:=cb HB hx50_0;replace hx50_1:=cb HB hx50_1;replace hx50_2:=cb HB hx50_2;replace p50:=eq_true p50;replace q50:=eq_true q50;refine sta 18 (hb3a BK49 (hca (cb HB hw50_0) (hca (cb HB hw50_1) (hc (cb HB hw50_2))))) (fun hHeld=>?_);refine with_tabW spec_CrossRight.tab12 spec_CrossRight.bits12 (fun HT_ HW_=>?_)
            generalize wr.drew=w38 at BK49 HB hx50_0 hx50_1 hx50_2 hHeld ⊢
            refine pz4 0 ?_;refine pz1 5 ?_;refine ta 4 ?_;refine ta 6 ?_;refine pz8 7 ?_;refine pz3 15 ?_;refine done_ (done_of HT_.out (by kernel_rfl)) ?_
            try go_wp2
            go_roundg k3
            case measure=>have:=HK1.out;have:=HJ4.out;have:=HK3.out;omega
            case rel=>exact ⟨(wrap64 (x5_3+1)),fg,H',⟨by have:=HK1.out;have:=HJ4.out;have:=HK3.out;omega⟩,⟨ks BK49⟩,⟨bs HB⟩⟩
          ·intro c31b0 H;have H':=am H;clear H
           go_wp2
           go_roundg k3
           case measure=>have:=HK1.out;have:=HJ4.out;have:=HK3.out;omega
           case rel=>exact ⟨(wrap64 (x3_1+1)),fg,H',⟨by have:=HK1.out;have:=HJ4.out;have:=HK3.out;omega⟩,⟨bs HB⟩⟩
    ·intro c3b0 H;obtain rfl:=si H
     go_wp2
     go_ret
     exact ⟨ff,bs HB⟩
theorem spec_l01Qty.calls (a0:Int) (r:Bool) (w:World) (H:spec_l01Qty.f a0=some r) :
  Calls Tryz.prog 154 #[.int .i64 a0] w fun e w'=>e=.returned (.bool r)∧Drawn0 w w':=by
 unfold spec_l01Qty.f at H
 revert H;refine ip2 ?_ ?_
 ·intro c2 H;have c2b0:decide (1≤a0)=true:=decide_eq_true c2;clear c2;obtain rfl:=si H
  go_in
  go_wp2
  go_ret
  exact ⟨fg,dr⟩
 ·intro c2 H;have c2b0:decide (1≤a0)=false:=decide_eq_false c2;clear c2;obtain rfl:=si H
  go_in
  go_wp2
  go_ret
  exact ⟨fg,dr⟩
end Go.Proofs.YtomoflpgdbjojaaGreat.QO
