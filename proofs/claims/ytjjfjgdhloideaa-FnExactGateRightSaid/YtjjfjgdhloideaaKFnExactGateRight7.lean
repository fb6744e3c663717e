-- Merged by a program of this session (wip/tool/pack.py) out of its own texts for this claim.
import Derived.Test.YtjjfjgdhloideaaKFnExactGateRight0
import Derived.Test.YtjjfjgdhloideaaKFnExactGateRight1
import Derived.Test.YtjjfjgdhloideaaKFnExactGateRight2
import Derived.Test.YtjjfjgdhloideaaKFnExactGateRight3
import Derived.Test.YtjjfjgdhloideaaKFnExactGateRight5
import Derived.Test.YtjjfjgdhloideaaKFnExactGateRight6
namespace Go.Proofs.Ytjjfjgdhloideaa.QI
open Go.RowKit Go.Proofs.YtjjfjgdhloideaaW.PrintWords Go.Proofs.YtjjfjgdhloideaaW.PrintLast Go.Proofs.YtjjfjgdhloideaaW.PrintMore
attribute [local go_sem] max2_int min2_int max_two min_two max_three min_three max_four min_four   -- for this text's walks alone
set_option linter.unusedVariables false
set_option linter.unusedSimpArgs false
set_option maxHeartbeats 8000000 in
set_option maxRecDepth 100000 in
theorem laws_toGate.calls (k:Nat) (a0_0:ByteArray) (a0_1:Int) (A0_2:Option Addr) (c0_2:Nat) (l0_2:List (S126)) (A0_3:Option Addr) (c0_3:Nat) (l0_3:List (S128)) (A0_4:Option Addr) (c0_4:Nat) (l0_4:List (S111)) (A0_5:Option Addr) (c0_5:Nat) (l0_5:List (S113)) (A0_6:Option Addr) (c0_6:Nat) (l0_6:List (S130)) (A0_7:Option Addr) (c0_7:Nat) (l0_7:List (S132)) (r1:ByteArray) (r2:Int) (r3:List (S92)) (r4:List (S102)) (r5:List (S71)) (r6:List (S73)) (r7:List (S105)) (r8:List (S108)) (w:World) (hr0_2:Kd.C k126 w A0_2 l0_2.length l0_2) (hc0_2:l0_2.length≤c0_2) (hr0_3:Kd.C k128 w A0_3 l0_3.length l0_3) (hc0_3:l0_3.length≤c0_3) (hr0_4:Kd.C k111 w A0_4 l0_4.length l0_4) (hc0_4:l0_4.length≤c0_4) (hr0_5:Kd.C k113 w A0_5 l0_5.length l0_5) (hc0_5:l0_5.length≤c0_5) (hr0_6:Kd.C k130 w A0_6 l0_6.length l0_6) (hc0_6:l0_6.length≤c0_6) (hr0_7:Kd.C k132 w A0_7 l0_7.length l0_7) (hc0_7:l0_7.length≤c0_7) (h:laws_toGate.f k a0_0 a0_1 l0_2 l0_3 l0_4 l0_5 l0_6 l0_7=some (r1,r2,r3,r4,r5,r6,r7,r8)) :
  Calls Try.prog 22 #[.agg #[.string a0_0,.int .i64 a0_1,.slice A0_2 l0_2.length c0_2,.slice A0_3 l0_3.length c0_3,.slice A0_4 l0_4.length c0_4,.slice A0_5 l0_5.length c0_5,.slice A0_6 l0_6.length c0_6,.slice A0_7 l0_7.length c0_7]] w fun e w'=>∃ v2_ v3_ v4_ v5_ v6_ v7_:Value,e=.returned (.agg #[.string r1,.int .i64 r2,v2_,v3_,v4_,v5_,v6_,v7_])∧Kd.S k92 92 w' w.heap.size (fun _=>True) v2_ r3∧Kd.R k102 102 w' w.heap.size (fun _=>True) v3_ r4∧Kd.R k71 71 w' w.heap.size (fun _=>True) v4_ r5∧Kd.R k73 73 w' w.heap.size (fun _=>True) v5_ r6∧Kd.R k105 105 w' w.heap.size (fun _=>True) v6_ r7∧Kd.R k108 108 w' w.heap.size (fun _=>True) v7_ r8∧Below w.heap.size w w':=by
 have hu54:=Try.underlying54;have hu31:=Try.underlying31;have hu39:=Try.underlying39;have hu27:=Try.underlying27;have HR0_2:=am hr0_2;have HC0_2:=am hc0_2;clear hr0_2 hc0_2;have HR0_3:=am hr0_3;have HC0_3:=am hc0_3;clear hr0_3 hc0_3;have HR0_4:=am hr0_4;have HC0_4:=am hc0_4;clear hr0_4 hc0_4;have HR0_5:=am hr0_5;have HC0_5:=am hc0_5;clear hr0_5 hc0_5;have HR0_6:=am hr0_6;have HC0_6:=am hc0_6;clear hr0_6 hc0_6;have HR0_7:=am hr0_7;have HC0_7:=am hc0_7;clear hr0_7 hc0_7;have HB:=am (Below.refl w.heap.size w);have H:((laws_toPartnerS.f k l0_2).bind fun t233=>((laws_toCrossS.f k l0_3).bind fun t236=>((laws_toBook.f k l0_4 l0_5).bind fun bt239=>((laws_toDiffS.f k l0_6).bind fun t245=>((laws_toOutS.f k l0_7).bind fun t248=>(some (a0_0,a0_1,t233,t236,bt239.1,bt239.2,t245,t248)))))))=some (r1,r2,r3,r4,r5,r6,r7,r8):=h;clear h;replace H:=Option.bind_eq_some_iff.mp H;obtain ⟨t233,A20,H⟩:=H;replace H:((laws_toCrossS.f k l0_3).bind fun t236=>((laws_toBook.f k l0_4 l0_5).bind fun bt239=>((laws_toDiffS.f k l0_6).bind fun t245=>((laws_toOutS.f k l0_7).bind fun t248=>(some (a0_0,a0_1,t233,t236,bt239.1,bt239.2,t245,t248))))))=some (r1,r2,r3,r4,r5,r6,r7,r8):=H;have A2:=am A20;clear A20;replace H:=Option.bind_eq_some_iff.mp H;obtain ⟨t236,A30,H⟩:=H;replace H:((laws_toBook.f k l0_4 l0_5).bind fun bt239=>((laws_toDiffS.f k l0_6).bind fun t245=>((laws_toOutS.f k l0_7).bind fun t248=>(some (a0_0,a0_1,t233,t236,bt239.1,bt239.2,t245,t248)))))=some (r1,r2,r3,r4,r5,r6,r7,r8):=H;have A3:=am A30;clear A30;replace H:=Option.bind_eq_some_iff.mp H;obtain ⟨⟨t239,t242⟩,A40,H⟩:=H;replace H:((laws_toDiffS.f k l0_6).bind fun t245=>((laws_toOutS.f k l0_7).bind fun t248=>(some (a0_0,a0_1,t233,t236,t239,t242,t245,t248))))=some (r1,r2,r3,r4,r5,r6,r7,r8):=H;have A4:=am A40;clear A40;replace H:=Option.bind_eq_some_iff.mp H;obtain ⟨t245,A50,H⟩:=H;replace H:((laws_toOutS.f k l0_7).bind fun t248=>(some (a0_0,a0_1,t233,t236,t239,t242,t245,t248)))=some (r1,r2,r3,r4,r5,r6,r7,r8):=H;have A5:=am A50;clear A50;replace H:=Option.bind_eq_some_iff.mp H;obtain ⟨t248,A60,H⟩:=H;replace H:(some (a0_0,a0_1,t233,t236,t239,t242,t245,t248))=some (r1,r2,r3,r4,r5,r6,r7,r8):=H;have A6:=am A60;clear A60;simp only [Option.some.injEq,Prod.mk.injEq] at H;obtain ⟨rfl,rfl,rfl,rfl,rfl,rfl,rfl,rfl⟩:=H
 go_enter Try.func22,Try.ntmps22
 go_wp2_with (first|((with_reducible refine gate_dst (N:=1) rfl ?_);refine bx 1 (cs:=#[.string a0_0,.int .i64 a0_1,.slice A0_2 l0_2.length c0_2,.slice A0_3 l0_3.length c0_3,.slice A0_4 l0_4.length c0_4,.slice A0_5 l0_5.length c0_5,.slice A0_6 l0_6.length c0_6,.slice A0_7 l0_7.length c0_7]) (t:=54) ?_;intro gb230 hg w7 hbox hb;have BK230:=am (hbox);have GW230:=am ((gs hg (bs HB)));have GE230:=am ((gs hg (bs HB)));replace HB:=am (below_step (bs HB) hb);clear hb hbox hg)|((with_reducible refine gate_dst (N:=2) rfl ?_);refine bx 2 (cs:=#[.string (⟨#[]⟩:ByteArray),.int .i64 0,.slice none 0 0,.slice none 0 0,.slice none 0 0,.slice none 0 0,.slice none 0 0,.slice none 0 0]) (t:=31) ?_;intro gb231 hg w8 hbox hb;have BK231:=am (hbox);have GW231:=am ((gs hg (bs HB)));have GE231:=am ((gs hg (bs HB)));replace HB:=am (below_step (bs HB) hb);have NB230_231:=am ((gn hg (ks BK230)));have NB231_230:=am ((gm hg (ks BK230)));replace BK230:=am (blk_below (ks BK230) hb);clear hb hbox hg)|((with_reducible refine gate_dst (N:=3) rfl ?_);refine bx 3 (cs:=#[.string (⟨#[]⟩:ByteArray),.int .i64 0,.slice none 0 0,.slice none 0 0,.slice none 0 0,.slice none 0 0,.slice none 0 0,.slice none 0 0]) (t:=31) ?_;intro gb232 hg w9 hbox hb;have BK232:=am (hbox);have GW232:=am ((gs hg (bs HB)));have GE232:=am ((gs hg (bs HB)));replace HB:=am (below_step (bs HB) hb);have NB230_232:=am ((gn hg (ks BK230)));have NB232_230:=am ((gm hg (ks BK230)));replace BK230:=am (blk_below (ks BK230) hb);have NB231_232:=am ((gn hg (ks BK231)));have NB232_231:=am ((gm hg (ks BK231)));replace BK231:=am (blk_below (ks BK231) hb);clear hb hbox hg;have hnb10:=NB230_231.out;have hnc10:=NB231_230.out;have hnb11:=NB230_232.out;have hnc11:=NB232_230.out;obtain ⟨hcz12_0,hcz12_1,hcz12_2,hcz12_3,hcz12_4,hcz12_5,hcz12_6,hcz12_7,hfz12_0,hfz12_1,hfz12_2,hfz12_3,hfz12_4,hfz12_5,hfz12_6,hfz12_7⟩:=cf8 BK230;have hnb13:=NB232_231.out;have hnc13:=NB231_232.out;have hcz14_0:w9.cell? ⟨gb232,0,none⟩=some (.string (⟨#[]⟩:ByteArray)):=(blk_cell BK232.out 0).trans rfl;have hcz14_1:w9.cell? ⟨gb232,1,none⟩=some (.int .i64 0):=(blk_cell BK232.out 1).trans rfl;have hcz14_2:w9.cell? ⟨gb232,2,none⟩=some (.slice none 0 0):=(blk_cell BK232.out 2).trans rfl;have hcz14_3:w9.cell? ⟨gb232,3,none⟩=some (.slice none 0 0):=(blk_cell BK232.out 3).trans rfl;have hcz14_4:w9.cell? ⟨gb232,4,none⟩=some (.slice none 0 0):=(blk_cell BK232.out 4).trans rfl;have hcz14_5:w9.cell? ⟨gb232,5,none⟩=some (.slice none 0 0):=(blk_cell BK232.out 5).trans rfl;have hcz14_6:w9.cell? ⟨gb232,6,none⟩=some (.slice none 0 0):=(blk_cell BK232.out 6).trans rfl;have hcz14_7:w9.cell? ⟨gb232,7,none⟩=some (.slice none 0 0):=(blk_cell BK232.out 7).trans rfl;have hfz14_0:=blk_frozen BK232.out 0;have hfz14_1:=blk_frozen BK232.out 1;have hfz14_2:=blk_frozen BK232.out 2;have hfz14_3:=blk_frozen BK232.out 3;have hfz14_4:=blk_frozen BK232.out 4;have hfz14_5:=blk_frozen BK232.out 5;have hfz14_6:=blk_frozen BK232.out 6;have hfz14_7:=blk_frozen BK232.out 7)|((first|((with_reducible refine gate_callee (f:=59) rfl ?_);refine goesL_ (some 12) rfl rfl Try.func59 (by kernel_rfl) rfl #[.slice A0_2 l0_2.length c0_2] rfl (by (try simp only [List.map_toArray,List.map_cons,List.map_nil]);first|done|rfl|(simp only [List.length_drop,List.length_take];rfl)) ?_;(with_reducible refine (laws_toPartnerS.calls k _ _ l0_2 t233 _ ?side1 HC0_2.out A2.out).mono ?_);(case side1=>exact Kd.C_below HR0_2.out (bs HB));rintro e w15 ⟨v234,rfl,ho0,hb⟩;refine ⟨_,rfl,?_⟩)|(go_at_call 59;(with_reducible refine (laws_toPartnerS.calls k _ _ l0_2 t233 _ ?side1 HC0_2.out A2.out).mono ?_);(case side1=>exact Kd.C_below HR0_2.out (bs HB));rintro e w15 ⟨v234,rfl,ho0,hb⟩));have HO235:=am (Kd.S_lower ho0 (below_size (bs HB)));replace BK230:=am (blk_below (ks BK230) hb);replace BK231:=am (blk_below (ks BK231) hb);replace BK232:=am (blk_below (g:=gb232) (o:=.cells #[.string a0_0,.int .i64 a0_1,.slice none 0 0,.slice none 0 0,.slice none 0 0,.slice none 0 0,.slice none 0 0,.slice none 0 0] 31 (0,0)) (kp BK232) hb);replace HB:=am (below_step (bs HB) hb);(try clear hb);(try clear hb2);(try clear hk);(try clear hi);(try clear ho0);obtain ⟨Ao16,co16,eo16⟩:=Kd.S_slice HO235.out;subst eo16;obtain ⟨hcz17_0,hcz17_1,hcz17_2,hcz17_3,hcz17_4,hcz17_5,hcz17_6,hcz17_7,hfz17_0,hfz17_1,hfz17_2,hfz17_3,hfz17_4,hfz17_5,hfz17_6,hfz17_7⟩:=cf8 BK232;have hcz18_0:w15.cell? ⟨gb230,0,none⟩=some (.string a0_0):=(blk_cell BK230.out 0).trans rfl;have hcz18_1:w15.cell? ⟨gb230,1,none⟩=some (.int .i64 a0_1):=(blk_cell BK230.out 1).trans rfl;have hcz18_2:w15.cell? ⟨gb230,2,none⟩=some (.slice A0_2 l0_2.length c0_2):=(blk_cell BK230.out 2).trans rfl;have hcz18_3:w15.cell? ⟨gb230,3,none⟩=some (.slice A0_3 l0_3.length c0_3):=(blk_cell BK230.out 3).trans rfl;have hcz18_4:w15.cell? ⟨gb230,4,none⟩=some (.slice A0_4 l0_4.length c0_4):=(blk_cell BK230.out 4).trans rfl;have hcz18_5:w15.cell? ⟨gb230,5,none⟩=some (.slice A0_5 l0_5.length c0_5):=(blk_cell BK230.out 5).trans rfl;have hcz18_6:w15.cell? ⟨gb230,6,none⟩=some (.slice A0_6 l0_6.length c0_6):=(blk_cell BK230.out 6).trans rfl;have hcz18_7:w15.cell? ⟨gb230,7,none⟩=some (.slice A0_7 l0_7.length c0_7):=(blk_cell BK230.out 7).trans rfl;have hfz18_0:=blk_frozen BK230.out 0;have hfz18_1:=blk_frozen BK230.out 1;have hfz18_2:=blk_frozen BK230.out 2;have hfz18_3:=blk_frozen BK230.out 3;have hfz18_4:=blk_frozen BK230.out 4;have hfz18_5:=blk_frozen BK230.out 5;have hfz18_6:=blk_frozen BK230.out 6;have hfz18_7:=blk_frozen BK230.out 7)|((first|((with_reducible refine gate_callee (f:=60) rfl ?_);refine goesL_ (some 16) rfl rfl Try.func60 (by kernel_rfl) rfl #[.slice A0_3 l0_3.length c0_3] rfl (by (try simp only [List.map_toArray,List.map_cons,List.map_nil]);first|done|rfl|(simp only [List.length_drop,List.length_take];rfl)) ?_;(with_reducible refine (laws_toCrossS.calls k _ _ l0_3 t236 _ ?side1 HC0_3.out A3.out).mono ?_);(case side1=>exact Kd.C_below HR0_3.out (bs HB));rintro e w19 ⟨v237,rfl,ho0,hb⟩;refine ⟨_,rfl,?_⟩)|(go_at_call 60;(with_reducible refine (laws_toCrossS.calls k _ _ l0_3 t236 _ ?side1 HC0_3.out A3.out).mono ?_);(case side1=>exact Kd.C_below HR0_3.out (bs HB));rintro e w19 ⟨v237,rfl,ho0,hb⟩));have n0_:=am (Kd.S_below (by (with_reducible repeat (first|apply Kd.S_alloc|apply Kd.S_drewN|apply Kd.S_drew));exact (Kd.S_mono (Kd.S_far (p:=⟨gb232,2,none⟩) (Kd.S_types HO235.out BK232.out (by decide)) (fun _ hk=>hk.2) (.slice Ao16 t233.length co16)) (fun _ h_=>h_.1))) hb);have n1_:=am (Kd.R_lower ho0 (below_size (bs HB)));have n2_:=am (blk_below (ks BK230) hb);have n3_:=am (blk_below (ks BK231) hb);have n4_:=am (blk_below (g:=gb232) (o:=.cells #[.string a0_0,.int .i64 a0_1,.slice Ao16 t233.length co16,.slice none 0 0,.slice none 0 0,.slice none 0 0,.slice none 0 0,.slice none 0 0] 31 (0,0)) (kp BK232) hb);have n5_:=am (below_step (bs HB) hb);clear HO235;clear BK230;clear BK231;clear BK232;clear HB;have HO235:=n0_;have HO238:=n1_;have BK230:=n2_;have BK231:=n3_;have BK232:=n4_;have HB:=n5_;clear n0_ n1_ n2_ n3_ n4_ n5_;(try clear hb);(try clear hb2);(try clear hk);(try clear hi);(try clear ho0);obtain ⟨Ao20,co20,eo20⟩:=Kd.R_slice HO238.out;subst eo20;obtain ⟨hcz21_0,hcz21_1,hcz21_2,hcz21_3,hcz21_4,hcz21_5,hcz21_6,hcz21_7,hfz21_0,hfz21_1,hfz21_2,hfz21_3,hfz21_4,hfz21_5,hfz21_6,hfz21_7⟩:=cf8 BK232;have hcz22_0:w19.cell? ⟨gb230,0,none⟩=some (.string a0_0):=(blk_cell BK230.out 0).trans rfl;have hcz22_1:w19.cell? ⟨gb230,1,none⟩=some (.int .i64 a0_1):=(blk_cell BK230.out 1).trans rfl;have hcz22_2:w19.cell? ⟨gb230,2,none⟩=some (.slice A0_2 l0_2.length c0_2):=(blk_cell BK230.out 2).trans rfl;have hcz22_3:w19.cell? ⟨gb230,3,none⟩=some (.slice A0_3 l0_3.length c0_3):=(blk_cell BK230.out 3).trans rfl;have hcz22_4:w19.cell? ⟨gb230,4,none⟩=some (.slice A0_4 l0_4.length c0_4):=(blk_cell BK230.out 4).trans rfl;have hcz22_5:w19.cell? ⟨gb230,5,none⟩=some (.slice A0_5 l0_5.length c0_5):=(blk_cell BK230.out 5).trans rfl;have hcz22_6:w19.cell? ⟨gb230,6,none⟩=some (.slice A0_6 l0_6.length c0_6):=(blk_cell BK230.out 6).trans rfl;have hcz22_7:w19.cell? ⟨gb230,7,none⟩=some (.slice A0_7 l0_7.length c0_7):=(blk_cell BK230.out 7).trans rfl;have hfz22_0:=blk_frozen BK230.out 0;have hfz22_1:=blk_frozen BK230.out 1;have hfz22_2:=blk_frozen BK230.out 2;have hfz22_3:=blk_frozen BK230.out 3;have hfz22_4:=blk_frozen BK230.out 4;have hfz22_5:=blk_frozen BK230.out 5;have hfz22_6:=blk_frozen BK230.out 6;have hfz22_7:=blk_frozen BK230.out 7)|((first|((with_reducible refine gate_callee (f:=13) rfl ?_);refine goesL_ (some 20) rfl rfl Try.func13 (by kernel_rfl) rfl #[.agg #[.slice A0_4 l0_4.length c0_4,.slice A0_5 l0_5.length c0_5]] rfl (by (try simp only [List.map_toArray,List.map_cons,List.map_nil]);first|done|rfl|(simp only [List.length_drop,List.length_take];rfl)) ?_;(with_reducible refine (laws_toBook.calls k _ _ l0_4 _ _ l0_5 t239 t242 _ ?side1 HC0_4.out ?side3 HC0_5.out A4.out).mono ?_);(case side1=>exact Kd.C_below HR0_4.out (bs HB));(case side3=>exact Kd.C_below HR0_5.out (bs HB));rintro e w23 ⟨v240,v243,rfl,ho0,ho1,hb⟩;refine ⟨_,rfl,?_⟩)|(go_at_call 13;(with_reducible refine (laws_toBook.calls k _ _ l0_4 _ _ l0_5 t239 t242 _ ?side1 HC0_4.out ?side3 HC0_5.out A4.out).mono ?_);(case side1=>exact Kd.C_below HR0_4.out (bs HB));(case side3=>exact Kd.C_below HR0_5.out (bs HB));rintro e w23 ⟨v240,v243,rfl,ho0,ho1,hb⟩));have n0_:=am (Kd.S_below (by (with_reducible repeat (first|apply Kd.S_alloc|apply Kd.S_drewN|apply Kd.S_drew));exact (Kd.S_mono (Kd.S_far (p:=⟨gb232,3,none⟩) (Kd.S_types HO235.out BK232.out (by decide)) (fun _ hk=>hk.2) (.slice Ao20 t236.length co20)) (fun _ h_=>h_.1))) hb);have n1_:=am (Kd.R_below (by (with_reducible repeat (first|apply Kd.R_alloc|apply Kd.R_drewN|apply Kd.R_drew));exact (Kd.R_mono (rf (Kd.R_types HO238.out BK232.out (by decide))) (fun _ h_=>h_.1))) hb);have n2_:=am (Kd.R_lower ho0 (below_size (bs HB)));have n3_:=am (Kd.R_lower ho1 (below_size (bs HB)));have n4_:=am (blk_below (ks BK230) hb);have n5_:=am (blk_below (ks BK231) hb);have n6_:=am (blk_below (g:=gb232) (o:=.cells #[.string a0_0,.int .i64 a0_1,.slice Ao16 t233.length co16,.slice Ao20 t236.length co20,.slice none 0 0,.slice none 0 0,.slice none 0 0,.slice none 0 0] 31 (0,0)) (kp BK232) hb);have n7_:=am (below_step (bs HB) hb);clear HO235;clear HO238;clear BK230;clear BK231;clear BK232;clear HB;have HO235:=n0_;have HO238:=n1_;have HO241:=n2_;have HO244:=n3_;have BK230:=n4_;have BK231:=n5_;have BK232:=n6_;have HB:=n7_;clear n0_ n1_ n2_ n3_ n4_ n5_ n6_ n7_;(try clear hb);(try clear hb2);(try clear hk);(try clear hi);(try clear ho0);(try clear ho1);obtain ⟨Ao24,co24,eo24⟩:=Kd.R_slice HO241.out;subst eo24;obtain ⟨hcz25_0,hcz25_1,hcz25_2,hcz25_3,hcz25_4,hcz25_5,hcz25_6,hcz25_7,hfz25_0,hfz25_1,hfz25_2,hfz25_3,hfz25_4,hfz25_5,hfz25_6,hfz25_7⟩:=cf8 BK232;obtain ⟨Ao26,co26,eo26⟩:=Kd.R_slice HO244.out;subst eo26;have hcz27_0:w23.cell? ⟨gb230,0,none⟩=some (.string a0_0):=(blk_cell BK230.out 0).trans rfl;have hcz27_1:w23.cell? ⟨gb230,1,none⟩=some (.int .i64 a0_1):=(blk_cell BK230.out 1).trans rfl;have hcz27_2:w23.cell? ⟨gb230,2,none⟩=some (.slice A0_2 l0_2.length c0_2):=(blk_cell BK230.out 2).trans rfl;have hcz27_3:w23.cell? ⟨gb230,3,none⟩=some (.slice A0_3 l0_3.length c0_3):=(blk_cell BK230.out 3).trans rfl;have hcz27_4:w23.cell? ⟨gb230,4,none⟩=some (.slice A0_4 l0_4.length c0_4):=(blk_cell BK230.out 4).trans rfl;have hcz27_5:w23.cell? ⟨gb230,5,none⟩=some (.slice A0_5 l0_5.length c0_5):=(blk_cell BK230.out 5).trans rfl;have hcz27_6:w23.cell? ⟨gb230,6,none⟩=some (.slice A0_6 l0_6.length c0_6):=(blk_cell BK230.out 6).trans rfl;have hcz27_7:w23.cell? ⟨gb230,7,none⟩=some (.slice A0_7 l0_7.length c0_7):=(blk_cell BK230.out 7).trans rfl;have hfz27_0:=blk_frozen BK230.out 0;have hfz27_1:=blk_frozen BK230.out 1;have hfz27_2:=blk_frozen BK230.out 2;have hfz27_3:=blk_frozen BK230.out 3;have hfz27_4:=blk_frozen BK230.out 4;have hfz27_5:=blk_frozen BK230.out 5;have hfz27_6:=blk_frozen BK230.out 6;have hfz27_7:=blk_frozen BK230.out 7)|((first|((with_reducible refine gate_callee (f:=61) rfl ?_);refine goesL_ (some 24) rfl rfl Try.func61 (by kernel_rfl) rfl #[.slice A0_6 l0_6.length c0_6] rfl (by (try simp only [List.map_toArray,List.map_cons,List.map_nil]);first|done|rfl|(simp only [List.length_drop,List.length_take];rfl)) ?_;(with_reducible refine (laws_toDiffS.calls k _ _ l0_6 t245 _ ?side1 HC0_6.out A5.out).mono ?_);(case side1=>exact Kd.C_below HR0_6.out (bs HB));rintro e w28 ⟨v246,rfl,ho0,hb⟩;refine ⟨_,rfl,?_⟩)|(go_at_call 61;(with_reducible refine (laws_toDiffS.calls k _ _ l0_6 t245 _ ?side1 HC0_6.out A5.out).mono ?_);(case side1=>exact Kd.C_below HR0_6.out (bs HB));rintro e w28 ⟨v246,rfl,ho0,hb⟩));have n0_:=am (Kd.S_below (by (with_reducible repeat (first|apply Kd.S_alloc|apply Kd.S_drewN|apply Kd.S_drew));exact (Kd.S_mono (Kd.S_far (p:=⟨gb232,5,none⟩) (Kd.S_far (p:=⟨gb232,4,none⟩) (Kd.S_types HO235.out BK232.out (by decide)) (fun _ hk=>hk.2) (.slice Ao24 t239.length co24)) (fun _ hk=>hk.2) (.slice Ao26 t242.length co26)) (fun _ h_=>h_.1))) hb);have n1_:=am (Kd.R_below (by (with_reducible repeat (first|apply Kd.R_alloc|apply Kd.R_drewN|apply Kd.R_drew));exact (Kd.R_mono (rf (Kd.R_types HO238.out BK232.out (by decide))) (fun _ h_=>h_.1))) hb);have n2_:=am (Kd.R_below (by (with_reducible repeat (first|apply Kd.R_alloc|apply Kd.R_drewN|apply Kd.R_drew));exact (Kd.R_mono (rf (Kd.R_types HO241.out BK232.out (by decide))) (fun _ h_=>h_.1))) hb);have n3_:=am (Kd.R_below (by (with_reducible repeat (first|apply Kd.R_alloc|apply Kd.R_drewN|apply Kd.R_drew));exact (Kd.R_mono (rf (Kd.R_types HO244.out BK232.out (by decide))) (fun _ h_=>h_.1))) hb);have n4_:=am (Kd.R_lower ho0 (below_size (bs HB)));have n5_:=am (blk_below (ks BK230) hb);have n6_:=am (blk_below (ks BK231) hb);have n7_:=am (blk_below (g:=gb232) (o:=.cells #[.string a0_0,.int .i64 a0_1,.slice Ao16 t233.length co16,.slice Ao20 t236.length co20,.slice Ao24 t239.length co24,.slice Ao26 t242.length co26,.slice none 0 0,.slice none 0 0] 31 (0,0)) (kp BK232) hb);have n8_:=am (below_step (bs HB) hb);clear HO235;clear HO238;clear HO241;clear HO244;clear BK230;clear BK231;clear BK232;clear HB;have HO235:=n0_;have HO238:=n1_;have HO241:=n2_;have HO244:=n3_;have HO247:=n4_;have BK230:=n5_;have BK231:=n6_;have BK232:=n7_;have HB:=n8_;clear n0_ n1_ n2_ n3_ n4_ n5_ n6_ n7_ n8_;(try clear hb);(try clear hb2);(try clear hk);(try clear hi);(try clear ho0);obtain ⟨Ao29,co29,eo29⟩:=Kd.R_slice HO247.out;subst eo29;obtain ⟨hcz30_0,hcz30_1,hcz30_2,hcz30_3,hcz30_4,hcz30_5,hcz30_6,hcz30_7,hfz30_0,hfz30_1,hfz30_2,hfz30_3,hfz30_4,hfz30_5,hfz30_6,hfz30_7⟩:=cf8 BK232;have hcz31_0:w28.cell? ⟨gb230,0,none⟩=some (.string a0_0):=(blk_cell BK230.out 0).trans rfl;have hcz31_1:w28.cell? ⟨gb230,1,none⟩=some (.int .i64 a0_1):=(blk_cell BK230.out 1).trans rfl;have hcz31_2:w28.cell? ⟨gb230,2,none⟩=some (.slice A0_2 l0_2.length c0_2):=(blk_cell BK230.out 2).trans rfl;have hcz31_3:w28.cell? ⟨gb230,3,none⟩=some (.slice A0_3 l0_3.length c0_3):=(blk_cell BK230.out 3).trans rfl;have hcz31_4:w28.cell? ⟨gb230,4,none⟩=some (.slice A0_4 l0_4.length c0_4):=(blk_cell BK230.out 4).trans rfl;have hcz31_5:w28.cell? ⟨gb230,5,none⟩=some (.slice A0_5 l0_5.length c0_5):=(blk_cell BK230.out 5).trans rfl;have hcz31_6:w28.cell? ⟨gb230,6,none⟩=some (.slice A0_6 l0_6.length c0_6):=(blk_cell BK230.out 6).trans rfl;have hcz31_7:w28.cell? ⟨gb230,7,none⟩=some (.slice A0_7 l0_7.length c0_7):=(blk_cell BK230.out 7).trans rfl;have hfz31_0:=blk_frozen BK230.out 0;have hfz31_1:=blk_frozen BK230.out 1;have hfz31_2:=blk_frozen BK230.out 2;have hfz31_3:=blk_frozen BK230.out 3;have hfz31_4:=blk_frozen BK230.out 4;have hfz31_5:=blk_frozen BK230.out 5;have hfz31_6:=blk_frozen BK230.out 6;have hfz31_7:=blk_frozen BK230.out 7)|((first|((with_reducible refine gate_callee (f:=62) rfl ?_);refine goesL_ (some 28) rfl rfl Try.func62 (by kernel_rfl) rfl #[.slice A0_7 l0_7.length c0_7] rfl (by (try simp only [List.map_toArray,List.map_cons,List.map_nil]);first|done|rfl|(simp only [List.length_drop,List.length_take];rfl)) ?_;(with_reducible refine (laws_toOutS.calls k _ _ l0_7 t248 _ ?side1 HC0_7.out A6.out).mono ?_);(case side1=>exact Kd.C_below HR0_7.out (bs HB));rintro e w32 ⟨v249,rfl,ho0,hb⟩;refine ⟨_,rfl,?_⟩)|(go_at_call 62;(with_reducible refine (laws_toOutS.calls k _ _ l0_7 t248 _ ?side1 HC0_7.out A6.out).mono ?_);(case side1=>exact Kd.C_below HR0_7.out (bs HB));rintro e w32 ⟨v249,rfl,ho0,hb⟩));have n0_:=am (Kd.S_below (by (with_reducible repeat (first|apply Kd.S_alloc|apply Kd.S_drewN|apply Kd.S_drew));exact (Kd.S_mono (Kd.S_far (p:=⟨gb232,6,none⟩) (Kd.S_types HO235.out BK232.out (by decide)) (fun _ hk=>hk.2) (.slice Ao29 t245.length co29)) (fun _ h_=>h_.1))) hb);have n1_:=am (Kd.R_below (by (with_reducible repeat (first|apply Kd.R_alloc|apply Kd.R_drewN|apply Kd.R_drew));exact (Kd.R_mono (rf (Kd.R_types HO238.out BK232.out (by decide))) (fun _ h_=>h_.1))) hb);have n2_:=am (Kd.R_below (by (with_reducible repeat (first|apply Kd.R_alloc|apply Kd.R_drewN|apply Kd.R_drew));exact (Kd.R_mono (rf (Kd.R_types HO241.out BK232.out (by decide))) (fun _ h_=>h_.1))) hb);have n3_:=am (Kd.R_below (by (with_reducible repeat (first|apply Kd.R_alloc|apply Kd.R_drewN|apply Kd.R_drew));exact (Kd.R_mono (rf (Kd.R_types HO244.out BK232.out (by decide))) (fun _ h_=>h_.1))) hb);have n4_:=am (Kd.R_below (by (with_reducible repeat (first|apply Kd.R_alloc|apply Kd.R_drewN|apply Kd.R_drew));exact (Kd.R_mono (rf (Kd.R_types HO247.out BK232.out (by decide))) (fun _ h_=>h_.1))) hb);have n5_:=am (Kd.R_lower ho0 (below_size (bs HB)));have n6_:=am (blk_below (ks BK230) hb);have n7_:=am (blk_below (ks BK231) hb);have n8_:=am (blk_below (g:=gb232) (o:=.cells #[.string a0_0,.int .i64 a0_1,.slice Ao16 t233.length co16,.slice Ao20 t236.length co20,.slice Ao24 t239.length co24,.slice Ao26 t242.length co26,.slice Ao29 t245.length co29,.slice none 0 0] 31 (0,0)) (kp BK232) hb);have n9_:=am (below_step (bs HB) hb);clear HO235;clear HO238;clear HO241;clear HO244;clear HO247;clear BK230;clear BK231;clear BK232;clear HB;have HO235:=n0_;have HO238:=n1_;have HO241:=n2_;have HO244:=n3_;have HO247:=n4_;have HO250:=n5_;have BK230:=n6_;have BK231:=n7_;have BK232:=n8_;have HB:=n9_;clear n0_ n1_ n2_ n3_ n4_ n5_ n6_ n7_ n8_ n9_;(try clear hb);(try clear hb2);(try clear hk);(try clear hi);(try clear ho0);obtain ⟨Ao33,co33,eo33⟩:=Kd.R_slice HO250.out;subst eo33;obtain ⟨hcz34_0,hcz34_1,hcz34_2,hcz34_3,hcz34_4,hcz34_5,hcz34_6,hcz34_7,hfz34_0,hfz34_1,hfz34_2,hfz34_3,hfz34_4,hfz34_5,hfz34_6,hfz34_7⟩:=cf8 BK232;obtain ⟨hcz35_0,hcz35_1,hcz35_2,hcz35_3,hcz35_4,hcz35_5,hcz35_6,hcz35_7,hfz35_0,hfz35_1,hfz35_2,hfz35_3,hfz35_4,hfz35_5,hfz35_6,hfz35_7⟩:=cf8 BK231))
 refine bodyPost_ret (results_cell_row rfl _ _ gb231 31 #[.string a0_0,.int .i64 a0_1,.slice Ao16 t233.length co16,.slice Ao20 t236.length co20,.slice Ao24 t239.length co24,.slice Ao26 t242.length co26,.slice Ao29 t245.length co29,.slice Ao33 t248.length co33] (0,0) _ rfl (kp BK231) Try.underlying31 rfl (by kernel_rfl)) rfl ?_
 exact ⟨_,_,_,_,_,_,ff,by (with_reducible repeat (first|apply Kd.S_alloc|apply Kd.S_drewN|apply Kd.S_drew));exact Kd.S_mono (Kd.S_far (p:=⟨gb231,7,none⟩) (Kd.S_far (p:=⟨gb231,6,none⟩) (Kd.S_far (p:=⟨gb231,5,none⟩) (Kd.S_far (p:=⟨gb231,4,none⟩) (Kd.S_far (p:=⟨gb231,3,none⟩) (Kd.S_far (p:=⟨gb231,2,none⟩) (Kd.S_far (p:=⟨gb231,1,none⟩) (Kd.S_far (p:=⟨gb231,0,none⟩) (Kd.S_far (p:=⟨gb232,7,none⟩) (Kd.S_types (Kd.S_types HO235.out BK232.out (by decide)) BK231.out (by decide)) (fun _ hk=>hk.1.2) (.slice Ao33 t248.length co33)) (fun _ hk=>hk.2) (.string a0_0)) (fun _ hk=>hk.2) (.int .i64 a0_1)) (fun _ hk=>hk.2) (.slice Ao16 t233.length co16)) (fun _ hk=>hk.2) (.slice Ao20 t236.length co20)) (fun _ hk=>hk.2) (.slice Ao24 t239.length co24)) (fun _ hk=>hk.2) (.slice Ao26 t242.length co26)) (fun _ hk=>hk.2) (.slice Ao29 t245.length co29)) (fun _ hk=>hk.2) (.slice Ao33 t248.length co33)) (fun _ hk=>trivial),by (with_reducible repeat (first|apply Kd.R_alloc|apply Kd.R_drewN|apply Kd.R_drew));exact Kd.R_mono (Kd.R_far (p:=⟨gb231,7,none⟩) (Kd.R_far (p:=⟨gb231,6,none⟩) (Kd.R_far (p:=⟨gb231,5,none⟩) (Kd.R_far (p:=⟨gb231,4,none⟩) (Kd.R_far (p:=⟨gb231,3,none⟩) (Kd.R_far (p:=⟨gb231,2,none⟩) (Kd.R_far (p:=⟨gb231,1,none⟩) (Kd.R_far (p:=⟨gb231,0,none⟩) (Kd.R_far (p:=⟨gb232,7,none⟩) (Kd.R_types (Kd.R_types HO238.out BK232.out (by decide)) BK231.out (by decide)) (fun _ hk=>hk.1.2) (.slice Ao33 t248.length co33)) (fun _ hk=>hk.2) (.string a0_0)) (fun _ hk=>hk.2) (.int .i64 a0_1)) (fun _ hk=>hk.2) (.slice Ao16 t233.length co16)) (fun _ hk=>hk.2) (.slice Ao20 t236.length co20)) (fun _ hk=>hk.2) (.slice Ao24 t239.length co24)) (fun _ hk=>hk.2) (.slice Ao26 t242.length co26)) (fun _ hk=>hk.2) (.slice Ao29 t245.length co29)) (fun _ hk=>hk.2) (.slice Ao33 t248.length co33)) (fun _ hk=>trivial),by (with_reducible repeat (first|apply Kd.R_alloc|apply Kd.R_drewN|apply Kd.R_drew));exact Kd.R_mono (Kd.R_far (p:=⟨gb231,7,none⟩) (Kd.R_far (p:=⟨gb231,6,none⟩) (Kd.R_far (p:=⟨gb231,5,none⟩) (Kd.R_far (p:=⟨gb231,4,none⟩) (Kd.R_far (p:=⟨gb231,3,none⟩) (Kd.R_far (p:=⟨gb231,2,none⟩) (Kd.R_far (p:=⟨gb231,1,none⟩) (Kd.R_far (p:=⟨gb231,0,none⟩) (Kd.R_far (p:=⟨gb232,7,none⟩) (Kd.R_types (Kd.R_types HO241.out BK232.out (by decide)) BK231.out (by decide)) (fun _ hk=>hk.1.2) (.slice Ao33 t248.length co33)) (fun _ hk=>hk.2) (.string a0_0)) (fun _ hk=>hk.2) (.int .i64 a0_1)) (fun _ hk=>hk.2) (.slice Ao16 t233.length co16)) (fun _ hk=>hk.2) (.slice Ao20 t236.length co20)) (fun _ hk=>hk.2) (.slice Ao24 t239.length co24)) (fun _ hk=>hk.2) (.slice Ao26 t242.length co26)) (fun _ hk=>hk.2) (.slice Ao29 t245.length co29)) (fun _ hk=>hk.2) (.slice Ao33 t248.length co33)) (fun _ hk=>trivial),by (with_reducible repeat (first|apply Kd.R_alloc|apply Kd.R_drewN|apply Kd.R_drew));exact Kd.R_mono (Kd.R_far (p:=⟨gb231,7,none⟩) (Kd.R_far (p:=⟨gb231,6,none⟩) (Kd.R_far (p:=⟨gb231,5,none⟩) (Kd.R_far (p:=⟨gb231,4,none⟩) (Kd.R_far (p:=⟨gb231,3,none⟩) (Kd.R_far (p:=⟨gb231,2,none⟩) (Kd.R_far (p:=⟨gb231,1,none⟩) (Kd.R_far (p:=⟨gb231,0,none⟩) (Kd.R_far (p:=⟨gb232,7,none⟩) (Kd.R_types (Kd.R_types HO244.out BK232.out (by decide)) BK231.out (by decide)) (fun _ hk=>hk.1.2) (.slice Ao33 t248.length co33)) (fun _ hk=>hk.2) (.string a0_0)) (fun _ hk=>hk.2) (.int .i64 a0_1)) (fun _ hk=>hk.2) (.slice Ao16 t233.length co16)) (fun _ hk=>hk.2) (.slice Ao20 t236.length co20)) (fun _ hk=>hk.2) (.slice Ao24 t239.length co24)) (fun _ hk=>hk.2) (.slice Ao26 t242.length co26)) (fun _ hk=>hk.2) (.slice Ao29 t245.length co29)) (fun _ hk=>hk.2) (.slice Ao33 t248.length co33)) (fun _ hk=>trivial),by (with_reducible repeat (first|apply Kd.R_alloc|apply Kd.R_drewN|apply Kd.R_drew));exact Kd.R_mono (Kd.R_far (p:=⟨gb231,7,none⟩) (Kd.R_far (p:=⟨gb231,6,none⟩) (Kd.R_far (p:=⟨gb231,5,none⟩) (Kd.R_far (p:=⟨gb231,4,none⟩) (Kd.R_far (p:=⟨gb231,3,none⟩) (Kd.R_far (p:=⟨gb231,2,none⟩) (Kd.R_far (p:=⟨gb231,1,none⟩) (Kd.R_far (p:=⟨gb231,0,none⟩) (Kd.R_far (p:=⟨gb232,7,none⟩) (Kd.R_types (Kd.R_types HO247.out BK232.out (by decide)) BK231.out (by decide)) (fun _ hk=>hk.1.2) (.slice Ao33 t248.length co33)) (fun _ hk=>hk.2) (.string a0_0)) (fun _ hk=>hk.2) (.int .i64 a0_1)) (fun _ hk=>hk.2) (.slice Ao16 t233.length co16)) (fun _ hk=>hk.2) (.slice Ao20 t236.length co20)) (fun _ hk=>hk.2) (.slice Ao24 t239.length co24)) (fun _ hk=>hk.2) (.slice Ao26 t242.length co26)) (fun _ hk=>hk.2) (.slice Ao29 t245.length co29)) (fun _ hk=>hk.2) (.slice Ao33 t248.length co33)) (fun _ hk=>trivial),by (with_reducible repeat (first|apply Kd.R_alloc|apply Kd.R_drewN|apply Kd.R_drew));exact Kd.R_mono (Kd.R_far (p:=⟨gb231,7,none⟩) (Kd.R_far (p:=⟨gb231,6,none⟩) (Kd.R_far (p:=⟨gb231,5,none⟩) (Kd.R_far (p:=⟨gb231,4,none⟩) (Kd.R_far (p:=⟨gb231,3,none⟩) (Kd.R_far (p:=⟨gb231,2,none⟩) (Kd.R_far (p:=⟨gb231,1,none⟩) (Kd.R_far (p:=⟨gb231,0,none⟩) (Kd.R_far (p:=⟨gb232,7,none⟩) (Kd.R_types (Kd.R_types HO250.out BK232.out (by decide)) BK231.out (by decide)) (fun _ hk=>hk.1.2) (.slice Ao33 t248.length co33)) (fun _ hk=>hk.2) (.string a0_0)) (fun _ hk=>hk.2) (.int .i64 a0_1)) (fun _ hk=>hk.2) (.slice Ao16 t233.length co16)) (fun _ hk=>hk.2) (.slice Ao20 t236.length co20)) (fun _ hk=>hk.2) (.slice Ao24 t239.length co24)) (fun _ hk=>hk.2) (.slice Ao26 t242.length co26)) (fun _ hk=>hk.2) (.slice Ao29 t245.length co29)) (fun _ hk=>hk.2) (.slice Ao33 t248.length co33)) (fun _ hk=>trivial),bs HB⟩
end Go.Proofs.Ytjjfjgdhloideaa.QI
namespace Go.Proofs.Ytjjfjgdhloideaa.QI
open Go.RowKit Go.Proofs.YtjjfjgdhloideaaW.PrintWords Go.Proofs.YtjjfjgdhloideaaW.PrintLast Go.Proofs.YtjjfjgdhloideaaW.PrintMore
attribute [local go_sem] max2_int min2_int max_two min_two max_three min_three max_four min_four   -- for this text's walks alone
set_option linter.unusedVariables false
set_option linter.unusedSimpArgs false
set_option maxHeartbeats 8000000 in
set_option maxRecDepth 100000 in
theorem spec_l01Name.calls (k:Nat) (a0:ByteArray) (r:Bool) (w:World) (h:spec_l01Name.f k a0=some r) :
  Calls Try.prog 24 #[.string a0] w fun e w'=>e=.returned (.bool r)∧Drawn0 w w':=by
 have H:(if (a0.size:Int)<1 then (spec_l01Name.j0 k a0 true) else (if (a0.size:Int)>12 then (spec_l01Name.j0 k a0 true) else (if 0<(a0.size:Int) then (if (bt a0 0)<65 then (spec_l01Name.j0 k a0 true) else (spec_l01Name.j0 k a0 (decide ((bt a0 0)>90)))) else (none))))=some r:=h;clear h;have HC2:=am H;clear H
 go_enter Try.func24,Try.ntmps24
 go_upto_region 1 with (fail)
 go_cut [22] (fun v22 wc=>∃ (kq:Nat) (x22_1:Bool),v22=.bool x22_1∧Aside0 (spec_l01Name.j0 kq a0 x22_1=some r)∧Aside0 (kq≤k)∧Drawn0 w wc)
 case first =>
  have H:=HC2.out;clear HC2
  by_cases c3:(a0.size:Int)<1
  ·rw [if_pos c3] at H;have c3b0:decide ((a0.size:Int)<1)=true:=decide_eq_true c3;have c3b1:decide (a0.size<1)=true:=decide_eq_true (by omega);clear c3
   (first|rw [c3b0]|(simp only [i64_w,i32_w];rw [c3b0])|skip)
   have H':=am H;clear H
   go_wp2
   go_meet
   case rel=>exact ⟨_,(true),fg,H',⟨fl⟩,by repeat (first|exact Drawn0.refl _|apply Drawn0.step)⟩
  ·rw [if_neg c3] at H;have c3b0:decide ((a0.size:Int)<1)=false:=decide_eq_false c3;have c3b1:decide (a0.size<1)=false:=decide_eq_false (by omega);clear c3
   (first|rw [c3b0]|(simp only [i64_w,i32_w];rw [c3b0])|skip)
   by_cases c4:(a0.size:Int)>12
   ·rw [if_pos c4] at H;have c4b0:decide (12<(a0.size:Int))=true:=decide_eq_true c4;have c4b1:decide (12<a0.size)=true:=decide_eq_true (by omega);clear c4;have H':=am H;clear H
    go_wp2
    go_meet
    case rel=>exact ⟨_,(true),fg,H',⟨fl⟩,by repeat (first|exact Drawn0.refl _|apply Drawn0.step)⟩
   ·rw [if_neg c4] at H;have c4b0:decide (12<(a0.size:Int))=false:=decide_eq_false c4;have c4b1:decide (12<a0.size)=false:=decide_eq_false (by omega);clear c4
    by_cases c5:0<(a0.size:Int)
    ·rw [if_pos c5] at H;have c5b0:decide (0<(a0.size:Int))=true:=decide_eq_true c5;have c5b1:decide (0<a0.size)=true:=decide_eq_true (by omega);clear c5
     by_cases c7:(bt a0 0)<65
     ·rw [if_pos c7] at H;have c7b0:decide ((bt a0 0)<65)=true:=decide_eq_true c7;clear c7;have H':=am H;clear H;have p6:0≤(0:Int):=(by omega);have q6:0<a0.size:=(by have:(0:Int)<(a0.size:Int):=oa;omega);have hx6:∀ h:0<a0.size,((a0[0]'h).toNat:Int)=bt a0 0:=bt_at a0 0;clear p6;have qi6:(0<(a0.size:Int))=True:=eq_true (oa);replace q6:=eq_true q6
      go_wp2
      go_meet
      case rel=>exact ⟨_,(true),fg,H',⟨fl⟩,by repeat (first|exact Drawn0.refl _|apply Drawn0.step)⟩
     ·rw [if_neg c7] at H;have c7b0:decide ((bt a0 0)<65)=false:=decide_eq_false c7;clear c7;have H':=am H;clear H;have p6:0≤(0:Int):=(by omega);have q6:0<a0.size:=(by have:(0:Int)<(a0.size:Int):=oa;omega);have hx6:∀ h:0<a0.size,((a0[0]'h).toNat:Int)=bt a0 0:=bt_at a0 0;clear p6;have qi6:(0<(a0.size:Int))=True:=eq_true (oa);replace q6:=eq_true q6;have p8:0≤(0:Int):=(by omega);have q8:0<a0.size:=(by have:(0:Int)<(a0.size:Int):=oa;omega);have hx8:∀ h:0<a0.size,((a0[0]'h).toNat:Int)=bt a0 0:=bt_at a0 0;clear p8;have qi8:(0<(a0.size:Int))=True:=eq_true (oa);replace q8:=eq_true q8
      go_wp2
      go_meet
      case rel=>exact ⟨_,(decide ((bt a0 0)>90)),fg,H',⟨fl⟩,by repeat (first|exact Drawn0.refl _|apply Drawn0.step)⟩
    ·rw [if_neg c5] at H
     exact absurd H (by simp)
 case rest =>
  clear HC2
  try clear c2
  try clear p2
  try clear c3
  try clear c3b0
  try clear c3b1
  try clear c4
  try clear c4b0
  try clear c4b1
  try clear c5
  try clear c5b0
  try clear c5b1
  try clear p6
  try clear q6
  try clear hx6
  try clear qi6
  try clear c7
  try clear c7b0
  try clear p8
  try clear q8
  try clear hx8
  try clear qi8
  try clear p6
  try clear p8
  try clear q6
  try clear q8
  obtain ⟨kq,x22_1,rfl,HA,HJ1,⟨mc1,rfl⟩⟩:=hcut
  cases kq with
  | zero=>exact absurd HA.out (by simp [spec_l01Name.j0])
  | succ kj1 =>
   have H:=HA.out;clear HA;simp only [spec_l01Name.j0] at H
   by_cases c9:x22_1=true
   ·subst c9
    have H1:(some false)=some r:=by rw [if_pos rfl] at H;exact H
    clear H;have H:=H1;clear H1;obtain rfl:=Option.some.inj H
    go_wp2
    go_ret
    exact ⟨fg,by repeat (first|exact Drawn0.refl _|apply Drawn0.step)⟩
   ·replace c9:=Bool.eq_false_iff.mpr c9;subst c9
    have H1:(spec_l01Name.l0 kj1 a0 0)=some r:=by rw [if_neg (show ¬ (false=true) by decide)] at H;exact H
    clear H;have H:=H1;clear H1;have H':=am H;clear H
    go_wp2
    go_loopg [3] kj1 (fun kq v3 w'=>∃ (x3_2:Int),v3=.int .i64 x3_2∧Aside0 (spec_l01Name.l0 kq a0 x3_2=some r)∧Aside0 (kq≤kj1)∧Drawn0 w w')
    case atStart=>exact ⟨(0),fg,H',⟨Nat.le_refl _⟩,by repeat (first|exact Drawn0.refl _|apply Drawn0.step)⟩
    case round =>
     clear H'
     try clear c1
     try clear c2
     try clear p2
     try clear c3
     try clear c3b0
     try clear c3b1
     try clear c4
     try clear c4b0
     try clear c4b1
     try clear c5
     try clear c5b0
     try clear c5b1
     try clear p6
     try clear q6
     try clear hx6
     try clear qi6
     try clear c7
     try clear c7b0
     try clear p8
     try clear q8
     try clear hx8
     try clear qi8
     try clear c9
     try clear p2
     try clear p6
     try clear p8
     try clear q6
     try clear q8
     obtain ⟨x3_2,rfl,HA,HK2,⟨m2,rfl⟩⟩:=hrel
     cases gk with
     | zero=>exact absurd HA.out (by simp [spec_l01Name.l0])
     | succ k2 =>
      have H:=HA.out;clear HA;simp only [spec_l01Name.l0] at H
      by_cases c10:x3_2<(a0.size:Int)
      ·rw [if_pos c10] at H;have c10b0:decide (x3_2<(a0.size:Int))=true:=decide_eq_true c10;clear c10
       by_cases c11:0≤x3_2
       ·rw [if_pos c11] at H;have c11b0:decide (0≤x3_2)=true:=decide_eq_true c11;clear c11
        by_cases c13:(bt a0 x3_2)≥65
        ·rw [if_pos c13] at H;have c13b0:decide (65≤(bt a0 x3_2))=true:=decide_eq_true c13;clear c13
         by_cases c14:(bt a0 x3_2)≤90
         ·rw [if_pos c14] at H;have c14b0:decide ((bt a0 x3_2)≤90)=true:=decide_eq_true c14;clear c14;have H':=am H;clear H;have p12:0≤(x3_2:Int):=oa;have q12:x3_2<(a0.size:Int):=oa;have hx12:=bt_at a0 x3_2;replace p12:=eq_true p12;replace q12:=eq_true q12
          go_wp2
          go_roundg k2
          case measure=>have:=HJ1.out;have:=HK2.out;omega
          case rel=>exact ⟨(wrap64 (x3_2+1)),fg,H',⟨by have:=HJ1.out;have:=HK2.out;omega⟩,by repeat (first|exact Drawn0.refl _|apply Drawn0.step)⟩
         ·rw [if_neg c14] at H;have c14b0:decide ((bt a0 x3_2)≤90)=false:=decide_eq_false c14;clear c14
          by_cases c15:(bt a0 x3_2)≥48
          ·rw [if_pos c15] at H;have c15b0:decide (48≤(bt a0 x3_2))=true:=decide_eq_true c15;clear c15
           by_cases c16:(bt a0 x3_2)≤57
           ·rw [if_pos c16] at H;have c16b0:decide ((bt a0 x3_2)≤57)=true:=decide_eq_true c16;clear c16;have H':=am H;clear H;have p12:0≤(x3_2:Int):=oa;have q12:x3_2<(a0.size:Int):=oa;have hx12:=bt_at a0 x3_2;replace p12:=eq_true p12;replace q12:=eq_true q12
            go_wp2
            go_roundg k2
            case measure=>have:=HJ1.out;have:=HK2.out;omega
            case rel=>exact ⟨(wrap64 (x3_2+1)),fg,H',⟨by have:=HJ1.out;have:=HK2.out;omega⟩,by repeat (first|exact Drawn0.refl _|apply Drawn0.step)⟩
           ·rw [if_neg c16] at H;have c16b0:decide ((bt a0 x3_2)≤57)=false:=decide_eq_false c16;clear c16
            by_cases c17:((bt a0 x3_2)=45)
            ·rw [if_pos c17] at H;have c17b0:((bt a0 x3_2) == 45)=true:=beq_iff_eq.mpr c17;have c17b1:((bt a0 x3_2) != 45)=false:=bne_eq_false_iff_eq.mpr c17;clear c17;have H':=am H;clear H;have p12:0≤(x3_2:Int):=oa;have q12:x3_2<(a0.size:Int):=oa;have hx12:=bt_at a0 x3_2;replace p12:=eq_true p12;replace q12:=eq_true q12
             go_wp2
             go_roundg k2
             case measure=>have:=HJ1.out;have:=HK2.out;omega
             case rel=>exact ⟨(wrap64 (x3_2+1)),fg,H',⟨by have:=HJ1.out;have:=HK2.out;omega⟩,by repeat (first|exact Drawn0.refl _|apply Drawn0.step)⟩
            ·rw [if_neg c17] at H;have c17b0:((bt a0 x3_2) == 45)=false:=beq_eq_false_iff_ne.mpr c17;have c17b1:((bt a0 x3_2) != 45)=true:=bne_iff_ne.mpr c17;obtain rfl:=Option.some.inj H;have p12:0≤(x3_2:Int):=oa;have q12:x3_2<(a0.size:Int):=oa;have hx12:=bt_at a0 x3_2;replace p12:=eq_true p12;replace q12:=eq_true q12
             go_wp2
             go_ret
             exact ⟨fg,by repeat (first|exact Drawn0.refl _|apply Drawn0.step)⟩
          ·rw [if_neg c15] at H;have c15b0:decide (48≤(bt a0 x3_2))=false:=decide_eq_false c15;clear c15
           by_cases c18:((bt a0 x3_2)=45)
           ·rw [if_pos c18] at H;have c18b0:((bt a0 x3_2) == 45)=true:=beq_iff_eq.mpr c18;have c18b1:((bt a0 x3_2) != 45)=false:=bne_eq_false_iff_eq.mpr c18;clear c18;have H':=am H;clear H;have p12:0≤(x3_2:Int):=oa;have q12:x3_2<(a0.size:Int):=oa;have hx12:=bt_at a0 x3_2;replace p12:=eq_true p12;replace q12:=eq_true q12
            go_wp2
            go_roundg k2
            case measure=>have:=HJ1.out;have:=HK2.out;omega
            case rel=>exact ⟨(wrap64 (x3_2+1)),fg,H',⟨by have:=HJ1.out;have:=HK2.out;omega⟩,by repeat (first|exact Drawn0.refl _|apply Drawn0.step)⟩
           ·rw [if_neg c18] at H;have c18b0:((bt a0 x3_2) == 45)=false:=beq_eq_false_iff_ne.mpr c18;have c18b1:((bt a0 x3_2) != 45)=true:=bne_iff_ne.mpr c18;obtain rfl:=Option.some.inj H;have p12:0≤(x3_2:Int):=oa;have q12:x3_2<(a0.size:Int):=oa;have hx12:=bt_at a0 x3_2;replace p12:=eq_true p12;replace q12:=eq_true q12
            go_wp2
            go_ret
            exact ⟨fg,by repeat (first|exact Drawn0.refl _|apply Drawn0.step)⟩
        ·rw [if_neg c13] at H;have c13b0:decide (65≤(bt a0 x3_2))=false:=decide_eq_false c13;clear c13
         by_cases c19:(bt a0 x3_2)≥48
         ·rw [if_pos c19] at H;have c19b0:decide (48≤(bt a0 x3_2))=true:=decide_eq_true c19;clear c19
          by_cases c20:(bt a0 x3_2)≤57
          ·rw [if_pos c20] at H;have c20b0:decide ((bt a0 x3_2)≤57)=true:=decide_eq_true c20;clear c20;have H':=am H;clear H;have p12:0≤(x3_2:Int):=oa;have q12:x3_2<(a0.size:Int):=oa;have hx12:=bt_at a0 x3_2;replace p12:=eq_true p12;replace q12:=eq_true q12
           go_wp2
           go_roundg k2
           case measure=>have:=HJ1.out;have:=HK2.out;omega
           case rel=>exact ⟨(wrap64 (x3_2+1)),fg,H',⟨by have:=HJ1.out;have:=HK2.out;omega⟩,by repeat (first|exact Drawn0.refl _|apply Drawn0.step)⟩
          ·rw [if_neg c20] at H;have c20b0:decide ((bt a0 x3_2)≤57)=false:=decide_eq_false c20;clear c20
           by_cases c21:((bt a0 x3_2)=45)
           ·rw [if_pos c21] at H;have c21b0:((bt a0 x3_2) == 45)=true:=beq_iff_eq.mpr c21;have c21b1:((bt a0 x3_2) != 45)=false:=bne_eq_false_iff_eq.mpr c21;clear c21;have H':=am H;clear H;have p12:0≤(x3_2:Int):=oa;have q12:x3_2<(a0.size:Int):=oa;have hx12:=bt_at a0 x3_2;replace p12:=eq_true p12;replace q12:=eq_true q12
            go_wp2
            go_roundg k2
            case measure=>have:=HJ1.out;have:=HK2.out;omega
            case rel=>exact ⟨(wrap64 (x3_2+1)),fg,H',⟨by have:=HJ1.out;have:=HK2.out;omega⟩,by repeat (first|exact Drawn0.refl _|apply Drawn0.step)⟩
           ·rw [if_neg c21] at H;have c21b0:((bt a0 x3_2) == 45)=false:=beq_eq_false_iff_ne.mpr c21;have c21b1:((bt a0 x3_2) != 45)=true:=bne_iff_ne.mpr c21;obtain rfl:=Option.some.inj H;have p12:0≤(x3_2:Int):=oa;have q12:x3_2<(a0.size:Int):=oa;have hx12:=bt_at a0 x3_2;replace p12:=eq_true p12;replace q12:=eq_true q12
            go_wp2
            go_ret
            exact ⟨fg,by repeat (first|exact Drawn0.refl _|apply Drawn0.step)⟩
         ·rw [if_neg c19] at H;have c19b0:decide (48≤(bt a0 x3_2))=false:=decide_eq_false c19;clear c19
          by_cases c22:((bt a0 x3_2)=45)
          ·rw [if_pos c22] at H;have c22b0:((bt a0 x3_2) == 45)=true:=beq_iff_eq.mpr c22;have c22b1:((bt a0 x3_2) != 45)=false:=bne_eq_false_iff_eq.mpr c22;clear c22;have H':=am H;clear H;have p12:0≤(x3_2:Int):=oa;have q12:x3_2<(a0.size:Int):=oa;have hx12:=bt_at a0 x3_2;replace p12:=eq_true p12;replace q12:=eq_true q12
           go_wp2
           go_roundg k2
           case measure=>have:=HJ1.out;have:=HK2.out;omega
           case rel=>exact ⟨(wrap64 (x3_2+1)),fg,H',⟨by have:=HJ1.out;have:=HK2.out;omega⟩,by repeat (first|exact Drawn0.refl _|apply Drawn0.step)⟩
          ·rw [if_neg c22] at H;have c22b0:((bt a0 x3_2) == 45)=false:=beq_eq_false_iff_ne.mpr c22;have c22b1:((bt a0 x3_2) != 45)=true:=bne_iff_ne.mpr c22;obtain rfl:=Option.some.inj H;have p12:0≤(x3_2:Int):=oa;have q12:x3_2<(a0.size:Int):=oa;have hx12:=bt_at a0 x3_2;replace p12:=eq_true p12;replace q12:=eq_true q12
           go_wp2
           go_ret
           exact ⟨fg,by repeat (first|exact Drawn0.refl _|apply Drawn0.step)⟩
       ·rw [if_neg c11] at H
        exact absurd H (by simp)
      ·rw [if_neg c10] at H;have c10b0:decide (x3_2<(a0.size:Int))=false:=decide_eq_false c10;clear c10;obtain rfl:=Option.some.inj H
       go_wp2
       go_ret
       exact ⟨fg,by repeat (first|exact Drawn0.refl _|apply Drawn0.step)⟩
end Go.Proofs.Ytjjfjgdhloideaa.QI
namespace Go.Proofs.Ytjjfjgdhloideaa.QI
open Go.RowKit Go.Proofs.YtjjfjgdhloideaaW.PrintWords Go.Proofs.YtjjfjgdhloideaaW.PrintLast Go.Proofs.YtjjfjgdhloideaaW.PrintMore
attribute [local go_sem] max2_int min2_int max_two min_two max_three min_three max_four min_four   -- for this text's walks alone
set_option linter.unusedVariables false
set_option linter.unusedSimpArgs false
set_option maxHeartbeats 8000000 in
set_option maxRecDepth 100000 in
theorem spec_l01Day.calls (a0:Int) (r:Bool) (w:World) (h:spec_l01Day.f a0=some r) :
  Calls Try.prog 55 #[.int .i64 a0] w fun e w'=>e=.returned (.bool r)∧Drawn0 w w':=by
 have H:(if a0≥0 then (some (decide (a0≤100000))) else (some false))=some r:=h;clear h
 by_cases c2:a0≥0
 ·rw [if_pos c2] at H;have c2b0:decide (0≤a0)=true:=decide_eq_true c2;clear c2;obtain rfl:=Option.some.inj H
  go_enter Try.func55,Try.ntmps55
  go_wp2
  go_ret
  exact ⟨fg,by repeat (first|exact Drawn0.refl _|apply Drawn0.step)⟩
 ·rw [if_neg c2] at H;have c2b0:decide (0≤a0)=false:=decide_eq_false c2;clear c2;obtain rfl:=Option.some.inj H
  go_enter Try.func55,Try.ntmps55
  go_wp2
  go_ret
  exact ⟨fg,by repeat (first|exact Drawn0.refl _|apply Drawn0.step)⟩
set_option maxHeartbeats 8000000 in
set_option maxRecDepth 100000 in
theorem spec_l08Before.calls (a0_0:ByteArray) (a0_1:ByteArray) (a0_2:ByteArray) (a1_0:ByteArray) (a1_1:ByteArray) (a1_2:ByteArray) (r:Bool) (w:World) (h:spec_l08Before.f a0_0 a0_1 a0_2 a1_0 a1_1 a1_2=some r) :
  Calls Try.prog 92 #[.agg #[.string a0_0,.string a0_1,.string a0_2],.agg #[.string a1_0,.string a1_1,.string a1_2]] w fun e w'=>e=.returned (.bool r)∧Below w.heap.size w w':=by
 have hu102:=Try.underlying102;have HB:=am (Below.refl w.heap.size w);have H:(if (Op.bytesLess a0_0.toList a1_0.toList)=true then (some true) else (if a0_0.toList=a1_0.toList then (some (Op.bytesLess a0_1.toList a1_1.toList)) else (some false)))=some r:=h;clear h
 by_cases c3:(Op.bytesLess a0_0.toList a1_0.toList)=true
 ·rw [if_pos c3] at H;have c3b0:(Op.bytesLess a0_0.toList a1_0.toList)=true:=c3;clear c3;obtain rfl:=Option.some.inj H
  go_enter Try.func92,Try.ntmps92
  go_wp2_with (first|((with_reducible refine gate_dst (N:=2) rfl ?_);refine bx 2 (cs:=#[.string a0_0,.string a0_1,.string a0_2]) (t:=102) ?_;intro gb251 hg w4 hbox hb;have BK251:=am (hbox);have GW251:=am ((gs hg (bs HB)));have GE251:=am ((gs hg (bs HB)));replace HB:=am (below_step (bs HB) hb);clear hb hbox hg)|((with_reducible refine gate_dst (N:=3) rfl ?_);refine bx 3 (cs:=#[.string a1_0,.string a1_1,.string a1_2]) (t:=102) ?_;intro gb252 hg w5 hbox hb;have BK252:=am (hbox);have GW252:=am ((gs hg (bs HB)));have GE252:=am ((gs hg (bs HB)));replace HB:=am (below_step (bs HB) hb);have NB251_252:=am ((gn hg (ks BK251)));have NB252_251:=am ((gm hg (ks BK251)));replace BK251:=am (blk_below (ks BK251) hb);clear hb hbox hg;have hnb6:=NB251_252.out;have hnc6:=NB252_251.out;obtain ⟨hcz7_0,hcz7_1,hcz7_2,hfz7_0,hfz7_1,hfz7_2⟩:=cf3 BK251;obtain ⟨hcz8_0,hcz8_1,hcz8_2,hfz8_0,hfz8_1,hfz8_2⟩:=cf3 BK252))
  go_ret
  exact ⟨ff,bs HB⟩
 ·rw [if_neg c3] at H
  have c3b0:(Op.bytesLess a0_0.toList a1_0.toList)=false:=by simpa using c3
  clear c3
  by_cases c9:a0_0.toList=a1_0.toList
  ·rw [if_pos c9] at H;have c9b0:(a0_0.toList == a1_0.toList)=true:=beq_iff_eq.mpr c9;have c9b1:(a0_0.toList != a1_0.toList)=false:=bne_eq_false_iff_eq.mpr c9;clear c9;obtain rfl:=Option.some.inj H
   go_enter Try.func92,Try.ntmps92
   go_wp2_with (first|((with_reducible refine gate_dst (N:=2) rfl ?_);refine bx 2 (cs:=#[.string a0_0,.string a0_1,.string a0_2]) (t:=102) ?_;intro gb251 hg w10 hbox hb;have BK251:=am (hbox);have GW251:=am ((gs hg (bs HB)));have GE251:=am ((gs hg (bs HB)));replace HB:=am (below_step (bs HB) hb);clear hb hbox hg)|((with_reducible refine gate_dst (N:=3) rfl ?_);refine bx 3 (cs:=#[.string a1_0,.string a1_1,.string a1_2]) (t:=102) ?_;intro gb252 hg w11 hbox hb;have BK252:=am (hbox);have GW252:=am ((gs hg (bs HB)));have GE252:=am ((gs hg (bs HB)));replace HB:=am (below_step (bs HB) hb);have NB251_252:=am ((gn hg (ks BK251)));have NB252_251:=am ((gm hg (ks BK251)));replace BK251:=am (blk_below (ks BK251) hb);clear hb hbox hg;have hnb12:=NB251_252.out;have hnc12:=NB252_251.out;obtain ⟨hcz13_0,hcz13_1,hcz13_2,hfz13_0,hfz13_1,hfz13_2⟩:=cf3 BK251;obtain ⟨hcz14_0,hcz14_1,hcz14_2,hfz14_0,hfz14_1,hfz14_2⟩:=cf3 BK252))
   go_ret
   exact ⟨ff,bs HB⟩
  ·rw [if_neg c9] at H;have c9b0:(a0_0.toList == a1_0.toList)=false:=beq_eq_false_iff_ne.mpr c9;have c9b1:(a0_0.toList != a1_0.toList)=true:=bne_iff_ne.mpr c9;obtain rfl:=Option.some.inj H
   go_enter Try.func92,Try.ntmps92
   go_wp2_with (first|((with_reducible refine gate_dst (N:=2) rfl ?_);refine bx 2 (cs:=#[.string a0_0,.string a0_1,.string a0_2]) (t:=102) ?_;intro gb251 hg w15 hbox hb;have BK251:=am (hbox);have GW251:=am ((gs hg (bs HB)));have GE251:=am ((gs hg (bs HB)));replace HB:=am (below_step (bs HB) hb);clear hb hbox hg)|((with_reducible refine gate_dst (N:=3) rfl ?_);refine bx 3 (cs:=#[.string a1_0,.string a1_1,.string a1_2]) (t:=102) ?_;intro gb252 hg w16 hbox hb;have BK252:=am (hbox);have GW252:=am ((gs hg (bs HB)));have GE252:=am ((gs hg (bs HB)));replace HB:=am (below_step (bs HB) hb);have NB251_252:=am ((gn hg (ks BK251)));have NB252_251:=am ((gm hg (ks BK251)));replace BK251:=am (blk_below (ks BK251) hb);clear hb hbox hg;have hnb17:=NB251_252.out;have hnc17:=NB252_251.out;obtain ⟨hcz18_0,hcz18_1,hcz18_2,hfz18_0,hfz18_1,hfz18_2⟩:=cf3 BK251;obtain ⟨hcz19_0,hcz19_1,hcz19_2,hfz19_0,hfz19_1,hfz19_2⟩:=cf3 BK252))
   go_ret
   exact ⟨ff,bs HB⟩
end Go.Proofs.Ytjjfjgdhloideaa.QI
