-- Merged by a program of this session (wip/tool/pack.py) out of its own texts for this claim.
import Derived.Test.YtjbdljhjplidmaaDoorKFnTables0
import Derived.Test.YtjbdljhjplidmaaDoorKFnTables1
import Derived.Test.YtjbdljhjplidmaaDoorKFnTables2
import Derived.Test.YtjbdljhjplidmaaDoorKFnTables3
import Derived.Test.YtjbdljhjplidmaaDoorKFnTables4
import Derived.Test.YtjbdljhjplidmaaDoorKFnTables8
import Derived.Test.YtjbdljhjplidmaaDoorKFnTables9
import Derived.Test.YtjbdljhjplidmaaDoorKFnTables11
import Derived.Test.YtjbdljhjplidmaaDoorKFnTables14
import Derived.Test.YtjbdljhjplidmaaDoorKFnTables16
namespace Go.Proofs.YtjbdljhjplidmaaDoor.QF
open Go.RowKit Go.Proofs.YtjbdljhjplidmaaDoorW.PrintWords Go.Proofs.YtjbdljhjplidmaaDoorW.PrintLast Go.Proofs.YtjbdljhjplidmaaDoorW.PrintMore
attribute [local go_sem] max2_int min2_int max_two min_two max_three min_three max_four min_four   -- for this text's walks alone
set_option linter.unusedVariables false
set_option linter.unusedSimpArgs false
attribute [local go_sem high] eqA43
def laws_FnTables.T20 : Bool × List (List Nat × List Nat) := (true, [([], []), ([0], [0]), ([1], [1]), ([1], [1]), ([2, 3, 1], [1, 2, 3]), ([4, 1], [1, 4]), ([5, 1], [1, 5]), ([1], [1]), ([1], [1]), ([7, 8, 1], [1, 7, 8]), ([9, 1], [1, 9]), ([10, 1], [1, 10]), ([6, 11, 1], [1, 6, 11]), ([12, 1, 1], [1, 12]), ([13], [13]), ([13], [13]), ([14, 15, 13], [13, 14, 15]), ([16, 13], [13, 16]), ([17, 13], [13, 17]), ([13], [13]), ([13], [13]), ([19, 20, 13], [13, 19, 20]), ([21, 13], [13, 21]), ([18, 22, 13, 13], [13, 18, 22]), ([23, 13], [13, 23]), ([13, 24, 1], [1, 13, 24]), ([25, 23, 1], [1, 25]), ([26], [26]), ([26], [26]), ([27, 28, 26, 26], [26, 27, 28]), ([26], [26]), ([26], [26]), ([30, 31, 26], [26, 30, 31]), ([32, 26], [26, 32]), ([33, 26], [26, 33]), ([29, 34, 26], [26, 29, 34]), ([26, 35, 1], [1, 26, 35]), ([1, 36], [1, 36]), ([37, 29, 0, 1, 2, 3, 4, 5, 6, 7, 8, 9, 10, 11, 12, 13, 14, 15, 16, 17, 18, 19, 20, 21, 22, 23, 24, 25, 26, 27, 28, 29, 30, 31, 32, 33, 34, 35, 36, 37], [0, 37])])
def laws_FnTables.B20 : List Nat := [0, 1, 3, 3, 15, 31, 63, 3, 3, 387, 899, 1923, 4095, 8191, 16383, 16383, 65535, 131071, 262143, 16383, 16383, 1589247, 3686399, 8388607, 16777215, 33554431, 67108863, 134217727, 134217727, 536870911, 134217727, 134217727, 3355443199, 7650410495, 16240345087, 34359738367, 68719476735, 137438953471, 274877906943]
theorem laws_FnTables.tab20 : rtab .any (opsOf Tryd.f6 20) = laws_FnTables.T20 := by kernel_rfl
theorem laws_FnTables.bits20 : waitsOk laws_FnTables.T20.2 laws_FnTables.B20 = true := by kernel_rfl
set_option maxHeartbeats 8000000 in
set_option maxRecDepth 100000 in
theorem laws_FnTables.calls (k:Nat) (A0:Option Addr) (c0:Nat) (l0:List Int) (r:Bool) (w:World) (hr0:Kd.C (Kd.int .u8) w A0 l0.length l0) (hc0:l0.length≤c0) (hTC:TbC w) (hTP:TbP w) (h:laws_FnTables.f k l0=some r) :
  Calls Tryd.prog 6 #[.slice A0 l0.length c0] w fun e w'=>e=.returned (.bool r)∧Below w.heap.size w w':=by
 have HTC:=am hTC;clear hTC;have HTP:=am hTP;clear hTP
 have hu43:=Tryd.underlying43;have hu36:=Tryd.underlying36;have HR0:=am hr0;have HC0:=am hc0;clear hr0 hc0;have HB:=am (Below.refl w.heap.size w);have H:(if (l0.length:Int)>1048576 then (some true) else ((spec_DrawTableCheck.f k l0).bind fun bt718=>((spec_TableCheck.f k bt718.1 bt718.2).bind fun bt722=>((some (([]:List (S36)):List (S36))).bind fun y726=>(if y726.length+bt718.2.length<3518437208883 then ((impl_TableCheck.f k bt718.1 (y726++bt718.2)).bind fun bt732=>(if (!(bt732.1 == bt722.1) || (!(bt732.2.1 == bt722.2.1) || (!(bt732.2.2 == bt722.2.2))))=true then (some false) else (if bt722.2.2=0 then ((impl_TableOf.f k bt718.1).bind fun t736=>(if (t736.length:Int)=0 then (laws_FnTables.j0 k bt718.1 bt718.2 t736 true) else ((impl_KindName.f bt718.1).bind fun t739=>(laws_FnTables.j0 k bt718.1 bt718.2 t736 (t739.toList == ([]:List UInt8)))))) else (some true)))) else (none))))))=some r:=h;clear h
 by_cases c2:(l0.length:Int)>1048576
 ·rw [if_pos c2] at H;have c2b0:decide (1048576<(l0.length:Int))=true:=decide_eq_true c2;have c2b1:decide (1048576<l0.length)=true:=decide_eq_true (by omega);clear c2;obtain rfl:=Option.some.inj H
  go_enter Tryd.func6,Tryd.ntmps6
  go_wp2
  go_ret
  exact ⟨ff,bs HB⟩
 ·rw [if_neg c2] at H;have c2b0:decide (1048576<(l0.length:Int))=false:=decide_eq_false c2;have c2b1:decide (1048576<l0.length)=false:=decide_eq_false (by omega);clear c2;replace H:=Option.bind_eq_some_iff.mp H;obtain ⟨⟨t718,t719⟩,A30,H⟩:=H;replace H:((spec_TableCheck.f k t718 t719).bind fun bt722=>((some (([]:List (S36)):List (S36))).bind fun y726=>(if y726.length+t719.length<3518437208883 then ((impl_TableCheck.f k t718 (y726++t719)).bind fun bt732=>(if (!(bt732.1 == bt722.1) || (!(bt732.2.1 == bt722.2.1) || (!(bt732.2.2 == bt722.2.2))))=true then (some false) else (if bt722.2.2=0 then ((impl_TableOf.f k t718).bind fun t736=>(if (t736.length:Int)=0 then (laws_FnTables.j0 k t718 t719 t736 true) else ((impl_KindName.f t718).bind fun t739=>(laws_FnTables.j0 k t718 t719 t736 (t739.toList == ([]:List UInt8)))))) else (some true)))) else (none))))=some r:=H;have A3:=am A30;clear A30
  go_enter Tryd.func6,Tryd.ntmps6
  try go_wp2_with (fail)
  go_at_call 22;(with_reducible refine (spec_DrawTableCheck.calls k _ _ l0 t718 t719 _ ?side1 HC0.out A3.out).mono ?_);(case side1=>repeat (first|exact HR0.out|(with_reducible refine Kd.C_alloc ?_ _)|(with_reducible refine Kd.C_drewN ?_ _)|(with_reducible refine Kd.C_drew ?_)));rintro e w4 ⟨v720,rfl,ho0,hb⟩;have HO721:=am (Kd.N_lower (Kd.N_mono (ok':=fun k_=>True) ho0 (fun k_ hk_=>trivial)) (below_size (bs HB)));replace HB:=am (below_step (bs HB) hb);(try clear hb);(try clear hb2);(try clear hk);(try clear hi);(try clear ho0);replace H:=Option.bind_eq_some_iff.mp H;obtain ⟨⟨t722,t723,t724⟩,A50,H⟩:=H;replace H:((some (([]:List (S36)):List (S36))).bind fun y726=>(if y726.length+t719.length<3518437208883 then ((impl_TableCheck.f k t718 (y726++t719)).bind fun bt732=>(if (!(bt732.1 == t722) || (!(bt732.2.1 == t723) || (!(bt732.2.2 == t724))))=true then (some false) else (if t724=0 then ((impl_TableOf.f k t718).bind fun t736=>(if (t736.length:Int)=0 then (laws_FnTables.j0 k t718 t719 t736 true) else ((impl_KindName.f t718).bind fun t739=>(laws_FnTables.j0 k t718 t719 t736 (t739.toList == ([]:List UInt8)))))) else (some true)))) else (none)))=some r:=H;have A5:=am A50;clear A50;obtain ⟨Ao6,co6,eo6⟩:=Kd.N_slice HO721.out;subst eo6
  try go_wp2_with (fail)
  go_at_call 17;(with_reducible refine (spec_TableCheck.calls k t718 _ _ t719 t722 t723 t724 _ ?side1 ?side2 A5.out).mono ?_);(case side1=>repeat (first|exact (Kd.N_reads' HO721.out).2.2|(with_reducible refine Kd.C_alloc ?_ _)|(with_reducible refine Kd.C_drewN ?_ _)|(with_reducible refine Kd.C_drew ?_)));(case side2=>exact (Kd.N_reads' HO721.out).2.1);rintro e w7 ⟨rfl,hb⟩;have n0_:=am (Kd.N_below (by (with_reducible repeat (first|apply Kd.N_alloc|apply Kd.N_drewN|apply Kd.N_drew));exact HO721.out) hb);have n1_:=am (below_step (bs HB) hb);clear HO721;clear HB;have HO721:=n0_;have HB:=n1_;clear n0_ n1_;(try clear hb);(try clear hb2);(try clear hk);(try clear hi);obtain ⟨y726,hy726⟩:∃ y_:List (S36),y_=(([]:List (S36))):=⟨_,rfl⟩
  replace H:(if y726.length+t719.length<3518437208883 then ((impl_TableCheck.f k t718 (y726++t719)).bind fun bt732=>(if (!(bt732.1 == t722) || (!(bt732.2.1 == t723) || (!(bt732.2.2 == t724))))=true then (some false) else (if t724=0 then ((impl_TableOf.f k t718).bind fun t736=>(if (t736.length:Int)=0 then (laws_FnTables.j0 k t718 t719 t736 true) else ((impl_KindName.f t718).bind fun t739=>(laws_FnTables.j0 k t718 t719 t736 (t739.toList == ([]:List UInt8)))))) else (some true)))) else (none))=some r:=by first|(rw [hy726];with_reducible exact H)|(have H2_:=(Option.bind_some _ _).symm.trans H;rw [hy726];with_reducible exact H2_)|(have H2_:=(Option.bind_some _ _).symm.trans H;with_reducible exact H2_)|with_reducible exact H|(rw [hy726];exact H)|exact H
  have Ny726:=am hy726;clear hy726
  by_cases c8:y726.length+t719.length<3518437208883
  ·rw [if_pos c8] at H;have LMc8:=am c8;clear c8;obtain ⟨y729,hy729⟩:∃ y_:List (S36),y_=(y726++t719):=⟨_,rfl⟩
   replace H:((impl_TableCheck.f k t718 y729).bind fun bt732=>(if (!(bt732.1 == t722) || (!(bt732.2.1 == t723) || (!(bt732.2.2 == t724))))=true then (some false) else (if t724=0 then ((impl_TableOf.f k t718).bind fun t736=>(if (t736.length:Int)=0 then (laws_FnTables.j0 k t718 t719 t736 true) else ((impl_KindName.f t718).bind fun t739=>(laws_FnTables.j0 k t718 t719 t736 (t739.toList == ([]:List UInt8)))))) else (some true))))=some r:=by first|(rw [hy729];with_reducible exact H)|(have H2_:=(Option.bind_some _ _).symm.trans H;rw [hy729];with_reducible exact H2_)|(have H2_:=(Option.bind_some _ _).symm.trans H;with_reducible exact H2_)|with_reducible exact H|(rw [hy729];exact H)|exact H
   have Ny729:=am hy729;clear hy729;replace H:=Option.bind_eq_some_iff.mp H;obtain ⟨⟨t732,t733,t734⟩,A90,H⟩:=H;replace H:(if (!(t732 == t722) || (!(t733 == t723) || (!(t734 == t724))))=true then (some false) else (if t724=0 then ((impl_TableOf.f k t718).bind fun t736=>(if (t736.length:Int)=0 then (laws_FnTables.j0 k t718 t719 t736 true) else ((impl_KindName.f t718).bind fun t739=>(laws_FnTables.j0 k t718 t719 t736 (t739.toList == ([]:List UInt8)))))) else (some true)))=some r:=H;have A9:=am A90;clear A90
   try go_wp2_with (first|((with_reducible refine gate_dst (N:=5) rfl ?_);refine bx 5 (cs:=#[.int .i64 0,.int .i64 0,.int .i64 0]) (t:=43) ?_;intro gb725 hg w10 hbox hb;have n0_:=am (Kd.N_below (Kd.N_elderB (by (with_reducible repeat (first|apply Kd.N_alloc|apply Kd.N_drewN|apply Kd.N_drew));exact HO721.out) gb725 (Nat.le_of_eq hg.symm)) hb);have n1_:=am (below_step (bs HB) hb);have n2_:=am (hbox);have n3_:=am ((gs hg (bs HB)));have n4_:=am ((gs hg (bs HB)));clear HO721;clear HB;have HO721:=n0_;have HB:=n1_;have BK725:=n2_;have GW725:=n3_;have GE725:=n4_;clear n0_ n1_ n2_ n3_ n4_;clear hb hbox hg;have hcz11_0:w10.cell? ⟨gb725,0,none⟩=some (.int .i64 0):=(blk_cell BK725.out 0).trans rfl;have hcz11_1:w10.cell? ⟨gb725,1,none⟩=some (.int .i64 0):=(blk_cell BK725.out 1).trans rfl;have hcz11_2:w10.cell? ⟨gb725,2,none⟩=some (.int .i64 0):=(blk_cell BK725.out 2).trans rfl;have hfz11_0:=blk_frozen BK725.out 0;have hfz11_1:=blk_frozen BK725.out 1;have hfz11_2:=blk_frozen BK725.out 2)|((with_reducible refine gate_dst (N:=24) rfl ?_);have n0_:Aside0 (Kd.N k36 36 (((w10.setCell ⟨gb725,0,none⟩ (.int .i64 t722)).setCell ⟨gb725,1,none⟩ (.int .i64 t723)).setCell ⟨gb725,2,none⟩ (.int .i64 t724)) w.heap.size (fun k_=>k_≠gb725) (.slice Ao6 t719.length co6) t719):=⟨by (with_reducible repeat (first|apply Kd.N_alloc|apply Kd.N_drewN|apply Kd.N_drew));exact Kd.N_mono (Kd.N_far (p:=⟨gb725,2,none⟩) (Kd.N_far (p:=⟨gb725,1,none⟩) (Kd.N_far (p:=⟨gb725,0,none⟩) (Kd.N_mono HO721.out (fun k_ hk=>(⟨hk,hk.2⟩:_∧k_≠gb725))) (fun _ hk=>hk.2) (.int .i64 t722)) (fun _ hk=>hk.2) (.int .i64 t723)) (fun _ hk=>hk.2) (.int .i64 t724)) (fun _ hk=>hk.1.2)⟩;have n1_:Aside0 ((((w10.setCell ⟨gb725,0,none⟩ (.int .i64 t722)).setCell ⟨gb725,1,none⟩ (.int .i64 t723)).setCell ⟨gb725,2,none⟩ (.int .i64 t724)).heap[gb725]? = some (.cells #[.int .i64 t722,.int .i64 t723,.int .i64 t724] 43 (0,0))):=⟨kp BK725⟩;have n2_:Aside0 (Below w.heap.size w (((w10.setCell ⟨gb725,0,none⟩ (.int .i64 t722)).setCell ⟨gb725,1,none⟩ (.int .i64 t723)).setCell ⟨gb725,2,none⟩ (.int .i64 t724))):=⟨bs HB⟩;(try clear HO721);(try clear BK725);(try clear HB);generalize (((w10.setCell ⟨gb725,0,none⟩ (.int .i64 t722)).setCell ⟨gb725,1,none⟩ (.int .i64 t723)).setCell ⟨gb725,2,none⟩ (.int .i64 t724))=w12 at n0_ n1_ n2_ ⊢;have HO721:=n0_;have BK725:=n1_;have HB:=n2_;clear n0_ n1_ n2_;refine Kd.N_lit k36 _ 36 ?hg (N':=24) ?hd (xs:=([]:List (S36))) (inner:=[]) (ok:=(fun k_=>some k_≠(.slice Ao6 t719.length co6:Value).ownBlock∧k_≠gb725)) (okp:=(fun k_=>some k_≠(.slice Ao6 t719.length co6:Value).ownBlock∧k_≠gb725)) ?hr ?hp (fun _ hk=>hk) ((show ∀ k_,w12.heap.size≤k_→(fun k_=>some k_≠(.slice Ao6 t719.length co6:Value).ownBlock∧k_≠gb725) k_ from fun k_ hk=>⟨Kd.fresh' (Kd.N_lt (by (with_reducible repeat (first|apply Kd.N_alloc|apply Kd.N_drewN|apply Kd.N_drew));exact HO721.out)) k_ hk,Kd.freshB (g:=gb725) (o:=.cells #[.int .i64 t722,.int .i64 t723,.int .i64 t724] 43 (0,0)) (ks BK725) k_ hk⟩) _ (Nat.le_refl _)) (Below.refl _ _) (Nat.le_refl _) (by simp) ?_;(case hd=>rfl);(case hg=>rfl);(case hr=>first|(go_simp;done)|(go_simp;rfl));(case hp=>exact (Reps.none _ _));intro v727 w13 ho14 hb hg_ hnew_;clear hg_ hnew_;(first|rw [← Ny726.out] at ho14|(simp only [Int.reduceToNat] at ho14;rw [← Ny726.out] at ho14));have n0_:=am (Kd.N_elder' (by (with_reducible repeat (first|apply Kd.N_alloc|apply Kd.N_drewN|apply Kd.N_drew));exact HO721.out) (by first|exact Kd.N_base ho14|exact Kd.S_base ho14) hb);have n1_:=am (Kd.N_lower ho14 (below_size (bs HB)));have n2_:=am (blk_below (ks BK725) hb);have n3_:=am (below_step (bs HB) hb);clear HO721;clear BK725;clear HB;have HO721:=n0_;have HO728:=n1_;have BK725:=n2_;have HB:=n3_;clear n0_ n1_ n2_ n3_;clear hb ho14)|((with_reducible refine gate_builtin (b:=.append) (xs:=#[.tmp 24,.tmp 25]) rfl ?_);at_builtin;refine Kd.N_append_rows k36 (w0:=w) w.heap.size rfl (.tmp 24) (.tmp 25) 45 36 (.agg #[(.string ⟨#[]⟩),(.slice none 0 0)]) 40 rfl Tryd.underlying45 info36 rfl (by decide) (by omega) v727 y726 t719 _ _ _ (fun k_=>k_≠gb725) (fun k_=>((fun k_=>k_≠gb725)) k_∧some k_≠(v727:Value).ownBlock) rfl rfl ?aO ?aR (fun _ hk=>hk) ?aF ?aB ?aS ?aL ?_;(case aR=>exact (by skip;exact Kd.N_F (Kd.N_mono (ok':=(fun k_=>((fun k_=>k_≠gb725)) k_∧some k_≠(v727:Value).ownBlock)) (HO721.out) (fun k_ hk=>⟨hk.1,hk.2⟩))));(case aB=>exact (bs HB));(case aF=>exact (fun k_ hk=>Kd.freshB (g:=gb725) (o:=.cells #[.int .i64 t722,.int .i64 t723,.int .i64 t724] 43 (0,0)) (ks BK725) k_ hk));(case aO=>exact (by (with_reducible repeat (first|apply Kd.N_alloc|apply Kd.N_drewN|apply Kd.N_drew));exact Kd.N_mono HO728.out (fun _ hk=>hk.2)));(case aS=>exact (below_size (bs HB)));(case aL=>have:=LMc8.out;omega);intro v730 w15 ho hb hg hat;rw [← Ny729.out] at ho;have n0_:=am (Kd.N_afterv (ok:=(fun k_=>k_≠gb725)) (by (with_reducible repeat (first|apply Kd.N_alloc|apply Kd.N_drewN|apply Kd.N_drew));exact HO721.out) hg hat);have n1_:=am (blk_grown (ks BK725) hg (Kd.N_ne HO728.out BK725.out (by decide)));have n2_:=am (hb);have n3_:=am (ho);clear HO721;clear BK725;clear HB;clear HO728;have HO721:=n0_;have BK725:=n1_;have HB:=n2_;have HO731:=n3_;clear n0_ n1_ n2_ n3_;clear ho hb hg hat;obtain ⟨Ao16,co16,eo16⟩:=Kd.N_slice HO731.out;subst eo16))
   go_at_call 19;(with_reducible refine (impl_TableCheck.calls k t718 _ _ y729 t732 t733 t734 _ ?side1 ?side2 (tbC HTC (bs HB)) (tbP HTP (bs HB)) A9.out).mono ?_);(case side1=>repeat (first|exact (Kd.N_reads' HO731.out).2.2|(with_reducible refine Kd.C_alloc ?_ _)|(with_reducible refine Kd.C_drewN ?_ _)|(with_reducible refine Kd.C_drew ?_)));(case side2=>exact (Kd.N_reads' HO731.out).2.1);rintro e w17 ⟨rfl,hb⟩;have n0_:=am (Kd.N_below (by (with_reducible repeat (first|apply Kd.N_alloc|apply Kd.N_drewN|apply Kd.N_drew));exact HO721.out) hb);have n1_:=am (Kd.N_below (by (with_reducible repeat (first|apply Kd.N_alloc|apply Kd.N_drewN|apply Kd.N_drew));exact HO731.out) hb);have n2_:=am (blk_below (ks BK725) hb);have n3_:=am (below_step (bs HB) hb);clear HO721;clear HO731;clear BK725;clear HB;have HO721:=n0_;have HO731:=n1_;have BK725:=n2_;have HB:=n3_;clear n0_ n1_ n2_ n3_;(try clear hb);(try clear hb2);(try clear hk);(try clear hi)
   by_cases c18:(!(t732 == t722) || (!(t733 == t723) || (!(t734 == t724))))=true
   ·rw [if_pos c18] at H;have c18b0:(!(t732 == t722) || (!(t733 == t723) || (!(t734 == t724))))=true:=c18;clear c18;obtain rfl:=Option.some.inj H
    go_wp2_with (first|((with_reducible refine gate_dst (N:=6) rfl ?_);refine bx 6 (cs:=#[.int .i64 0,.int .i64 0,.int .i64 0]) (t:=43) ?_;intro gb735 hg w19 hbox hb;have n0_:=am (Kd.N_below (Kd.N_elderB (by (with_reducible repeat (first|apply Kd.N_alloc|apply Kd.N_drewN|apply Kd.N_drew));exact HO721.out) gb735 (Nat.le_of_eq hg.symm)) hb);have n1_:=am (Kd.N_below (Kd.N_elderB (by (with_reducible repeat (first|apply Kd.N_alloc|apply Kd.N_drewN|apply Kd.N_drew));exact HO731.out) gb735 (Nat.le_of_eq hg.symm)) hb);have n2_:=am (blk_below (ks BK725) hb);have n3_:=am (below_step (bs HB) hb);have n4_:=am (hbox);have n5_:=am ((gs hg (bs HB)));have n6_:=am ((gs hg (bs HB)));have n7_:=am ((gn hg (ks BK725)));have n8_:=am ((gm hg (ks BK725)));clear HO721;clear HO731;clear BK725;clear HB;have HO721:=n0_;have HO731:=n1_;have BK725:=n2_;have HB:=n3_;have BK735:=n4_;have GW735:=n5_;have GE735:=n6_;have NB725_735:=n7_;have NB735_725:=n8_;clear n0_ n1_ n2_ n3_ n4_ n5_ n6_ n7_ n8_;clear hb hbox hg;have hnb20:=NB735_725.out;have hnc20:=NB725_735.out;obtain ⟨hcz21_0,hcz21_1,hcz21_2,hfz21_0,hfz21_1,hfz21_2⟩:=cf3 BK735;obtain ⟨hcz22_0,hcz22_1,hcz22_2,hfz22_0,hfz22_1,hfz22_2⟩:=cf3 BK725))
    go_ret
    exact ⟨ff,bs HB⟩
   ·rw [if_neg c18] at H
    have c18b0:(!(t732 == t722) || (!(t733 == t723) || (!(t734 == t724))))=false:=by simpa using c18
    clear c18
    by_cases c23:t724=0
    ·rw [if_pos c23] at H;have c23b0:(t724 == 0)=true:=beq_iff_eq.mpr c23;have c23b1:(t724 != 0)=false:=bne_eq_false_iff_eq.mpr c23;clear c23;replace H:=Option.bind_eq_some_iff.mp H;obtain ⟨t736,A240,H⟩:=H;replace H:(if (t736.length:Int)=0 then (laws_FnTables.j0 k t718 t719 t736 true) else ((impl_KindName.f t718).bind fun t739=>(laws_FnTables.j0 k t718 t719 t736 (t739.toList == ([]:List UInt8)))))=some r:=H;have A24:=am A240;clear A240
     try go_wp2_with (first|((with_reducible refine gate_dst (N:=6) rfl ?_);refine bx 6 (cs:=#[.int .i64 0,.int .i64 0,.int .i64 0]) (t:=43) ?_;intro gb735 hg w25 hbox hb;have n0_:=am (Kd.N_below (Kd.N_elderB (by (with_reducible repeat (first|apply Kd.N_alloc|apply Kd.N_drewN|apply Kd.N_drew));exact HO721.out) gb735 (Nat.le_of_eq hg.symm)) hb);have n1_:=am (Kd.N_below (Kd.N_elderB (by (with_reducible repeat (first|apply Kd.N_alloc|apply Kd.N_drewN|apply Kd.N_drew));exact HO731.out) gb735 (Nat.le_of_eq hg.symm)) hb);have n2_:=am (blk_below (ks BK725) hb);have n3_:=am (below_step (bs HB) hb);have n4_:=am (hbox);have n5_:=am ((gs hg (bs HB)));have n6_:=am ((gs hg (bs HB)));have n7_:=am ((gn hg (ks BK725)));have n8_:=am ((gm hg (ks BK725)));clear HO721;clear HO731;clear BK725;clear HB;have HO721:=n0_;have HO731:=n1_;have BK725:=n2_;have HB:=n3_;have BK735:=n4_;have GW735:=n5_;have GE735:=n6_;have NB725_735:=n7_;have NB735_725:=n8_;clear n0_ n1_ n2_ n3_ n4_ n5_ n6_ n7_ n8_;clear hb hbox hg;have hnb26:=NB735_725.out;have hnc26:=NB725_735.out;obtain ⟨hcz27_0,hcz27_1,hcz27_2,hfz27_0,hfz27_1,hfz27_2⟩:=cf3 BK735;obtain ⟨hcz28_0,hcz28_1,hcz28_2,hfz28_0,hfz28_1,hfz28_2⟩:=cf3 BK725))
     go_at_call 23;(with_reducible refine (impl_TableOf.calls k t718 t736 _ A24.out).mono ?_);rintro e w29 ⟨v737,rfl,ho0,hb⟩;have n0_:=am (Kd.N_elder' (by (with_reducible repeat (first|apply Kd.N_alloc|apply Kd.N_drewN|apply Kd.N_drew));exact (Kd.N_mono (Kd.N_far (p:=⟨gb735,2,none⟩) (Kd.N_far (p:=⟨gb735,1,none⟩) (Kd.N_far (p:=⟨gb735,0,none⟩) (Kd.N_mono HO721.out (fun k_ hk=>(⟨hk,hk.2⟩:_∧k_≠gb735))) (fun _ hk=>hk.2) (.int .i64 t732)) (fun _ hk=>hk.2) (.int .i64 t733)) (fun _ hk=>hk.2) (.int .i64 t734)) (fun _ h_=>h_.1))) (Kd.R_base ho0) hb);have n1_:=am (Kd.N_elder' (by (with_reducible repeat (first|apply Kd.N_alloc|apply Kd.N_drewN|apply Kd.N_drew));exact (Kd.N_mono (Kd.N_far (p:=⟨gb735,2,none⟩) (Kd.N_far (p:=⟨gb735,1,none⟩) (Kd.N_far (p:=⟨gb735,0,none⟩) (Kd.N_mono HO731.out (fun k_ hk=>(⟨hk,hk.2⟩:_∧k_≠gb735))) (fun _ hk=>hk.2) (.int .i64 t732)) (fun _ hk=>hk.2) (.int .i64 t733)) (fun _ hk=>hk.2) (.int .i64 t734)) (fun _ h_=>h_.1))) (Kd.R_base ho0) hb);have n2_:=am (Kd.R_lower ho0 (below_size (bs HB)));have n3_:=am (blk_below (ks BK725) hb);have n4_:=am (blk_below (g:=gb735) (o:=.cells #[.int .i64 t732,.int .i64 t733,.int .i64 t734] 43 (0,0)) (kp BK735) hb);have n5_:=am (below_step (bs HB) hb);clear HO721;clear HO731;clear BK725;clear BK735;clear HB;have HO721:=n0_;have HO731:=n1_;have HO738:=n2_;have BK725:=n3_;have BK735:=n4_;have HB:=n5_;clear n0_ n1_ n2_ n3_ n4_ n5_;(try clear hb);(try clear hb2);(try clear hk);(try clear hi);(try clear ho0);have HC30:=am H;clear H
     go_upto_region 11 with (fail)
     go_cut [43] (fun v43 wc=>∃ (kq:Nat) (x43_29:Bool),v43=.bool x43_29∧Aside0 (laws_FnTables.j0 kq t718 t719 t736 x43_29=some r)∧Aside0 (kq≤k)∧Aside0 (Kd.N k36 36 wc w.heap.size (fun k_=>some k_≠(v737:Value).ownBlock∧k_≠gb725∧k_≠gb735) (.slice Ao6 t719.length co6) t719)∧Aside0 (Kd.R k57 57 wc w.heap.size (fun _=>True) v737 t736)∧Aside0 (wc.heap[gb725]? = some (.cells #[.int .i64 t722,.int .i64 t723,.int .i64 t724] 43 (0,0)))∧Aside0 (wc.heap[gb735]? = some (.cells #[.int .i64 t732,.int .i64 t733,.int .i64 t734] 43 (0,0)))∧Aside0 (Below w.heap.size w wc))
     case first =>
      have H:=HC30.out;clear HC30
      by_cases c31:(t736.length:Int)=0
      ·rw [if_pos c31] at H;have c31b0:((t736.length:Int) == 0)=true:=beq_iff_eq.mpr c31;have c31b1:((t736.length:Int) != 0)=false:=bne_eq_false_iff_eq.mpr c31;clear c31
       (first|rw [c31b0]|(simp only [i64_w,i32_w];rw [c31b0])|skip)
       have H':=am H;clear H;obtain ⟨Ao32,co32,eo32⟩:=Kd.R_slice HO738.out;subst eo32
       go_wp2
       go_meet
       case rel=>exact ⟨_,(true),fg,H',⟨fl⟩,⟨by (with_reducible repeat (first|apply Kd.N_alloc|apply Kd.N_drewN|apply Kd.N_drew));exact Kd.N_mono HO721.out (fun _ hk=>⟨hk.2,⟨hk.1.1.1,hk.1.2⟩⟩)⟩,⟨by (with_reducible repeat (first|apply Kd.R_alloc|apply Kd.R_drewN|apply Kd.R_drew));exact HO738.out⟩,⟨ks BK725⟩,⟨ks BK735⟩,⟨bs HB⟩⟩
      ·rw [if_neg c31] at H;have c31b0:((t736.length:Int) == 0)=false:=beq_eq_false_iff_ne.mpr c31;have c31b1:((t736.length:Int) != 0)=true:=bne_iff_ne.mpr c31
       have c31b2:¬ (t736=[]):=fun h_=>c31 (by rw [h_];rfl)
       (first|rw [c31b0]|(simp only [i64_w,i32_w];rw [c31b0])|skip)
       replace H:=Option.bind_eq_some_iff.mp H;obtain ⟨t739,A330,H⟩:=H;replace H:(laws_FnTables.j0 k t718 t719 t736 (t739.toList == ([]:List UInt8)))=some r:=H;have A33:=am A330;clear A330;have H':=am H;clear H;obtain ⟨Ao34,co34,eo34⟩:=Kd.R_slice HO738.out;subst eo34
       go_wp2_with (first|(go_at_call 24;(with_reducible refine (impl_KindName.calls t718 t739 _ A33.out).mono ?_);rintro e w35 ⟨rfl,hb⟩;have n0_:=am (Kd.N_below (by (with_reducible repeat (first|apply Kd.N_alloc|apply Kd.N_drewN|apply Kd.N_drew));exact HO721.out) hb);have n1_:=am (Kd.N_below (by (with_reducible repeat (first|apply Kd.N_alloc|apply Kd.N_drewN|apply Kd.N_drew));exact HO731.out) hb);have n2_:=am (Kd.R_below (rs HO738) hb);have n3_:=am (blk_below (ks BK725) hb);have n4_:=am (blk_below (ks BK735) hb);have n5_:=am (below_step (bs HB) hb);clear HO721;clear HO731;clear HO738;clear BK725;clear BK735;clear HB;have HO721:=n0_;have HO731:=n1_;have HO738:=n2_;have BK725:=n3_;have BK735:=n4_;have HB:=n5_;clear n0_ n1_ n2_ n3_ n4_ n5_;(try clear hb);(try clear hb2);(try clear hk);(try clear hi)))
       go_meet
       case rel=>exact ⟨_,((t739.toList == ([]:List UInt8))),fg,H',⟨fl⟩,⟨by (with_reducible repeat (first|apply Kd.N_alloc|apply Kd.N_drewN|apply Kd.N_drew));exact Kd.N_mono HO721.out (fun _ hk=>⟨hk.2,⟨hk.1.1.1,hk.1.2⟩⟩)⟩,⟨by (with_reducible repeat (first|apply Kd.R_alloc|apply Kd.R_drewN|apply Kd.R_drew));exact HO738.out⟩,⟨ks BK725⟩,⟨ks BK735⟩,⟨bs HB⟩⟩
     case rest =>
      clear HC30
      try clear c1
      try clear c2
      try clear c2b0
      try clear c2b1
      try clear p2
      try clear c3
      try clear c6
      try clear c8
      try clear c18
      try clear c18b0
      try clear c20
      try clear c23
      try clear c23b0
      try clear c23b1
      try clear c26
      try clear c31
      try clear c31b0
      try clear c31b1
      try clear c31b2
      try clear hcz11_0
      try clear hcz11_1
      try clear hcz11_2
      try clear hcz21_0
      try clear hcz21_1
      try clear hcz21_2
      try clear hcz22_0
      try clear hcz22_1
      try clear hcz22_2
      try clear hcz27_0
      try clear hcz27_1
      try clear hcz27_2
      try clear hcz28_0
      try clear hcz28_1
      try clear hcz28_2
      try clear hfz11_0
      try clear hfz11_1
      try clear hfz11_2
      try clear hfz21_0
      try clear hfz21_1
      try clear hfz21_2
      try clear hfz22_0
      try clear hfz22_1
      try clear hfz22_2
      try clear hfz27_0
      try clear hfz27_1
      try clear hfz27_2
      try clear hfz28_0
      try clear hfz28_1
      try clear hfz28_2
      obtain ⟨kq,x43_29,rfl,HA,HJ29,HO_4,HO_7,BK725,BK735,HB⟩:=hcut
      cases kq with
      | zero=>exact absurd HA.out (by simp [laws_FnTables.j0])
      | succ kj29 =>
       have H:=HA.out;clear HA;simp only [laws_FnTables.j0] at H
       by_cases c36:x43_29=true
       ·subst c36
        have H1:(some false)=some r:=by rw [if_pos rfl] at H;exact H
        clear H;have H:=H1;clear H1;obtain rfl:=Option.some.inj H
        go_wp2
        go_ret
        exact ⟨ff,bs HB⟩
       ·replace c36:=Bool.eq_false_iff.mpr c36;subst c36
        have H1:(laws_FnTables.l0 kj29 t718 t719 t736 0)=some r:=by rw [if_neg (show ¬ (false=true) by decide)] at H;exact H
        clear H;have H:=H1;clear H1;have H':=am H;clear H
        go_wp2
        go_loopg [8] kj29 (fun kq v8 w'=>∃ (x8_2:Int),v8=.int .i64 x8_2∧Aside0 (laws_FnTables.l0 kq t718 t719 t736 x8_2=some r)∧Aside0 (kq≤kj29)∧Aside0 (Kd.N k36 36 w' w.heap.size (fun k_=>some k_≠(v737:Value).ownBlock∧k_≠gb725∧k_≠gb735) (.slice Ao6 t719.length co6) t719)∧Aside0 (Kd.R k57 57 w' w.heap.size (fun _=>True) v737 t736)∧Aside0 (w'.heap[gb725]? = some (.cells #[.int .i64 t722,.int .i64 t723,.int .i64 t724] 43 (0,0)))∧Aside0 (w'.heap[gb735]? = some (.cells #[.int .i64 t732,.int .i64 t733,.int .i64 t734] 43 (0,0)))∧Aside0 (Below w.heap.size w w'))
        case atStart=>exact ⟨(0),fg,H',⟨Nat.le_refl _⟩,⟨by (with_reducible repeat (first|apply Kd.N_alloc|apply Kd.N_drewN|apply Kd.N_drew));exact HO_4.out⟩,⟨by (with_reducible repeat (first|apply Kd.R_alloc|apply Kd.R_drewN|apply Kd.R_drew));exact HO_7.out⟩,⟨ks BK725⟩,⟨ks BK735⟩,⟨bs HB⟩⟩
        case round =>
         clear H'
         try clear c1
         try clear c2
         try clear c2b0
         try clear c2b1
         try clear p2
         try clear c3
         try clear c6
         try clear c8
         try clear c18
         try clear c18b0
         try clear c20
         try clear c23
         try clear c23b0
         try clear c23b1
         try clear c26
         try clear c31
         try clear c31b0
         try clear c31b1
         try clear c31b2
         try clear c36
         try clear hcz11_0
         try clear hcz11_1
         try clear hcz11_2
         try clear hcz21_0
         try clear hcz21_1
         try clear hcz21_2
         try clear hcz22_0
         try clear hcz22_1
         try clear hcz22_2
         try clear hcz27_0
         try clear hcz27_1
         try clear hcz27_2
         try clear hcz28_0
         try clear hcz28_1
         try clear hcz28_2
         try clear hfz11_0
         try clear hfz11_1
         try clear hfz11_2
         try clear hfz21_0
         try clear hfz21_1
         try clear hfz21_2
         try clear hfz22_0
         try clear hfz22_1
         try clear hfz22_2
         try clear hfz27_0
         try clear hfz27_1
         try clear hfz27_2
         try clear hfz28_0
         try clear hfz28_1
         try clear hfz28_2
         try clear p2
         obtain ⟨x8_2,rfl,HA,HK2,HO_4,HO_7,BK725,BK735,HB⟩:=hrel
         cases gk with
         | zero=>exact absurd HA.out (by simp [laws_FnTables.l0])
         | succ k2 =>
          have H:=HA.out;clear HA;simp only [laws_FnTables.l0] at H
          by_cases c37:x8_2<(t719.length:Int)
          ·rw [if_pos c37] at H;have c37b0:decide (x8_2<(t719.length:Int))=true:=decide_eq_true c37;clear c37;have H':=am H;clear H
           go_wp2
           go_loopg [9,10] k2 (fun kq v9 v10 w'=>∃ (x9_3:Bool) (x10_3:Int),v9=.bool x9_3∧v10=.int .i64 x10_3∧Aside0 (laws_FnTables.l1 kq t718 t719 t736 x8_2 x9_3 x10_3=some r)∧Aside0 (kq≤k2)∧Aside0 (Kd.N k36 36 w' w.heap.size (fun k_=>some k_≠(v737:Value).ownBlock∧k_≠gb725∧k_≠gb735) (.slice Ao6 t719.length co6) t719)∧Aside0 (Kd.R k57 57 w' w.heap.size (fun _=>True) v737 t736)∧Aside0 (w'.heap[gb725]? = some (.cells #[.int .i64 t722,.int .i64 t723,.int .i64 t724] 43 (0,0)))∧Aside0 (w'.heap[gb735]? = some (.cells #[.int .i64 t732,.int .i64 t733,.int .i64 t734] 43 (0,0)))∧Aside0 (Below w.heap.size w w'))
           case atStart=>exact ⟨(false),(0),fg,fg,H',⟨Nat.le_refl _⟩,⟨by (with_reducible repeat (first|apply Kd.N_alloc|apply Kd.N_drewN|apply Kd.N_drew));exact HO_4.out⟩,⟨by (with_reducible repeat (first|apply Kd.R_alloc|apply Kd.R_drewN|apply Kd.R_drew));exact HO_7.out⟩,⟨ks BK725⟩,⟨ks BK735⟩,⟨bs HB⟩⟩
           case round =>
            clear H'
            try clear c1
            try clear c2
            try clear c2b0
            try clear c2b1
            try clear p2
            try clear c3
            try clear c6
            try clear c8
            try clear c18
            try clear c18b0
            try clear c20
            try clear c23
            try clear c23b0
            try clear c23b1
            try clear c26
            try clear c31
            try clear c31b0
            try clear c31b1
            try clear c31b2
            try clear c36
            try clear c37
            try clear c37b0
            try clear hcz11_0
            try clear hcz11_1
            try clear hcz11_2
            try clear hcz21_0
            try clear hcz21_1
            try clear hcz21_2
            try clear hcz22_0
            try clear hcz22_1
            try clear hcz22_2
            try clear hcz27_0
            try clear hcz27_1
            try clear hcz27_2
            try clear hcz28_0
            try clear hcz28_1
            try clear hcz28_2
            try clear hfz11_0
            try clear hfz11_1
            try clear hfz11_2
            try clear hfz21_0
            try clear hfz21_1
            try clear hfz21_2
            try clear hfz22_0
            try clear hfz22_1
            try clear hfz22_2
            try clear hfz27_0
            try clear hfz27_1
            try clear hfz27_2
            try clear hfz28_0
            try clear hfz28_1
            try clear hfz28_2
            try clear p2
            obtain ⟨x9_3,x10_3,rfl,rfl,HA,HK3,HO_4,HO_7,BK725,BK735,HB⟩:=hrel
            cases gk with
            | zero=>exact absurd HA.out (by simp [laws_FnTables.l1])
            | succ k3 =>
             have H:=HA.out;clear HA;simp only [laws_FnTables.l1] at H
             by_cases c38:x10_3<(t736.length:Int)
             ·rw [if_pos c38] at H;have c38b0:decide (x10_3<(t736.length:Int))=true:=decide_eq_true c38;clear c38
              by_cases c39:x9_3=true
              ·subst c39
               have H1:(laws_FnTables.l1 k3 t718 t719 t736 x8_2 true (wrap64 (x10_3+1)))=some r:=by rw [if_pos rfl] at H;exact H
               clear H;have H:=H1;clear H1;have H':=am H;clear H;obtain ⟨Ao40,co40,eo40⟩:=Kd.R_slice HO_7.out;subst eo40
               try go_wp2
               replace HO_4:=am (Kd.N_drew HO_4.out);replace HO_7:=am (Kd.R_drew HO_7.out);replace BK725:=am (blk_drew BK725.out);replace BK735:=am (blk_drew BK735.out);replace HB:=am (below_drew1 HB.out);refine start_ (n:=39) (S:=fun w'=>True) (ds:=[]) _ (by kernel_rfl) rfl rfl trivial (fun hHeld=>?_);refine with_tabW laws_FnTables.tab20 laws_FnTables.bits20 (fun HT_ HW_=>?_)
               generalize wr.drew=w41 at HO_4 HO_7 BK725 BK735 HB hHeld ⊢
               refine pA 0 56 HT_ ?_;refine pA 1 57 HT_ ?_;refine pB 2 58 HT_ ?_;refine pB 3 59 HT_ ?_;refine pB 4 60 HT_ ?_;refine pB 5 61 HT_ ?_;refine pB 6 62 HT_ ?_;refine pB 7 63 HT_ ?_;refine pB 8 64 HT_ ?_;refine pB 9 65 HT_ ?_;refine pB 10 66 HT_ ?_;refine pB 11 67 HT_ ?_;refine pB 12 68 HT_ ?_;refine pB 13 69 HT_ ?_;refine pB 14 70 HT_ ?_;refine pB 15 71 HT_ ?_;refine pB 16 72 HT_ ?_;refine pB 17 73 HT_ ?_;refine pB 18 74 HT_ ?_;refine pB 19 75 HT_ ?_;refine pB 20 76 HT_ ?_;refine pB 21 77 HT_ ?_;refine pB 22 78 HT_ ?_;refine pB 23 79 HT_ ?_;refine pB 24 80 HT_ ?_;refine pB 25 81 HT_ ?_;refine pB 26 82 HT_ ?_;refine pB 27 83 HT_ ?_;refine pB 28 84 HT_ ?_;refine pB 29 85 HT_ ?_;refine pB 30 86 HT_ ?_;refine pB 31 87 HT_ ?_;refine pB 32 88 HT_ ?_;refine pB 33 89 HT_ ?_;refine pB 34 90 HT_ ?_;refine pB 35 91 HT_ ?_;refine pB 36 92 HT_ ?_;refine pA 37 93 HT_ ?_;refine pA 38 9 HT_ ?_;refine done_ (done_of HT_.out (by kernel_rfl)) ?_
               try go_wp2
               go_roundg k3
               case measure=>have:=HJ29.out;have:=HK2.out;have:=HK3.out;omega
               case rel=>exact ⟨(true),(wrap64 (x10_3+1)),fg,fg,H',⟨by have:=HJ29.out;have:=HK2.out;have:=HK3.out;omega⟩,⟨by (with_reducible repeat (first|apply Kd.N_alloc|apply Kd.N_drewN|apply Kd.N_drew));exact HO_4.out⟩,⟨by (with_reducible repeat (first|apply Kd.R_alloc|apply Kd.R_drewN|apply Kd.R_drew));exact HO_7.out⟩,⟨ks BK725⟩,⟨ks BK735⟩,⟨bs HB⟩⟩
              ·replace c39:=Bool.eq_false_iff.mpr c39;subst c39
               have H1:(if 0≤x10_3 then (if 0≤x8_2 then (if x8_2<(t719.length:Int) then (if ((rd_T57 t736 x10_3).f0).toList=((rd_T36 t719 x8_2).f0).toList then ((impl_FormRight.f k3 ((rd_T57 t736 x10_3).f3) ((rd_T36 t719 x8_2).f0) ((rd_T36 t719 x8_2).f1)).bind fun t759=>(if t759=(-1) then ((impl_TagOf.f k3 t718 x10_3).bind fun t760=>(laws_FnTables.l1 k3 t718 t719 t736 x8_2 (t760.toList == ((rd_T36 t719 x8_2).f0).toList) (wrap64 (x10_3+1)))) else (laws_FnTables.l1 k3 t718 t719 t736 x8_2 false (wrap64 (x10_3+1))))) else (laws_FnTables.l1 k3 t718 t719 t736 x8_2 false (wrap64 (x10_3+1)))) else (none)) else (none)) else (none))=some r:=by rw [if_neg (show ¬ (false=true) by decide)] at H;exact H
               clear H;have H:=H1;clear H1
               by_cases c42:0≤x10_3
               ·rw [if_pos c42] at H;have c42b0:decide (0≤x10_3)=true:=decide_eq_true c42;clear c42
                by_cases c43:0≤x8_2
                ·rw [if_pos c43] at H;have c43b0:decide (0≤x8_2)=true:=decide_eq_true c43;clear c43
                 by_cases c44:x8_2<(t719.length:Int)
                 ·rw [if_pos c44] at H;have c44b0:decide (x8_2<(t719.length:Int))=true:=decide_eq_true c44;clear c44
                  by_cases c45:((rd_T57 t736 x10_3).f0).toList=((rd_T36 t719 x8_2).f0).toList
                  ·rw [if_pos c45] at H;have c45b0:(((rd_T57 t736 x10_3).f0).toList == ((rd_T36 t719 x8_2).f0).toList)=true:=beq_iff_eq.mpr c45;have c45b1:(((rd_T57 t736 x10_3).f0).toList != ((rd_T36 t719 x8_2).f0).toList)=false:=bne_eq_false_iff_eq.mpr c45;clear c45;replace H:=Option.bind_eq_some_iff.mp H;obtain ⟨t759,A460,H⟩:=H;replace H:(if t759=(-1) then ((impl_TagOf.f k3 t718 x10_3).bind fun t760=>(laws_FnTables.l1 k3 t718 t719 t736 x8_2 (t760.toList == ((rd_T36 t719 x8_2).f0).toList) (wrap64 (x10_3+1)))) else (laws_FnTables.l1 k3 t718 t719 t736 x8_2 false (wrap64 (x10_3+1))))=some r:=H;have A46:=am A460;clear A460
                   by_cases c47:t759=(-1)
                   ·rw [if_pos c47] at H;have c47b0:(t759 == (-1))=true:=beq_iff_eq.mpr c47;have c47b1:(t759 != (-1))=false:=bne_eq_false_iff_eq.mpr c47;clear c47;replace H:=Option.bind_eq_some_iff.mp H;obtain ⟨t760,A480,H⟩:=H;replace H:(laws_FnTables.l1 k3 t718 t719 t736 x8_2 (t760.toList == ((rd_T36 t719 x8_2).f0).toList) (wrap64 (x10_3+1)))=some r:=H;have A48:=am A480;clear A480;have H':=am H;clear H;obtain ⟨Ao49,co49,eo49⟩:=Kd.R_slice HO_7.out;subst eo49
                    try go_wp2
                    replace HO_4:=am (Kd.N_drew HO_4.out);replace HO_7:=am (Kd.R_drew HO_7.out);replace BK725:=am (blk_drew BK725.out);replace BK735:=am (blk_drew BK735.out);replace HB:=am (below_drew1 HB.out);have p755:0≤(x10_3:Int):=oa;have q755:x10_3<(t736.length:Int):=oa;obtain ⟨ad755,e755,hx755_0,hx755_1,hx755_2,hx755_3⟩:=at_T57 (Kd.R_reads' HO_7.out).2.2 x10_3 p755 q755
                    cases e755
                    replace p755:=eq_true p755;replace q755:=eq_true q755;have p756:0≤(x8_2:Int):=oa;have q756:x8_2<(t719.length:Int):=oa;obtain ⟨ad756,A756_1,c756_1,e756,hx756_0,hx756_1,hl756_1,hi756_1⟩:=at_T36 (Kd.N_reads' HO_4.out).2.2 x8_2 p756 q756
                    cases e756
                    obtain ⟨ce756,hce756,hMe756,hcc756⟩:=Kd.N_get HO_4.out z36 x8_2 p756 (by first|exact q756|exact oa|(have e_:=(Kd.N_reads' HO_4.out).1;omega));obtain ⟨ua756_1,uc756_1,rfl,ul756_1,ge756_1⟩:=k36_openF hMe756;have hv756_1:=hcc756 1 _ rfl
                    rw [add_field _ _ 1 (by omega)] at hv756_1
                    replace hv756_1:=Option.some.inj (hv756_1.symm.trans hx756_1)
                    injection hv756_1 with hva_ hvn_ hvc_
                    rw [hva_] at ge756_1
                    rw [hvc_] at ul756_1
                    have HL756_1:=am (show Kd.V k65 65 _ w.heap.size _ _ ((rd_T36 t719 x8_2).f1) from Kd.V_mk ul756_1 ge756_1);clear hva_ hvn_ hvc_ ge756_1 ul756_1;clear hcc756 hce756;have HR756_1:=am hi756_1;have HC756_1:=am hl756_1;clear hi756_1 hl756_1;replace p756:=eq_true p756;replace q756:=eq_true q756;have p757:0≤(x10_3:Int):=oa;have q757:x10_3<(t736.length:Int):=oa;obtain ⟨ad757,e757,hx757_0,hx757_1,hx757_2,hx757_3⟩:=at_T57 (Kd.R_reads' HO_7.out).2.2 x10_3 p757 q757;obtain rfl:ad755=ad757:=(by injection e757);replace p757:=eq_true p757;replace q757:=eq_true q757;have p758:0≤(x8_2:Int):=oa;have q758:x8_2<(t719.length:Int):=oa;obtain ⟨ad758,A758_1,c758_1,e758,hx758_0,hx758_1,hl758_1,hi758_1⟩:=at_T36 (Kd.N_reads' HO_4.out).2.2 x8_2 p758 q758;obtain rfl:ad756=ad758:=(by injection e758);obtain ⟨ce758,hce758,hMe758,hcc758⟩:=Kd.N_get HO_4.out z36 x8_2 p758 (by first|exact q758|exact oa|(have e_:=(Kd.N_reads' HO_4.out).1;omega));obtain ⟨ua758_1,uc758_1,rfl,ul758_1,ge758_1⟩:=k36_openF hMe758;have hv758_1:=hcc758 1 _ rfl
                    rw [add_field _ _ 1 (by omega)] at hv758_1
                    replace hv758_1:=Option.some.inj (hv758_1.symm.trans hx758_1)
                    injection hv758_1 with hva_ hvn_ hvc_
                    rw [hva_] at ge758_1
                    rw [hvc_] at ul758_1
                    have HL758_1:=am (show Kd.V k65 65 _ w.heap.size _ _ ((rd_T36 t719 x8_2).f1) from Kd.V_mk ul758_1 ge758_1);clear hva_ hvn_ hvc_ ge758_1 ul758_1;clear hcc758 hce758;have HR758_1:=am hi758_1;have HC758_1:=am hl758_1;clear hi758_1 hl758_1;replace p758:=eq_true p758;replace q758:=eq_true q758;(try (have ea_:=Option.some.inj (hx756_1.symm.trans hx758_1);injection ea_ with ea_ en_ ec_;subst ea_;subst ec_;clear en_));have p761:0≤(x8_2:Int):=oa;have q761:x8_2<(t719.length:Int):=oa;obtain ⟨ad761,A761_1,c761_1,e761,hx761_0,hx761_1,hl761_1,hi761_1⟩:=at_T36 (Kd.N_reads' HO_4.out).2.2 x8_2 p761 q761;obtain rfl:ad756=ad761:=(by injection e761);obtain ⟨ce761,hce761,hMe761,hcc761⟩:=Kd.N_get HO_4.out z36 x8_2 p761 (by first|exact q761|exact oa|(have e_:=(Kd.N_reads' HO_4.out).1;omega));obtain ⟨ua761_1,uc761_1,rfl,ul761_1,ge761_1⟩:=k36_openF hMe761;have hv761_1:=hcc761 1 _ rfl
                    rw [add_field _ _ 1 (by omega)] at hv761_1
                    replace hv761_1:=Option.some.inj (hv761_1.symm.trans hx761_1)
                    injection hv761_1 with hva_ hvn_ hvc_
                    rw [hva_] at ge761_1
                    rw [hvc_] at ul761_1
                    have HL761_1:=am (show Kd.V k65 65 _ w.heap.size _ _ ((rd_T36 t719 x8_2).f1) from Kd.V_mk ul761_1 ge761_1);clear hva_ hvn_ hvc_ ge761_1 ul761_1;clear hcc761 hce761;have HR761_1:=am hi761_1;have HC761_1:=am hl761_1;clear hi761_1 hl761_1;replace p761:=eq_true p761;replace q761:=eq_true q761;refine start_ (n:=39) (S:=fun w'=>qe4a w' (ad755.add ((x10_3).toNat * 4)) (.string ((rd_T57 t736 x10_3).f0)) (.int .i64 ((rd_T57 t736 x10_3).f1)) (.int .i64 ((rd_T57 t736 x10_3).f2)) (.string ((rd_T57 t736 x10_3).f3)) (qe2a w' (ad756.add ((x8_2).toNat * 2)) (.string ((rd_T36 t719 x8_2).f0)) (.slice A756_1 ((rd_T36 t719 x8_2).f1).length c756_1) (qe4a w' (ad755.add ((x10_3).toNat * 4)) (.string ((rd_T57 t736 x10_3).f0)) (.int .i64 ((rd_T57 t736 x10_3).f1)) (.int .i64 ((rd_T57 t736 x10_3).f2)) (.string ((rd_T57 t736 x10_3).f3)) (qe2a w' (ad756.add ((x8_2).toNat * 2)) (.string ((rd_T36 t719 x8_2).f0)) (.slice A756_1 ((rd_T36 t719 x8_2).f1).length c756_1) (qe2 w' (ad756.add ((x8_2).toNat * 2)) (.string ((rd_T36 t719 x8_2).f0)) (.slice A761_1 ((rd_T36 t719 x8_2).f1).length c761_1)))))) (ds:=[]) _ (by kernel_rfl) rfl rfl ⟨hx755_0,hx755_1,hx755_2,hx755_3,hx756_0,hx756_1,hx757_0,hx757_1,hx757_2,hx757_3,hx758_0,hx758_1,hx761_0,hx761_1⟩ (fun hHeld=>?_);refine with_tabW laws_FnTables.tab20 laws_FnTables.bits20 (fun HT_ HW_=>?_)
                    generalize wr.drew=w50 at HO_4 HO_7 BK725 BK735 HB HL756_1 HL758_1 HL761_1 HR756_1 HR758_1 HR761_1 hx755_0 hx755_1 hx755_2 hx755_3 hx756_0 hx756_1 hx757_0 hx757_1 hx757_2 hx757_3 hx758_0 hx758_1 hx761_0 hx761_1 hHeld ⊢
                    refine pA 0 56 HT_ ?_;refine pA 1 57 HT_ ?_;refine pA 2 58 HT_ ?_;refine pA 3 59 HT_ ?_;refine pA 4 60 HT_ ?_;refine pA 5 61 HT_ ?_;refine pA 7 63 HT_ ?_;refine pA 8 64 HT_ ?_;refine pA 9 65 HT_ ?_;refine pA 10 66 HT_ ?_;refine tA 6 62 HT_ HW_ hHeld ?_;refine tA 11 67 HT_ HW_ hHeld ?_;refine pA 12 68 HT_ ?_;refine pA 13 69 HT_ ?_;refine pA 14 70 HT_ ?_;refine pA 15 71 HT_ ?_;refine pA 16 72 HT_ ?_;refine pA 17 73 HT_ ?_;refine pA 19 75 HT_ ?_;refine pA 20 76 HT_ ?_;refine pA 21 77 HT_ ?_;refine tA 18 74 HT_ HW_ hHeld ?_;refine tA 22 78 HT_ HW_ hHeld ?_;refine oA 23 79 HT_ (fun K hK=>?_);refine gA Tryd.func14 #[.string ((rd_T57 t736 x10_3).f3),.agg #[.string ((rd_T36 t719 x8_2).f0),.slice A756_1 ((rd_T36 t719 x8_2).f1).length c756_1]] ?_;(with_reducible refine (impl_FormRight.calls k3 ((rd_T57 t736 x10_3).f3) ((rd_T36 t719 x8_2).f0) _ _ ((rd_T36 t719 x8_2).f1) t759 _ ?side1 ?side2 (tbC HTC (bs HB)) (tbP HTP (bs HB)) A46.out).mono ?_)
                    (case side1=>repeat (first|exact (by repeat (first|(with_reducible exact HR758_1.out)|(with_reducible refine Kd.C_alloc ?_ _)|(with_reducible refine Kd.C_drewN ?_ _)|(with_reducible refine Kd.C_drew ?_)|exact HR758_1.out))|(with_reducible refine Kd.C_alloc ?_ _)|(with_reducible refine Kd.C_drewN ?_ _)|(with_reducible refine Kd.C_drew ?_)))
                    (case side2=>exact HC758_1.out)
                    rintro e w51 ⟨rfl,hb⟩;have HS0_:=(hb.cell (World.block_lt_of_cell? _ _ (hHeld.1))).trans (hHeld.1);have HS1_:=(hb.cell (World.block_lt_of_cell? _ _ (hHeld.2.1))).trans (hHeld.2.1);have HS2_:=(hb.cell (World.block_lt_of_cell? _ _ (hHeld.2.2.1))).trans (hHeld.2.2.1);have HS3_:=(hb.cell (World.block_lt_of_cell? _ _ (hHeld.2.2.2.1))).trans (hHeld.2.2.2.1);have HS4_:=(hb.cell (World.block_lt_of_cell? _ _ (hHeld.2.2.2.2.1))).trans (hHeld.2.2.2.2.1);have HS5_:=(hb.cell (World.block_lt_of_cell? _ _ (hHeld.2.2.2.2.2.1))).trans (hHeld.2.2.2.2.2.1);have HS6_:=(hb.cell (World.block_lt_of_cell? _ _ (hHeld.2.2.2.2.2.2.1))).trans (hHeld.2.2.2.2.2.2.1);have HS7_:=(hb.cell (World.block_lt_of_cell? _ _ (hHeld.2.2.2.2.2.2.2.1))).trans (hHeld.2.2.2.2.2.2.2.1);have HS8_:=(hb.cell (World.block_lt_of_cell? _ _ (hHeld.2.2.2.2.2.2.2.2.1))).trans (hHeld.2.2.2.2.2.2.2.2.1);have HS9_:=(hb.cell (World.block_lt_of_cell? _ _ (hHeld.2.2.2.2.2.2.2.2.2.1))).trans (hHeld.2.2.2.2.2.2.2.2.2.1);have HS10_:=(hb.cell (World.block_lt_of_cell? _ _ (hHeld.2.2.2.2.2.2.2.2.2.2.1))).trans (hHeld.2.2.2.2.2.2.2.2.2.2.1);have HS11_:=(hb.cell (World.block_lt_of_cell? _ _ (hHeld.2.2.2.2.2.2.2.2.2.2.2.1))).trans (hHeld.2.2.2.2.2.2.2.2.2.2.2.1);have HS12_:=(hb.cell (World.block_lt_of_cell? _ _ (hHeld.2.2.2.2.2.2.2.2.2.2.2.2.1))).trans (hHeld.2.2.2.2.2.2.2.2.2.2.2.2.1);have HS13_:=(hb.cell (World.block_lt_of_cell? _ _ (hHeld.2.2.2.2.2.2.2.2.2.2.2.2.2))).trans (hHeld.2.2.2.2.2.2.2.2.2.2.2.2.2);refine ⟨_,rfl,?_⟩;have n0_:=am (Kd.N_below (by (with_reducible repeat (first|apply Kd.N_alloc|apply Kd.N_drewN|apply Kd.N_drew));exact HO_4.out) hb);have n1_:=am (Kd.R_below (rs HO_7) hb);have n2_:=am (Kd.V_below (by (with_reducible repeat (first|apply Kd.V_alloc|apply Kd.V_drewN|apply Kd.V_drew));exact HL756_1.out) hb);have n3_:=am (Kd.V_below (by (with_reducible repeat (first|apply Kd.V_alloc|apply Kd.V_drewN|apply Kd.V_drew));exact HL758_1.out) hb);have n4_:=am (blk_below (ks BK725) hb);have n5_:=am (blk_below (ks BK735) hb);have n6_:=am (Kd.C_below (by repeat (first|(with_reducible exact HR756_1.out)|(with_reducible refine Kd.C_alloc ?_ _)|(with_reducible refine Kd.C_drewN ?_ _)|(with_reducible refine Kd.C_drew ?_)|exact HR756_1.out)) hb);have n7_:=am (Kd.C_below (by repeat (first|(with_reducible exact HR758_1.out)|(with_reducible refine Kd.C_alloc ?_ _)|(with_reducible refine Kd.C_drewN ?_ _)|(with_reducible refine Kd.C_drew ?_)|exact HR758_1.out)) hb);have n8_:=am (below_step (bs HB) hb);clear HO_4;clear HO_7;clear HL756_1;clear HL758_1;clear BK725;clear BK735;clear HR756_1;clear HR758_1;clear HB;have HO_4:=n0_;have HO_7:=n1_;have HL756_1:=n2_;have HL758_1:=n3_;have BK725:=n4_;have BK735:=n5_;have HR756_1:=n6_;have HR758_1:=n7_;have HB:=n8_;clear n0_ n1_ n2_ n3_ n4_ n5_ n6_ n7_ n8_;(try clear hb);(try clear hb2);(try clear hk);(try clear hi);refine hK.out _ _ ⟨HS0_,HS1_,HS2_,HS3_,HS4_,HS5_,HS6_,HS7_,HS8_,HS9_,HS10_,HS11_,HS12_,HS13_⟩ (fun hHeld=>?_);clear hK K;refine nA 79 ?_;refine pA 24 80 HT_ ?_;refine pA 25 81 HT_ ?_;refine pA 26 82 HT_ ?_;refine pA 27 83 HT_ ?_;refine pA 28 84 HT_ ?_;refine pA 30 86 HT_ ?_;refine pA 31 87 HT_ ?_;refine pA 32 88 HT_ ?_;refine pA 33 89 HT_ ?_;refine tA 34 90 HT_ HW_ hHeld ?_;refine oA 29 85 HT_ (fun K hK=>?_);refine gA Tryd.func25 #[.int .i64 t718,.int .i64 x10_3] ?_;(with_reducible refine (impl_TagOf.calls k3 t718 x10_3 t760 _ A48.out).mono ?_);rintro e w52 ⟨rfl,hb⟩;have HS0_:=(hb.cell (World.block_lt_of_cell? _ _ (hHeld.1))).trans (hHeld.1);have HS1_:=(hb.cell (World.block_lt_of_cell? _ _ (hHeld.2.1))).trans (hHeld.2.1);have HS2_:=(hb.cell (World.block_lt_of_cell? _ _ (hHeld.2.2.1))).trans (hHeld.2.2.1);have HS3_:=(hb.cell (World.block_lt_of_cell? _ _ (hHeld.2.2.2.1))).trans (hHeld.2.2.2.1);have HS4_:=(hb.cell (World.block_lt_of_cell? _ _ (hHeld.2.2.2.2.1))).trans (hHeld.2.2.2.2.1);have HS5_:=(hb.cell (World.block_lt_of_cell? _ _ (hHeld.2.2.2.2.2.1))).trans (hHeld.2.2.2.2.2.1);have HS6_:=(hb.cell (World.block_lt_of_cell? _ _ (hHeld.2.2.2.2.2.2.1))).trans (hHeld.2.2.2.2.2.2.1);have HS7_:=(hb.cell (World.block_lt_of_cell? _ _ (hHeld.2.2.2.2.2.2.2.1))).trans (hHeld.2.2.2.2.2.2.2.1);have HS8_:=(hb.cell (World.block_lt_of_cell? _ _ (hHeld.2.2.2.2.2.2.2.2.1))).trans (hHeld.2.2.2.2.2.2.2.2.1);have HS9_:=(hb.cell (World.block_lt_of_cell? _ _ (hHeld.2.2.2.2.2.2.2.2.2.1))).trans (hHeld.2.2.2.2.2.2.2.2.2.1);have HS10_:=(hb.cell (World.block_lt_of_cell? _ _ (hHeld.2.2.2.2.2.2.2.2.2.2.1))).trans (hHeld.2.2.2.2.2.2.2.2.2.2.1);have HS11_:=(hb.cell (World.block_lt_of_cell? _ _ (hHeld.2.2.2.2.2.2.2.2.2.2.2.1))).trans (hHeld.2.2.2.2.2.2.2.2.2.2.2.1);have HS12_:=(hb.cell (World.block_lt_of_cell? _ _ (hHeld.2.2.2.2.2.2.2.2.2.2.2.2.1))).trans (hHeld.2.2.2.2.2.2.2.2.2.2.2.2.1);have HS13_:=(hb.cell (World.block_lt_of_cell? _ _ (hHeld.2.2.2.2.2.2.2.2.2.2.2.2.2))).trans (hHeld.2.2.2.2.2.2.2.2.2.2.2.2.2);refine ⟨_,rfl,?_⟩;have n0_:=am (Kd.N_below (by (with_reducible repeat (first|apply Kd.N_alloc|apply Kd.N_drewN|apply Kd.N_drew));exact HO_4.out) hb);have n1_:=am (Kd.R_below (rs HO_7) hb);have n2_:=am (Kd.V_below (by (with_reducible repeat (first|apply Kd.V_alloc|apply Kd.V_drewN|apply Kd.V_drew));exact HL756_1.out) hb);have n3_:=am (Kd.V_below (by (with_reducible repeat (first|apply Kd.V_alloc|apply Kd.V_drewN|apply Kd.V_drew));exact HL758_1.out) hb);have n4_:=am (blk_below (ks BK725) hb);have n5_:=am (blk_below (ks BK735) hb);have n6_:=am (Kd.C_below (by repeat (first|(with_reducible exact HR756_1.out)|(with_reducible refine Kd.C_alloc ?_ _)|(with_reducible refine Kd.C_drewN ?_ _)|(with_reducible refine Kd.C_drew ?_)|exact HR756_1.out)) hb);have n7_:=am (Kd.C_below (by repeat (first|(with_reducible exact HR758_1.out)|(with_reducible refine Kd.C_alloc ?_ _)|(with_reducible refine Kd.C_drewN ?_ _)|(with_reducible refine Kd.C_drew ?_)|exact HR758_1.out)) hb);have n8_:=am (below_step (bs HB) hb);clear HO_4;clear HO_7;clear HL756_1;clear HL758_1;clear BK725;clear BK735;clear HR756_1;clear HR758_1;clear HB;have HO_4:=n0_;have HO_7:=n1_;have HL756_1:=n2_;have HL758_1:=n3_;have BK725:=n4_;have BK735:=n5_;have HR756_1:=n6_;have HR758_1:=n7_;have HB:=n8_;clear n0_ n1_ n2_ n3_ n4_ n5_ n6_ n7_ n8_;(try clear hb);(try clear hb2);(try clear hk);(try clear hi);refine hK.out _ _ ⟨HS0_,HS1_,HS2_,HS3_,HS4_,HS5_,HS6_,HS7_,HS8_,HS9_,HS10_,HS11_,HS12_,HS13_⟩ (fun hHeld=>?_);clear hK K;refine nA 85 ?_;refine pA 35 91 HT_ ?_;refine pA 36 92 HT_ ?_;refine pA 37 93 HT_ ?_;refine pA 38 9 HT_ ?_;refine done_ (done_of HT_.out (by kernel_rfl)) ?_
                    try go_wp2
                    go_roundg k3
                    case measure=>have:=HJ29.out;have:=HK2.out;have:=HK3.out;omega
                    case rel=>exact ⟨((t760.toList == ((rd_T36 t719 x8_2).f0).toList)),(wrap64 (x10_3+1)),fg,fg,H',⟨by have:=HJ29.out;have:=HK2.out;have:=HK3.out;omega⟩,⟨by (with_reducible repeat (first|apply Kd.N_alloc|apply Kd.N_drewN|apply Kd.N_drew));exact HO_4.out⟩,⟨by (with_reducible repeat (first|apply Kd.R_alloc|apply Kd.R_drewN|apply Kd.R_drew));exact HO_7.out⟩,⟨ks BK725⟩,⟨ks BK735⟩,⟨bs HB⟩⟩
                   ·rw [if_neg c47] at H;have c47b0:(t759 == (-1))=false:=beq_eq_false_iff_ne.mpr c47;have c47b1:(t759 != (-1))=true:=bne_iff_ne.mpr c47;have H':=am H;clear H;obtain ⟨Ao53,co53,eo53⟩:=Kd.R_slice HO_7.out;subst eo53
                    try go_wp2
                    replace HO_4:=am (Kd.N_drew HO_4.out);replace HO_7:=am (Kd.R_drew HO_7.out);replace BK725:=am (blk_drew BK725.out);replace BK735:=am (blk_drew BK735.out);replace HB:=am (below_drew1 HB.out);have p755:0≤(x10_3:Int):=oa;have q755:x10_3<(t736.length:Int):=oa;obtain ⟨ad755,e755,hx755_0,hx755_1,hx755_2,hx755_3⟩:=at_T57 (Kd.R_reads' HO_7.out).2.2 x10_3 p755 q755
                    cases e755
                    replace p755:=eq_true p755;replace q755:=eq_true q755;have p756:0≤(x8_2:Int):=oa;have q756:x8_2<(t719.length:Int):=oa;obtain ⟨ad756,A756_1,c756_1,e756,hx756_0,hx756_1,hl756_1,hi756_1⟩:=at_T36 (Kd.N_reads' HO_4.out).2.2 x8_2 p756 q756
                    cases e756
                    obtain ⟨ce756,hce756,hMe756,hcc756⟩:=Kd.N_get HO_4.out z36 x8_2 p756 (by first|exact q756|exact oa|(have e_:=(Kd.N_reads' HO_4.out).1;omega));obtain ⟨ua756_1,uc756_1,rfl,ul756_1,ge756_1⟩:=k36_openF hMe756;have hv756_1:=hcc756 1 _ rfl
                    rw [add_field _ _ 1 (by omega)] at hv756_1
                    replace hv756_1:=Option.some.inj (hv756_1.symm.trans hx756_1)
                    injection hv756_1 with hva_ hvn_ hvc_
                    rw [hva_] at ge756_1
                    rw [hvc_] at ul756_1
                    have HL756_1:=am (show Kd.V k65 65 _ w.heap.size _ _ ((rd_T36 t719 x8_2).f1) from Kd.V_mk ul756_1 ge756_1);clear hva_ hvn_ hvc_ ge756_1 ul756_1;clear hcc756 hce756;have HR756_1:=am hi756_1;have HC756_1:=am hl756_1;clear hi756_1 hl756_1;replace p756:=eq_true p756;replace q756:=eq_true q756;have p757:0≤(x10_3:Int):=oa;have q757:x10_3<(t736.length:Int):=oa;obtain ⟨ad757,e757,hx757_0,hx757_1,hx757_2,hx757_3⟩:=at_T57 (Kd.R_reads' HO_7.out).2.2 x10_3 p757 q757;obtain rfl:ad755=ad757:=(by injection e757);replace p757:=eq_true p757;replace q757:=eq_true q757;have p758:0≤(x8_2:Int):=oa;have q758:x8_2<(t719.length:Int):=oa;obtain ⟨ad758,A758_1,c758_1,e758,hx758_0,hx758_1,hl758_1,hi758_1⟩:=at_T36 (Kd.N_reads' HO_4.out).2.2 x8_2 p758 q758;obtain rfl:ad756=ad758:=(by injection e758);obtain ⟨ce758,hce758,hMe758,hcc758⟩:=Kd.N_get HO_4.out z36 x8_2 p758 (by first|exact q758|exact oa|(have e_:=(Kd.N_reads' HO_4.out).1;omega));obtain ⟨ua758_1,uc758_1,rfl,ul758_1,ge758_1⟩:=k36_openF hMe758;have hv758_1:=hcc758 1 _ rfl
                    rw [add_field _ _ 1 (by omega)] at hv758_1
                    replace hv758_1:=Option.some.inj (hv758_1.symm.trans hx758_1)
                    injection hv758_1 with hva_ hvn_ hvc_
                    rw [hva_] at ge758_1
                    rw [hvc_] at ul758_1
                    have HL758_1:=am (show Kd.V k65 65 _ w.heap.size _ _ ((rd_T36 t719 x8_2).f1) from Kd.V_mk ul758_1 ge758_1);clear hva_ hvn_ hvc_ ge758_1 ul758_1;clear hcc758 hce758;have HR758_1:=am hi758_1;have HC758_1:=am hl758_1;clear hi758_1 hl758_1;replace p758:=eq_true p758;replace q758:=eq_true q758;(try (have ea_:=Option.some.inj (hx756_1.symm.trans hx758_1);injection ea_ with ea_ en_ ec_;subst ea_;subst ec_;clear en_));refine start_ (n:=39) (S:=fun w'=>qe4a w' (ad755.add ((x10_3).toNat * 4)) (.string ((rd_T57 t736 x10_3).f0)) (.int .i64 ((rd_T57 t736 x10_3).f1)) (.int .i64 ((rd_T57 t736 x10_3).f2)) (.string ((rd_T57 t736 x10_3).f3)) (qe2a w' (ad756.add ((x8_2).toNat * 2)) (.string ((rd_T36 t719 x8_2).f0)) (.slice A756_1 ((rd_T36 t719 x8_2).f1).length c756_1) (qe4a w' (ad755.add ((x10_3).toNat * 4)) (.string ((rd_T57 t736 x10_3).f0)) (.int .i64 ((rd_T57 t736 x10_3).f1)) (.int .i64 ((rd_T57 t736 x10_3).f2)) (.string ((rd_T57 t736 x10_3).f3)) (qe2 w' (ad756.add ((x8_2).toNat * 2)) (.string ((rd_T36 t719 x8_2).f0)) (.slice A756_1 ((rd_T36 t719 x8_2).f1).length c756_1))))) (ds:=[]) _ (by kernel_rfl) rfl rfl ⟨hx755_0,hx755_1,hx755_2,hx755_3,hx756_0,hx756_1,hx757_0,hx757_1,hx757_2,hx757_3,hx758_0,hx758_1⟩ (fun hHeld=>?_);refine with_tabW laws_FnTables.tab20 laws_FnTables.bits20 (fun HT_ HW_=>?_)
                    generalize wr.drew=w54 at HO_4 HO_7 BK725 BK735 HB HL756_1 HL758_1 HR756_1 HR758_1 hx755_0 hx755_1 hx755_2 hx755_3 hx756_0 hx756_1 hx757_0 hx757_1 hx757_2 hx757_3 hx758_0 hx758_1 hHeld ⊢
                    refine pA 0 56 HT_ ?_;refine pA 1 57 HT_ ?_;refine pA 2 58 HT_ ?_;refine pA 3 59 HT_ ?_;refine pA 4 60 HT_ ?_;refine pA 5 61 HT_ ?_;refine pA 7 63 HT_ ?_;refine pA 8 64 HT_ ?_;refine pA 9 65 HT_ ?_;refine pA 10 66 HT_ ?_;refine tA 6 62 HT_ HW_ hHeld ?_;refine tA 11 67 HT_ HW_ hHeld ?_;refine pA 12 68 HT_ ?_;refine pA 13 69 HT_ ?_;refine pA 14 70 HT_ ?_;refine pA 15 71 HT_ ?_;refine pA 16 72 HT_ ?_;refine pA 17 73 HT_ ?_;refine pA 19 75 HT_ ?_;refine pA 20 76 HT_ ?_;refine pA 21 77 HT_ ?_;refine tA 18 74 HT_ HW_ hHeld ?_;refine tA 22 78 HT_ HW_ hHeld ?_;refine oA 23 79 HT_ (fun K hK=>?_);refine gA Tryd.func14 #[.string ((rd_T57 t736 x10_3).f3),.agg #[.string ((rd_T36 t719 x8_2).f0),.slice A756_1 ((rd_T36 t719 x8_2).f1).length c756_1]] ?_;(with_reducible refine (impl_FormRight.calls k3 ((rd_T57 t736 x10_3).f3) ((rd_T36 t719 x8_2).f0) _ _ ((rd_T36 t719 x8_2).f1) t759 _ ?side1 ?side2 (tbC HTC (bs HB)) (tbP HTP (bs HB)) A46.out).mono ?_)
                    (case side1=>repeat (first|exact (by repeat (first|(with_reducible exact HR758_1.out)|(with_reducible refine Kd.C_alloc ?_ _)|(with_reducible refine Kd.C_drewN ?_ _)|(with_reducible refine Kd.C_drew ?_)|exact HR758_1.out))|(with_reducible refine Kd.C_alloc ?_ _)|(with_reducible refine Kd.C_drewN ?_ _)|(with_reducible refine Kd.C_drew ?_)))
                    (case side2=>exact HC758_1.out)
                    rintro e w55 ⟨rfl,hb⟩;have HS0_:=(hb.cell (World.block_lt_of_cell? _ _ (hHeld.1))).trans (hHeld.1);have HS1_:=(hb.cell (World.block_lt_of_cell? _ _ (hHeld.2.1))).trans (hHeld.2.1);have HS2_:=(hb.cell (World.block_lt_of_cell? _ _ (hHeld.2.2.1))).trans (hHeld.2.2.1);have HS3_:=(hb.cell (World.block_lt_of_cell? _ _ (hHeld.2.2.2.1))).trans (hHeld.2.2.2.1);have HS4_:=(hb.cell (World.block_lt_of_cell? _ _ (hHeld.2.2.2.2.1))).trans (hHeld.2.2.2.2.1);have HS5_:=(hb.cell (World.block_lt_of_cell? _ _ (hHeld.2.2.2.2.2.1))).trans (hHeld.2.2.2.2.2.1);have HS6_:=(hb.cell (World.block_lt_of_cell? _ _ (hHeld.2.2.2.2.2.2.1))).trans (hHeld.2.2.2.2.2.2.1);have HS7_:=(hb.cell (World.block_lt_of_cell? _ _ (hHeld.2.2.2.2.2.2.2.1))).trans (hHeld.2.2.2.2.2.2.2.1);have HS8_:=(hb.cell (World.block_lt_of_cell? _ _ (hHeld.2.2.2.2.2.2.2.2.1))).trans (hHeld.2.2.2.2.2.2.2.2.1);have HS9_:=(hb.cell (World.block_lt_of_cell? _ _ (hHeld.2.2.2.2.2.2.2.2.2.1))).trans (hHeld.2.2.2.2.2.2.2.2.2.1);have HS10_:=(hb.cell (World.block_lt_of_cell? _ _ (hHeld.2.2.2.2.2.2.2.2.2.2.1))).trans (hHeld.2.2.2.2.2.2.2.2.2.2.1);have HS11_:=(hb.cell (World.block_lt_of_cell? _ _ (hHeld.2.2.2.2.2.2.2.2.2.2.2))).trans (hHeld.2.2.2.2.2.2.2.2.2.2.2);refine ⟨_,rfl,?_⟩;have n0_:=am (Kd.N_below (by (with_reducible repeat (first|apply Kd.N_alloc|apply Kd.N_drewN|apply Kd.N_drew));exact HO_4.out) hb);have n1_:=am (Kd.R_below (rs HO_7) hb);have n2_:=am (Kd.V_below (by (with_reducible repeat (first|apply Kd.V_alloc|apply Kd.V_drewN|apply Kd.V_drew));exact HL756_1.out) hb);have n3_:=am (Kd.V_below (by (with_reducible repeat (first|apply Kd.V_alloc|apply Kd.V_drewN|apply Kd.V_drew));exact HL758_1.out) hb);have n4_:=am (blk_below (ks BK725) hb);have n5_:=am (blk_below (ks BK735) hb);have n6_:=am (Kd.C_below (by repeat (first|(with_reducible exact HR756_1.out)|(with_reducible refine Kd.C_alloc ?_ _)|(with_reducible refine Kd.C_drewN ?_ _)|(with_reducible refine Kd.C_drew ?_)|exact HR756_1.out)) hb);have n7_:=am (Kd.C_below (by repeat (first|(with_reducible exact HR758_1.out)|(with_reducible refine Kd.C_alloc ?_ _)|(with_reducible refine Kd.C_drewN ?_ _)|(with_reducible refine Kd.C_drew ?_)|exact HR758_1.out)) hb);have n8_:=am (below_step (bs HB) hb);clear HO_4;clear HO_7;clear HL756_1;clear HL758_1;clear BK725;clear BK735;clear HR756_1;clear HR758_1;clear HB;have HO_4:=n0_;have HO_7:=n1_;have HL756_1:=n2_;have HL758_1:=n3_;have BK725:=n4_;have BK735:=n5_;have HR756_1:=n6_;have HR758_1:=n7_;have HB:=n8_;clear n0_ n1_ n2_ n3_ n4_ n5_ n6_ n7_ n8_;(try clear hb);(try clear hb2);(try clear hk);(try clear hi);refine hK.out _ _ ⟨HS0_,HS1_,HS2_,HS3_,HS4_,HS5_,HS6_,HS7_,HS8_,HS9_,HS10_,HS11_⟩ (fun hHeld=>?_);clear hK K;refine nA 79 ?_;refine pA 24 80 HT_ ?_;refine pA 25 81 HT_ ?_;refine pA 26 82 HT_ ?_;refine pB 27 83 HT_ ?_;refine pB 28 84 HT_ ?_;refine pB 29 85 HT_ ?_;refine pB 30 86 HT_ ?_;refine pB 31 87 HT_ ?_;refine pB 32 88 HT_ ?_;refine pB 33 89 HT_ ?_;refine pB 34 90 HT_ ?_;refine pB 35 91 HT_ ?_;refine pA 36 92 HT_ ?_;refine pA 37 93 HT_ ?_;refine pA 38 9 HT_ ?_;refine done_ (done_of HT_.out (by kernel_rfl)) ?_
                    try go_wp2
                    go_roundg k3
                    case measure=>have:=HJ29.out;have:=HK2.out;have:=HK3.out;omega
                    case rel=>exact ⟨(false),(wrap64 (x10_3+1)),fg,fg,H',⟨by have:=HJ29.out;have:=HK2.out;have:=HK3.out;omega⟩,⟨by (with_reducible repeat (first|apply Kd.N_alloc|apply Kd.N_drewN|apply Kd.N_drew));exact HO_4.out⟩,⟨by (with_reducible repeat (first|apply Kd.R_alloc|apply Kd.R_drewN|apply Kd.R_drew));exact HO_7.out⟩,⟨ks BK725⟩,⟨ks BK735⟩,⟨bs HB⟩⟩
                  ·rw [if_neg c45] at H;have c45b0:(((rd_T57 t736 x10_3).f0).toList == ((rd_T36 t719 x8_2).f0).toList)=false:=beq_eq_false_iff_ne.mpr c45;have c45b1:(((rd_T57 t736 x10_3).f0).toList != ((rd_T36 t719 x8_2).f0).toList)=true:=bne_iff_ne.mpr c45;have H':=am H;clear H;obtain ⟨Ao56,co56,eo56⟩:=Kd.R_slice HO_7.out;subst eo56
                   try go_wp2
                   replace HO_4:=am (Kd.N_drew HO_4.out);replace HO_7:=am (Kd.R_drew HO_7.out);replace BK725:=am (blk_drew BK725.out);replace BK735:=am (blk_drew BK735.out);replace HB:=am (below_drew1 HB.out);have p755:0≤(x10_3:Int):=oa;have q755:x10_3<(t736.length:Int):=oa;obtain ⟨ad755,e755,hx755_0,hx755_1,hx755_2,hx755_3⟩:=at_T57 (Kd.R_reads' HO_7.out).2.2 x10_3 p755 q755
                   cases e755
                   replace p755:=eq_true p755;replace q755:=eq_true q755;have p756:0≤(x8_2:Int):=oa;have q756:x8_2<(t719.length:Int):=oa;obtain ⟨ad756,A756_1,c756_1,e756,hx756_0,hx756_1,hl756_1,hi756_1⟩:=at_T36 (Kd.N_reads' HO_4.out).2.2 x8_2 p756 q756
                   cases e756
                   obtain ⟨ce756,hce756,hMe756,hcc756⟩:=Kd.N_get HO_4.out z36 x8_2 p756 (by first|exact q756|exact oa|(have e_:=(Kd.N_reads' HO_4.out).1;omega));obtain ⟨ua756_1,uc756_1,rfl,ul756_1,ge756_1⟩:=k36_openF hMe756;have hv756_1:=hcc756 1 _ rfl
                   rw [add_field _ _ 1 (by omega)] at hv756_1
                   replace hv756_1:=Option.some.inj (hv756_1.symm.trans hx756_1)
                   injection hv756_1 with hva_ hvn_ hvc_
                   rw [hva_] at ge756_1
                   rw [hvc_] at ul756_1
                   have HL756_1:=am (show Kd.V k65 65 _ w.heap.size _ _ ((rd_T36 t719 x8_2).f1) from Kd.V_mk ul756_1 ge756_1);clear hva_ hvn_ hvc_ ge756_1 ul756_1;clear hcc756 hce756;have HR756_1:=am hi756_1;have HC756_1:=am hl756_1;clear hi756_1 hl756_1;replace p756:=eq_true p756;replace q756:=eq_true q756;refine start_ (n:=39) (S:=fun w'=>qe4a w' (ad755.add ((x10_3).toNat * 4)) (.string ((rd_T57 t736 x10_3).f0)) (.int .i64 ((rd_T57 t736 x10_3).f1)) (.int .i64 ((rd_T57 t736 x10_3).f2)) (.string ((rd_T57 t736 x10_3).f3)) (qe2 w' (ad756.add ((x8_2).toNat * 2)) (.string ((rd_T36 t719 x8_2).f0)) (.slice A756_1 ((rd_T36 t719 x8_2).f1).length c756_1))) (ds:=[]) _ (by kernel_rfl) rfl rfl ⟨hx755_0,hx755_1,hx755_2,hx755_3,hx756_0,hx756_1⟩ (fun hHeld=>?_);refine with_tabW laws_FnTables.tab20 laws_FnTables.bits20 (fun HT_ HW_=>?_)
                   generalize wr.drew=w57 at HO_4 HO_7 BK725 BK735 HB HL756_1 HR756_1 hx755_0 hx755_1 hx755_2 hx755_3 hx756_0 hx756_1 hHeld ⊢
                   refine pA 0 56 HT_ ?_;refine pA 1 57 HT_ ?_;refine pA 2 58 HT_ ?_;refine pA 3 59 HT_ ?_;refine pA 4 60 HT_ ?_;refine pA 5 61 HT_ ?_;refine pA 7 63 HT_ ?_;refine pA 8 64 HT_ ?_;refine pA 9 65 HT_ ?_;refine pA 10 66 HT_ ?_;refine tA 6 62 HT_ HW_ hHeld ?_;refine tA 11 67 HT_ HW_ hHeld ?_;refine pA 12 68 HT_ ?_;refine pA 13 69 HT_ ?_;refine pB 14 70 HT_ ?_;refine pB 15 71 HT_ ?_;refine pB 16 72 HT_ ?_;refine pB 17 73 HT_ ?_;refine pB 18 74 HT_ ?_;refine pB 19 75 HT_ ?_;refine pB 20 76 HT_ ?_;refine pB 21 77 HT_ ?_;refine pB 22 78 HT_ ?_;refine pB 23 79 HT_ ?_;refine pB 24 80 HT_ ?_;refine pA 25 81 HT_ ?_;refine pA 26 82 HT_ ?_;refine pB 27 83 HT_ ?_;refine pB 28 84 HT_ ?_;refine pB 29 85 HT_ ?_;refine pB 30 86 HT_ ?_;refine pB 31 87 HT_ ?_;refine pB 32 88 HT_ ?_;refine pB 33 89 HT_ ?_;refine pB 34 90 HT_ ?_;refine pB 35 91 HT_ ?_;refine pA 36 92 HT_ ?_;refine pA 37 93 HT_ ?_;refine pA 38 9 HT_ ?_;refine done_ (done_of HT_.out (by kernel_rfl)) ?_
                   try go_wp2
                   go_roundg k3
                   case measure=>have:=HJ29.out;have:=HK2.out;have:=HK3.out;omega
                   case rel=>exact ⟨(false),(wrap64 (x10_3+1)),fg,fg,H',⟨by have:=HJ29.out;have:=HK2.out;have:=HK3.out;omega⟩,⟨by (with_reducible repeat (first|apply Kd.N_alloc|apply Kd.N_drewN|apply Kd.N_drew));exact HO_4.out⟩,⟨by (with_reducible repeat (first|apply Kd.R_alloc|apply Kd.R_drewN|apply Kd.R_drew));exact HO_7.out⟩,⟨ks BK725⟩,⟨ks BK735⟩,⟨bs HB⟩⟩
                 ·rw [if_neg c44] at H
                  exact absurd H (by simp)
                ·rw [if_neg c43] at H
                 exact absurd H (by simp)
               ·rw [if_neg c42] at H
                exact absurd H (by simp)
             ·rw [if_neg c38] at H;have c38b0:decide (x10_3<(t736.length:Int))=false:=decide_eq_false c38;clear c38
              by_cases c58:x9_3=true
              ·subst c58
               have H1:(laws_FnTables.l0 k3 t718 t719 t736 (wrap64 (x8_2+1)))=some r:=by rw [if_pos rfl] at H;exact H
               clear H;have H:=H1;clear H1;have H':=am H;clear H;obtain ⟨Ao59,co59,eo59⟩:=Kd.R_slice HO_7.out;subst eo59
               go_wp2
               go_roundg k3
               case measure=>have:=HJ29.out;have:=HK2.out;have:=HK3.out;omega
               case rel=>exact ⟨(wrap64 (x8_2+1)),fg,H',⟨by have:=HJ29.out;have:=HK2.out;have:=HK3.out;omega⟩,⟨by (with_reducible repeat (first|apply Kd.N_alloc|apply Kd.N_drewN|apply Kd.N_drew));exact HO_4.out⟩,⟨by (with_reducible repeat (first|apply Kd.R_alloc|apply Kd.R_drewN|apply Kd.R_drew));exact HO_7.out⟩,⟨ks BK725⟩,⟨ks BK735⟩,⟨bs HB⟩⟩
              ·replace c58:=Bool.eq_false_iff.mpr c58;subst c58
               have H1:(some false)=some r:=by rw [if_neg (show ¬ (false=true) by decide)] at H;exact H
               clear H;have H:=H1;clear H1;obtain rfl:=Option.some.inj H;obtain ⟨Ao60,co60,eo60⟩:=Kd.R_slice HO_7.out;subst eo60
               go_wp2
               go_ret
               exact ⟨ff,bs HB⟩
          ·rw [if_neg c37] at H;have c37b0:decide (x8_2<(t719.length:Int))=false:=decide_eq_false c37;clear c37;obtain ⟨y740,hy740⟩:∃ y_:List (S36),y_=(([]:List (S36))):=⟨_,rfl⟩
           replace H:(if 1≤(t719.length:Int) then ((some (t719.drop 1:List (S36))).bind fun y743=>(if y740.length+y743.length<3518437208883 then ((impl_TableCheck.f k2 t718 (y740++y743)).bind fun bt751=>(if bt751.2.2=4 then (some (bt751.1 == 0)) else (some false))) else (none))) else (none))=some r:=by first|(rw [hy740];with_reducible exact H)|(have H2_:=(Option.bind_some _ _).symm.trans H;rw [hy740];with_reducible exact H2_)|(have H2_:=(Option.bind_some _ _).symm.trans H;with_reducible exact H2_)|with_reducible exact H|(rw [hy740];exact H)|exact H
           have Ny740:=am hy740;clear hy740
           by_cases c61:1≤(t719.length:Int)
           ·rw [if_pos c61] at H;have c61b0:=eq_true c61;have c61b1:decide (1≤(t719.length:Int))=true:=decide_eq_true c61;clear c61;obtain ⟨y743,hy743⟩:∃ y_:List (S36),y_=(t719.drop 1):=⟨_,rfl⟩
            replace H:(if y740.length+y743.length<3518437208883 then ((impl_TableCheck.f k2 t718 (y740++y743)).bind fun bt751=>(if bt751.2.2=4 then (some (bt751.1 == 0)) else (some false))) else (none))=some r:=by first|(rw [hy743];with_reducible exact H)|(have H2_:=(Option.bind_some _ _).symm.trans H;rw [hy743];with_reducible exact H2_)|(have H2_:=(Option.bind_some _ _).symm.trans H;with_reducible exact H2_)|with_reducible exact H|(rw [hy743];exact H)|exact H
            have Ny743:=am hy743;clear hy743
            by_cases c62:y740.length+y743.length<3518437208883
            ·rw [if_pos c62] at H;have LMc62:=am c62;clear c62;obtain ⟨y748,hy748⟩:∃ y_:List (S36),y_=(y740++y743):=⟨_,rfl⟩
             replace H:((impl_TableCheck.f k2 t718 y748).bind fun bt751=>(if bt751.2.2=4 then (some (bt751.1 == 0)) else (some false)))=some r:=by first|(rw [hy748];with_reducible exact H)|(have H2_:=(Option.bind_some _ _).symm.trans H;rw [hy748];with_reducible exact H2_)|(have H2_:=(Option.bind_some _ _).symm.trans H;with_reducible exact H2_)|with_reducible exact H|(rw [hy748];exact H)|exact H
             have Ny748:=am hy748;clear hy748;replace H:=Option.bind_eq_some_iff.mp H;obtain ⟨⟨t751,t752,t753⟩,A630,H⟩:=H;replace H:(if t753=4 then (some (t751 == 0)) else (some false))=some r:=H;have A63:=am A630;clear A630
             try go_wp2_with (first|((with_reducible refine gate_dst (N:=97) rfl ?_);refine Kd.N_lit k36 _ 36 ?hg (N':=97) ?hd (xs:=([]:List (S36))) (inner:=[]) (ok:=(fun k_=>some k_≠(.slice Ao6 t719.length co6:Value).ownBlock∧some k_≠(v737:Value).ownBlock∧k_≠gb725∧k_≠gb735)) (okp:=(fun k_=>some k_≠(.slice Ao6 t719.length co6:Value).ownBlock∧some k_≠(v737:Value).ownBlock∧k_≠gb725∧k_≠gb735)) ?hr ?hp (fun _ hk=>hk) ((show ∀ k_,wr.heap.size≤k_→(fun k_=>some k_≠(.slice Ao6 t719.length co6:Value).ownBlock∧some k_≠(v737:Value).ownBlock∧k_≠gb725∧k_≠gb735) k_ from fun k_ hk=>⟨Kd.fresh' (Kd.N_lt (by (with_reducible repeat (first|apply Kd.N_alloc|apply Kd.N_drewN|apply Kd.N_drew));exact HO_4.out)) k_ hk,Kd.fresh' (Kd.R_lt (rs HO_7)) k_ hk,Kd.freshB (g:=gb725) (o:=.cells #[.int .i64 t722,.int .i64 t723,.int .i64 t724] 43 (0,0)) (ks BK725) k_ hk,Kd.freshB (g:=gb735) (o:=.cells #[.int .i64 t732,.int .i64 t733,.int .i64 t734] 43 (0,0)) (ks BK735) k_ hk⟩) _ (Nat.le_refl _)) (Below.refl _ _) (Nat.le_refl _) (by simp) ?_;(case hd=>rfl);(case hg=>rfl);(case hr=>first|(go_simp;done)|(go_simp;rfl));(case hp=>exact (Reps.none _ _));intro v741 w64 ho65 hb hg_ hnew_;clear hg_ hnew_;(first|rw [← Ny740.out] at ho65|(simp only [Int.reduceToNat] at ho65;rw [← Ny740.out] at ho65));have n0_:=am (Kd.N_elder' (by (with_reducible repeat (first|apply Kd.N_alloc|apply Kd.N_drewN|apply Kd.N_drew));exact HO_4.out) (by first|exact Kd.N_base ho65|exact Kd.S_base ho65) hb);have n1_:=am (Kd.R_below (rs HO_7) hb);have n2_:=am (Kd.N_lower ho65 (below_size (bs HB)));have n3_:=am (blk_below (ks BK725) hb);have n4_:=am (blk_below (ks BK735) hb);have n5_:=am (below_step (bs HB) hb);clear HO_4;clear HO_7;clear BK725;clear BK735;clear HB;have HO_4:=n0_;have HO_7:=n1_;have HO742:=n2_;have BK725:=n3_;have BK735:=n4_;have HB:=n5_;clear n0_ n1_ n2_ n3_ n4_ n5_;clear hb ho65;have q66:(1:Int)≤((t719.length:Int):Int):=oa;obtain ⟨i066,hi066,_,hsz66,_⟩:=info_parts info36;have hroom66:t719.length≤co6:=(Kd.N_reads' HO_4.out).2.1;have hC66:Kd.F k36 _ _ Ao6 t719.length t719:=(Kd.V_at (base:=w.heap.size) (Kd.N_V HO_4.out)).2.2;have hcut66:=cut_from (P:=Tryd.prog) 45 36 .i64 Tryd.underlying45 hi066 2 hsz66 Ao6 t719.length co6 1 (by omega) q66;have hr66:=Kd.F_cut (m:=(1:Int).toNat) (c:=co6) hC66 (by omega) hroom66;obtain ⟨A66,hA66⟩:∃ A1,A1=(if co6=(1:Int).toNat then Ao6 else (Ao6:Option Addr).map (·.add ((1:Int).toNat * 2))):=⟨_,rfl⟩;obtain ⟨c66,hc66⟩:∃ c1,c1=co6 - (1:Int).toNat:=⟨_,rfl⟩;have hy66:y743.length=t719.length - (1:Int).toNat:=(by rw [Ny743.out,List.length_drop] <;> omega);rw [show (t719).drop (1:Int).toNat=y743 from Ny743.out.symm] at hr66;replace hr66:Kd.F k36 _ _ A66 y743.length y743:=(by rw [hA66];exact hr66);rw [← hy66,← hA66,← hc66] at hcut66;have HO747:=am (show Kd.V k36 36 _ w.heap.size _ (.slice A66 y743.length c66) y743 from Kd.V_mk (by rw [hy66,hc66];exact Nat.sub_le_sub_right hroom66 _) hr66);have HC747:=am (show y743.length≤c66 from by rw [hy66,hc66];exact Nat.sub_le_sub_right hroom66 _);clear hr66 hC66 hroom66 hi066 hsz66 hc66;have KY66:=am hy66;have KA66:=am hA66;clear hy66 hA66;replace q66:=eq_true q66)|((with_reducible refine gate_builtin (b:=.append) (xs:=#[.tmp 97,.tmp 99]) rfl ?_);at_builtin;refine Kd.N_append_rows k36 (w0:=w) w.heap.size rfl (.tmp 97) (.tmp 99) 45 36 (.agg #[(.string ⟨#[]⟩),(.slice none 0 0)]) 40 rfl Tryd.underlying45 info36 rfl (by decide) (by omega) v741 y740 y743 _ _ _ (fun k_=>some k_≠(v737:Value).ownBlock∧k_≠gb725∧k_≠gb735) (fun k_=>((fun k_=>some k_≠(v737:Value).ownBlock∧k_≠gb725∧k_≠gb735)) k_∧some k_≠(v741:Value).ownBlock) rfl rfl ?aO ?aR (fun _ hk=>hk) ?aF ?aB ?aS ?aL ?_;(case aR=>exact (by skip;exact Kd.V_F (Kd.V_mono (ok':=(fun k_=>((fun k_=>some k_≠(v737:Value).ownBlock∧k_≠gb725∧k_≠gb735)) k_∧some k_≠(v741:Value).ownBlock)) (HO747.out) (fun k_ hk=>⟨⟨hk.1.1,⟨hk.1.2.1,hk.1.2.2⟩⟩,hk.2⟩))));(case aB=>exact (bs HB));(case aF=>exact (fun k_ hk=>⟨Kd.fresh' (Kd.R_lt (rs HO_7)) k_ hk,Kd.freshB (g:=gb725) (o:=.cells #[.int .i64 t722,.int .i64 t723,.int .i64 t724] 43 (0,0)) (ks BK725) k_ hk,Kd.freshB (g:=gb735) (o:=.cells #[.int .i64 t732,.int .i64 t733,.int .i64 t734] 43 (0,0)) (ks BK735) k_ hk⟩));(case aO=>exact (by (with_reducible repeat (first|apply Kd.N_alloc|apply Kd.N_drewN|apply Kd.N_drew));exact Kd.N_mono HO742.out (fun _ hk=>⟨hk.2.1,⟨hk.2.2.1,hk.2.2.2⟩⟩)));(case aS=>exact (below_size (bs HB)));(case aL=>have:=LMc62.out;omega);intro v749 w67 ho hb hg hat;rw [← Ny748.out] at ho;have n0_:=am (Kd.N_afterv (ok:=(fun k_=>some k_≠(v737:Value).ownBlock∧k_≠gb725∧k_≠gb735)) (by (with_reducible repeat (first|apply Kd.N_alloc|apply Kd.N_drewN|apply Kd.N_drew));exact HO_4.out) hg hat);have n1_:=am (Kd.R_over' (rs HO_7) (Kd.N_typed (by (with_reducible repeat (first|apply Kd.N_alloc|apply Kd.N_drewN|apply Kd.N_drew));exact HO742.out)) (by decide) hg);have n2_:=am (blk_grown (ks BK725) hg (Kd.N_ne HO742.out BK725.out (by decide)));have n3_:=am (blk_grown (ks BK735) hg (Kd.N_ne HO742.out BK735.out (by decide)));have n4_:=am (Kd.V_afterv (ok:=(fun k_=>some k_≠(v737:Value).ownBlock∧k_≠gb725∧k_≠gb735)) (by (with_reducible repeat (first|apply Kd.V_alloc|apply Kd.V_drewN|apply Kd.V_drew));exact HO747.out) hg hat);have n5_:=am (hb);have n6_:=am (ho);clear HO_4;clear HO_7;clear BK725;clear BK735;clear HO747;clear HB;clear HO742;have HO_4:=n0_;have HO_7:=n1_;have BK725:=n2_;have BK735:=n3_;have HO747:=n4_;have HB:=n5_;have HO750:=n6_;clear n0_ n1_ n2_ n3_ n4_ n5_ n6_;clear ho hb hg hat;obtain ⟨Ao68,co68,eo68⟩:=Kd.N_slice HO750.out;subst eo68))
             go_at_call 19;(with_reducible refine (impl_TableCheck.calls k2 t718 _ _ y748 t751 t752 t753 _ ?side1 ?side2 (tbC HTC (bs HB)) (tbP HTP (bs HB)) A63.out).mono ?_);(case side1=>repeat (first|exact (Kd.N_reads' HO750.out).2.2|(with_reducible refine Kd.C_alloc ?_ _)|(with_reducible refine Kd.C_drewN ?_ _)|(with_reducible refine Kd.C_drew ?_)));(case side2=>exact (Kd.N_reads' HO750.out).2.1);rintro e w69 ⟨rfl,hb⟩;have n0_:=am (Kd.N_below (by (with_reducible repeat (first|apply Kd.N_alloc|apply Kd.N_drewN|apply Kd.N_drew));exact HO_4.out) hb);have n1_:=am (Kd.R_below (rs HO_7) hb);have n2_:=am (Kd.V_below (by (with_reducible repeat (first|apply Kd.V_alloc|apply Kd.V_drewN|apply Kd.V_drew));exact HO747.out) hb);have n3_:=am (Kd.N_below (by (with_reducible repeat (first|apply Kd.N_alloc|apply Kd.N_drewN|apply Kd.N_drew));exact HO750.out) hb);have n4_:=am (blk_below (ks BK725) hb);have n5_:=am (blk_below (ks BK735) hb);have n6_:=am (below_step (bs HB) hb);clear HO_4;clear HO_7;clear HO747;clear HO750;clear BK725;clear BK735;clear HB;have HO_4:=n0_;have HO_7:=n1_;have HO747:=n2_;have HO750:=n3_;have BK725:=n4_;have BK735:=n5_;have HB:=n6_;clear n0_ n1_ n2_ n3_ n4_ n5_ n6_;(try clear hb);(try clear hb2);(try clear hk);(try clear hi)
             by_cases c70:t753=4
             ·rw [if_pos c70] at H;have c70b0:(t753 == 4)=true:=beq_iff_eq.mpr c70;have c70b1:(t753 != 4)=false:=bne_eq_false_iff_eq.mpr c70;clear c70;obtain rfl:=Option.some.inj H
              go_wp2_with (first|((with_reducible refine gate_dst (N:=11) rfl ?_);refine bx 11 (cs:=#[.int .i64 0,.int .i64 0,.int .i64 0]) (t:=43) ?_;intro gb754 hg w71 hbox hb;have n0_:=am (Kd.N_below (Kd.N_elderB (by (with_reducible repeat (first|apply Kd.N_alloc|apply Kd.N_drewN|apply Kd.N_drew));exact HO_4.out) gb754 (Nat.le_of_eq hg.symm)) hb);have n1_:=am (Kd.R_below (rs HO_7) hb);have n2_:=am (Kd.V_below (Kd.V_elderB (by (with_reducible repeat (first|apply Kd.V_alloc|apply Kd.V_drewN|apply Kd.V_drew));exact HO747.out) gb754 (Nat.le_of_eq hg.symm)) hb);have n3_:=am (Kd.N_below (Kd.N_elderB (by (with_reducible repeat (first|apply Kd.N_alloc|apply Kd.N_drewN|apply Kd.N_drew));exact HO750.out) gb754 (Nat.le_of_eq hg.symm)) hb);have n4_:=am (blk_below (ks BK725) hb);have n5_:=am (blk_below (ks BK735) hb);have n6_:=am (below_step (bs HB) hb);have n7_:=am (hbox);have n8_:=am ((gs hg (bs HB)));have n9_:=am ((gs hg (bs HB)));have n10_:=am ((gn hg (ks BK725)));have n11_:=am ((gm hg (ks BK725)));have n12_:=am ((gn hg (ks BK735)));have n13_:=am ((gm hg (ks BK735)));clear HO_4;clear HO_7;clear HO747;clear HO750;clear BK725;clear BK735;clear HB;have HO_4:=n0_;have HO_7:=n1_;have HO747:=n2_;have HO750:=n3_;have BK725:=n4_;have BK735:=n5_;have HB:=n6_;have BK754:=n7_;have GW754:=n8_;have GE754:=n9_;have NB725_754:=n10_;have NB754_725:=n11_;have NB735_754:=n12_;have NB754_735:=n13_;clear n0_ n1_ n2_ n3_ n4_ n5_ n6_ n7_ n8_ n9_ n10_ n11_ n12_ n13_;clear hb hbox hg;have hnb72:=NB754_725.out;have hnc72:=NB725_754.out;have hnb73:=NB754_735.out;have hnc73:=NB735_754.out;obtain ⟨hcz74_0,hcz74_1,hcz74_2,hfz74_0,hfz74_1,hfz74_2⟩:=cf3 BK754))
              go_ret
              exact ⟨ff,bs HB⟩
             ·rw [if_neg c70] at H;have c70b0:(t753 == 4)=false:=beq_eq_false_iff_ne.mpr c70;have c70b1:(t753 != 4)=true:=bne_iff_ne.mpr c70;obtain rfl:=Option.some.inj H
              go_wp2_with (first|((with_reducible refine gate_dst (N:=11) rfl ?_);refine bx 11 (cs:=#[.int .i64 0,.int .i64 0,.int .i64 0]) (t:=43) ?_;intro gb754 hg w75 hbox hb;have n0_:=am (Kd.N_below (Kd.N_elderB (by (with_reducible repeat (first|apply Kd.N_alloc|apply Kd.N_drewN|apply Kd.N_drew));exact HO_4.out) gb754 (Nat.le_of_eq hg.symm)) hb);have n1_:=am (Kd.R_below (rs HO_7) hb);have n2_:=am (Kd.V_below (Kd.V_elderB (by (with_reducible repeat (first|apply Kd.V_alloc|apply Kd.V_drewN|apply Kd.V_drew));exact HO747.out) gb754 (Nat.le_of_eq hg.symm)) hb);have n3_:=am (Kd.N_below (Kd.N_elderB (by (with_reducible repeat (first|apply Kd.N_alloc|apply Kd.N_drewN|apply Kd.N_drew));exact HO750.out) gb754 (Nat.le_of_eq hg.symm)) hb);have n4_:=am (blk_below (ks BK725) hb);have n5_:=am (blk_below (ks BK735) hb);have n6_:=am (below_step (bs HB) hb);have n7_:=am (hbox);have n8_:=am ((gs hg (bs HB)));have n9_:=am ((gs hg (bs HB)));have n10_:=am ((gn hg (ks BK725)));have n11_:=am ((gm hg (ks BK725)));have n12_:=am ((gn hg (ks BK735)));have n13_:=am ((gm hg (ks BK735)));clear HO_4;clear HO_7;clear HO747;clear HO750;clear BK725;clear BK735;clear HB;have HO_4:=n0_;have HO_7:=n1_;have HO747:=n2_;have HO750:=n3_;have BK725:=n4_;have BK735:=n5_;have HB:=n6_;have BK754:=n7_;have GW754:=n8_;have GE754:=n9_;have NB725_754:=n10_;have NB754_725:=n11_;have NB735_754:=n12_;have NB754_735:=n13_;clear n0_ n1_ n2_ n3_ n4_ n5_ n6_ n7_ n8_ n9_ n10_ n11_ n12_ n13_;clear hb hbox hg;have hnb76:=NB754_725.out;have hnc76:=NB725_754.out;have hnb77:=NB754_735.out;have hnc77:=NB735_754.out;obtain ⟨hcz78_0,hcz78_1,hcz78_2,hfz78_0,hfz78_1,hfz78_2⟩:=cf3 BK754))
              go_ret
              exact ⟨ff,bs HB⟩
            ·rw [if_neg c62] at H
             exact absurd H (by simp)
           ·rw [if_neg c61] at H
            exact absurd H (by simp)
    ·rw [if_neg c23] at H;have c23b0:(t724 == 0)=false:=beq_eq_false_iff_ne.mpr c23;have c23b1:(t724 != 0)=true:=bne_iff_ne.mpr c23;obtain rfl:=Option.some.inj H
     go_wp2_with (first|((with_reducible refine gate_dst (N:=6) rfl ?_);refine bx 6 (cs:=#[.int .i64 0,.int .i64 0,.int .i64 0]) (t:=43) ?_;intro gb735 hg w79 hbox hb;have n0_:=am (Kd.N_below (Kd.N_elderB (by (with_reducible repeat (first|apply Kd.N_alloc|apply Kd.N_drewN|apply Kd.N_drew));exact HO721.out) gb735 (Nat.le_of_eq hg.symm)) hb);have n1_:=am (Kd.N_below (Kd.N_elderB (by (with_reducible repeat (first|apply Kd.N_alloc|apply Kd.N_drewN|apply Kd.N_drew));exact HO731.out) gb735 (Nat.le_of_eq hg.symm)) hb);have n2_:=am (blk_below (ks BK725) hb);have n3_:=am (below_step (bs HB) hb);have n4_:=am (hbox);have n5_:=am ((gs hg (bs HB)));have n6_:=am ((gs hg (bs HB)));have n7_:=am ((gn hg (ks BK725)));have n8_:=am ((gm hg (ks BK725)));clear HO721;clear HO731;clear BK725;clear HB;have HO721:=n0_;have HO731:=n1_;have BK725:=n2_;have HB:=n3_;have BK735:=n4_;have GW735:=n5_;have GE735:=n6_;have NB725_735:=n7_;have NB735_725:=n8_;clear n0_ n1_ n2_ n3_ n4_ n5_ n6_ n7_ n8_;clear hb hbox hg;have hnb80:=NB735_725.out;have hnc80:=NB725_735.out;obtain ⟨hcz81_0,hcz81_1,hcz81_2,hfz81_0,hfz81_1,hfz81_2⟩:=cf3 BK735;obtain ⟨hcz82_0,hcz82_1,hcz82_2,hfz82_0,hfz82_1,hfz82_2⟩:=cf3 BK725))
     go_ret
     exact ⟨ff,bs HB⟩
  ·rw [if_neg c8] at H
   exact absurd H (by simp)
end Go.Proofs.YtjbdljhjplidmaaDoor.QF
