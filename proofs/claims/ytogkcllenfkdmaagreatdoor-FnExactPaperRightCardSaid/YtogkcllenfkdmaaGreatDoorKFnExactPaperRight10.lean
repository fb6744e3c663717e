-- Merged by a program of this session (wip/tool/pack.py) out of its own texts for this claim.
import Derived.Test.YtogkcllenfkdmaaGreatDoorKFnExactPaperRight0
import Derived.Test.YtogkcllenfkdmaaGreatDoorKFnExactPaperRight1
import Derived.Test.YtogkcllenfkdmaaGreatDoorKFnExactPaperRight2
import Derived.Test.YtogkcllenfkdmaaGreatDoorKFnExactPaperRight3
import Derived.Test.YtogkcllenfkdmaaGreatDoorKFnExactPaperRight4
import Derived.Test.YtogkcllenfkdmaaGreatDoorKFnExactPaperRight6
import Derived.Test.YtogkcllenfkdmaaGreatDoorKFnExactPaperRight7
import Derived.Test.YtogkcllenfkdmaaGreatDoorKFnExactPaperRight9
namespace Go.Proofs.YtogkcllenfkdmaaGreatDoor.QR
open Go.RowKit Go.Proofs.YtogkcllenfkdmaaGreatDoorW.PrintWords Go.Proofs.YtogkcllenfkdmaaGreatDoorW.PrintLast Go.Proofs.YtogkcllenfkdmaaGreatDoorW.PrintMore
attribute [local go_sem] max2_int min2_int max_two min_two max_three min_three max_four min_four   -- for this text's walks alone
set_option linter.unusedVariables false
set_option linter.unusedSimpArgs false
def spec_l05Read.T3:Bool × List (List Nat × List Nat):=(true,[([],[]),([0],[0]),([],[]),([2,1],[2]),([],[]),([4,3],[4]),([],[]),([6,5],[6]),([1,3,5,7],[1,3,5,7]),([8,7,0,1,2,3,4,5,6,7,8],[8])])
def spec_l05Read.B3:List Nat:=[0,1,0,7,0,31,0,127,255,511]
theorem spec_l05Read.tab3:rtab .any (opsOf Tryz.f52 3)=spec_l05Read.T3:=by kernel_rfl
theorem spec_l05Read.bits3:waitsOk spec_l05Read.T3.2 spec_l05Read.B3=true:=by kernel_rfl
def spec_l05Read.T7:Bool × List (List Nat × List Nat):=(true,[([],[]),([0],[0]),([],[]),([2,1],[2]),([],[]),([4,3],[4]),([1,3,5],[1,3,5]),([6,5,0,1,2,3,4,5,6],[6])])
def spec_l05Read.B7:List Nat:=[0,1,0,7,0,31,63,127]
theorem spec_l05Read.tab7:rtab .any (opsOf Tryz.f52 7)=spec_l05Read.T7:=by kernel_rfl
theorem spec_l05Read.bits7:waitsOk spec_l05Read.T7.2 spec_l05Read.B7=true:=by kernel_rfl
def spec_l05Read.T9:Bool × List (List Nat × List Nat):=(true,[([],[]),([0],[0]),([],[]),([2,1],[2]),([],[]),([4,3],[4]),([1,3,5],[1,3,5]),([6,5,0,1,2,3,4,5,6],[6])])
def spec_l05Read.B9:List Nat:=[0,1,0,7,0,31,63,127]
theorem spec_l05Read.tab9:rtab .any (opsOf Tryz.f52 9)=spec_l05Read.T9:=by kernel_rfl
theorem spec_l05Read.bits9:waitsOk spec_l05Read.T9.2 spec_l05Read.B9=true:=by kernel_rfl
def spec_l05Read.T10:Bool × List (List Nat × List Nat):=(true,[([],[]),([0],[0]),([],[]),([2,1],[2]),([],[]),([4,3],[4]),([1,3,5],[1,3,5]),([6,5,0,1,2,3,4,5,6],[6])])
def spec_l05Read.B10:List Nat:=[0,1,0,7,0,31,63,127]
theorem spec_l05Read.tab10:rtab .any (opsOf Tryz.f52 10)=spec_l05Read.T10:=by kernel_rfl
theorem spec_l05Read.bits10:waitsOk spec_l05Read.T10.2 spec_l05Read.B10=true:=by kernel_rfl
set_option maxHeartbeats 8000000 in
set_option maxRecDepth 100000 in
theorem spec_l05Read.calls (k:Nat) (a0:Int) (a1_0:ByteArray) (A1_1:Option Addr) (c1_1:Nat) (l1_1:List (S103)) (r1:Int) (r2:ByteArray) (r3:Int) (r4:Int) (r5:ByteArray) (w:World) (hr1_1:Kd.C k103 w A1_1 l1_1.length l1_1) (hc1_1:l1_1.length≤c1_1) (H:spec_l05Read.f k a0 a1_0 l1_1=some (r1,r2,r3,r4,r5)) :
  Calls Tryz.prog 52 #[.int .i64 a0,.agg #[.string a1_0,.slice A1_1 l1_1.length c1_1]] w fun e w'=>e=.returned (.agg #[.int .i64 r1,.string r2,.int .i64 r3,.int .i64 r4,.string r5])∧Below w.heap.size w w':=by
 have hu62:=Tryz.underlying62;have hu71:=Tryz.underlying71;have HR1_1:=am hr1_1;have HC1_1:=am hc1_1;clear hr1_1 hc1_1;have HB:=am (Below.refl w.heap.size w);unfold spec_l05Read.f at H
 revert H;refine ie2 ?_ ?_
 ·intro c3b0 c3b1 H;replace H:=bo H;obtain ⟨t345,A4,H⟩:=H;replace H:=bo H;obtain ⟨t346,A5,H⟩:=H;replace H:=bo H;obtain ⟨t347,A6,H⟩:=H;replace H:=bo H;obtain ⟨t348,A7,H⟩:=H;replace H:=sj5 H;obtain ⟨rfl,rfl,rfl,rfl,rfl⟩:=H
  go_in
  try go_wp2_with (first|((with_reducible refine gate_dst (N:=3) rfl ?_);refine bx 3 (cs:=#[.string a1_0,.slice A1_1 l1_1.length c1_1]) (t:=62) ?_;intro gb343 hg w8 hbox hb;have BK343:=am (hbox);have GW343:=am ((gs hg (bs HB)));have GE343:=am ((gs hg (bs HB)));replace HB:=am (below_step (bs HB) hb);clear hb hbox hg)|((with_reducible refine gate_dst (N:=4) rfl ?_);refine bx 4 (cs:=#[.int .i64 0,.string (⟨#[]⟩:ByteArray),.int .i64 0,.int .i64 0,.string (⟨#[]⟩:ByteArray)]) (t:=71) ?_;intro gb344 hg w9 hbox hb;have BK344:=am (hbox);have GW344:=am ((gs hg (bs HB)));have GE344:=am ((gs hg (bs HB)));replace HB:=am (below_step (bs HB) hb);have NB343_344:=am ((gn hg (ks BK343)));have NB344_343:=am ((gm hg (ks BK343)));replace BK343:=am (blk_below (ks BK343) hb);clear hb hbox hg))
  replace BK343:=am (blk_drew BK343.out);replace BK344:=am (blk_drew BK344.out);replace HB:=am (below_drew1 HB.out);refine sta 10 (hb2 BK343) (fun hHeld=>?_);refine with_tabW spec_l05Read.tab3 spec_l05Read.bits3 (fun HT_ HW_=>?_)
  generalize w9.drew=w10 at BK343 BK344 HB hHeld ⊢
  refine tA 0 8 HT_ HW_ hHeld ?_;refine tA 2 10 HT_ HW_ hHeld ?_;refine tA 4 12 HT_ HW_ hHeld ?_;refine tA 6 14 HT_ HW_ hHeld ?_;refine oA 1 9 HT_ (fun K hK=>?_);refine gA Tryz.func50 #[.agg #[.string a1_0,.slice A1_1 l1_1.length c1_1],.int .i64 0] ?_;(with_reducible refine (spec_l05Num.calls k a1_0 _ _ l1_1 0 t345 _ ?side1 ?side2 A4.out).mono ?_)
  (case side1=>repeat (first|exact (Kd.C_below HR1_1.out HB.out)|(with_reducible refine Kd.C_alloc ?_ _)|(with_reducible refine Kd.C_drewN ?_ _)|(with_reducible refine Kd.C_drew ?_)))
  (case side2=>exact HC1_1.out)
  rintro e w11 ⟨rfl,hb⟩;refine ⟨_,rfl,?_⟩;replace BK343:=am (blk_below (ks BK343) hb);replace BK344:=am (blk_below (ks BK344) hb);replace HB:=am (below_step (bs HB) hb);(try clear hb);(try clear hb2);(try clear hk);(try clear hi);refine hK.out _ _ (hb2 BK343).out (fun hHeld=>?_);clear hK K;refine nA 9 ?_;refine oA 3 11 HT_ (fun K hK=>?_);refine gA Tryz.func49 #[.agg #[.string a1_0,.slice A1_1 l1_1.length c1_1],.int .i64 1,.int .i64 0] ?_;(with_reducible refine (spec_PartOf.calls a1_0 _ _ l1_1 1 0 t346 _ ?side1 ?side2 A5.out).mono ?_)
  (case side1=>repeat (first|exact (Kd.C_below HR1_1.out HB.out)|(with_reducible refine Kd.C_alloc ?_ _)|(with_reducible refine Kd.C_drewN ?_ _)|(with_reducible refine Kd.C_drew ?_)))
  (case side2=>exact HC1_1.out)
  rintro e w12 ⟨rfl,hb⟩;refine ⟨_,rfl,?_⟩;replace BK343:=am (blk_below (ks BK343) hb);replace BK344:=am (blk_below (ks BK344) hb);replace HB:=am (below_step (bs HB) hb);(try clear hb);(try clear hb2);(try clear hk);(try clear hi);refine hK.out _ _ (hb2 BK343).out (fun hHeld=>?_);clear hK K;refine nA 11 ?_;refine oA 5 13 HT_ (fun K hK=>?_);refine gA Tryz.func50 #[.agg #[.string a1_0,.slice A1_1 l1_1.length c1_1],.int .i64 2] ?_;(with_reducible refine (spec_l05Num.calls k a1_0 _ _ l1_1 2 t347 _ ?side1 ?side2 A6.out).mono ?_)
  (case side1=>repeat (first|exact (Kd.C_below HR1_1.out HB.out)|(with_reducible refine Kd.C_alloc ?_ _)|(with_reducible refine Kd.C_drewN ?_ _)|(with_reducible refine Kd.C_drew ?_)))
  (case side2=>exact HC1_1.out)
  rintro e w13 ⟨rfl,hb⟩;refine ⟨_,rfl,?_⟩;replace BK343:=am (blk_below (ks BK343) hb);replace BK344:=am (blk_below (ks BK344) hb);replace HB:=am (below_step (bs HB) hb);(try clear hb);(try clear hb2);(try clear hk);(try clear hi);refine hK.out _ _ (hb2 BK343).out (fun hHeld=>?_);clear hK K;refine nA 13 ?_;refine oA 7 15 HT_ (fun K hK=>?_);refine gA Tryz.func50 #[.agg #[.string a1_0,.slice A1_1 l1_1.length c1_1],.int .i64 3] ?_;(with_reducible refine (spec_l05Num.calls k a1_0 _ _ l1_1 3 t348 _ ?side1 ?side2 A7.out).mono ?_)
  (case side1=>repeat (first|exact (Kd.C_below HR1_1.out HB.out)|(with_reducible refine Kd.C_alloc ?_ _)|(with_reducible refine Kd.C_drewN ?_ _)|(with_reducible refine Kd.C_drew ?_)))
  (case side2=>exact HC1_1.out)
  rintro e w14 ⟨rfl,hb⟩;refine ⟨_,rfl,?_⟩;replace BK343:=am (blk_below (ks BK343) hb);replace BK344:=am (blk_below (ks BK344) hb);replace HB:=am (below_step (bs HB) hb);(try clear hb);(try clear hb2);(try clear hk);(try clear hi);refine hK.out _ _ (hb2 BK343).out (fun hHeld=>?_);clear hK K;refine nA 15 ?_;refine pA 8 16 HT_ ?_;refine one_ (i:=9) (N:=none) #[true,true,true,true,true,true,true,true,true,true] rfl rfl (one_of HT_.out (by kernel_rfl)) (by decide) (fun K hK=>?_);have hs15:w14.cell? ⟨gb344,0,none⟩=some (.int .i64 0):=(blk_cell BK344.out 0).trans rfl;have hfs15:=blk_frozen BK344.out 0;have hns15_0:=NB343_344.out;have hms15_0:=NB344_343.out;have hs16:w14.cell? ⟨gb344,1,none⟩=some (.string (⟨#[]⟩:ByteArray)):=(blk_cell BK344.out 1).trans rfl;have hfs16:=blk_frozen BK344.out 1;have hns16_0:=NB343_344.out;have hms16_0:=NB344_343.out;have hs17:w14.cell? ⟨gb344,2,none⟩=some (.int .i64 0):=(blk_cell BK344.out 2).trans rfl;have hfs17:=blk_frozen BK344.out 2;have hns17_0:=NB343_344.out;have hms17_0:=NB344_343.out;have hs18:w14.cell? ⟨gb344,3,none⟩=some (.int .i64 0):=(blk_cell BK344.out 3).trans rfl;have hfs18:=blk_frozen BK344.out 3;have hns18_0:=NB343_344.out;have hms18_0:=NB344_343.out;have hs19:w14.cell? ⟨gb344,4,none⟩=some (.string (⟨#[]⟩:ByteArray)):=(blk_cell BK344.out 4).trans rfl;have hfs19:=blk_frozen BK344.out 4;have hns19_0:=NB343_344.out;have hms19_0:=NB344_343.out;refine skip_ (w1:=?_) (by rfl) rfl ?_ ?_
  rotate_left
  ·go_simp
   rfl
  refine hK.out _ _ ⟨((cell_far (p:=⟨gb344,_,none⟩) NB343_344.out _).trans (((cell_far (p:=⟨gb344,_,none⟩) NB343_344.out _).trans (((cell_far (p:=⟨gb344,_,none⟩) NB343_344.out _).trans (((cell_far (p:=⟨gb344,_,none⟩) NB343_344.out _).trans (((cell_far (p:=⟨gb344,_,none⟩) NB343_344.out _).trans (hHeld.1)))))))))),((cell_far (p:=⟨gb344,_,none⟩) NB343_344.out _).trans (((cell_far (p:=⟨gb344,_,none⟩) NB343_344.out _).trans (((cell_far (p:=⟨gb344,_,none⟩) NB343_344.out _).trans (((cell_far (p:=⟨gb344,_,none⟩) NB343_344.out _).trans (((cell_far (p:=⟨gb344,_,none⟩) NB343_344.out _).trans (hHeld.2))))))))))⟩ (fun hHeld=>?_);clear hK K;refine done_ (done_of HT_.out (by kernel_rfl)) ?_
  try go_wp2
  refine bodyPost_ret (results_cell_row rfl _ _ gb344 71 #[.int .i64 t345,.string t346,.int .i64 t347,.int .i64 t348,.string (⟨#[]⟩:ByteArray)] (0,0) _ rfl (kp BK344) Tryz.underlying71 rfl (by kernel_rfl)) rfl ?_
  exact ⟨ff,bs HB⟩
 ·intro c3 c3b0 c3b1 H
  revert H;refine ie2 ?_ ?_
  ·intro c20b0 c20b1 H;replace H:=bo H;obtain ⟨t349,A21,H⟩:=H;replace H:=bo H;obtain ⟨t350,A22,H⟩:=H;replace H:=sj5 H;obtain ⟨rfl,rfl,rfl,rfl,rfl⟩:=H
   go_in
   try go_wp2_with (first|((with_reducible refine gate_dst (N:=3) rfl ?_);refine bx 3 (cs:=#[.string a1_0,.slice A1_1 l1_1.length c1_1]) (t:=62) ?_;intro gb343 hg w23 hbox hb;have BK343:=am (hbox);have GW343:=am ((gs hg (bs HB)));have GE343:=am ((gs hg (bs HB)));replace HB:=am (below_step (bs HB) hb);clear hb hbox hg)|((with_reducible refine gate_dst (N:=4) rfl ?_);refine bx 4 (cs:=#[.int .i64 0,.string (⟨#[]⟩:ByteArray),.int .i64 0,.int .i64 0,.string (⟨#[]⟩:ByteArray)]) (t:=71) ?_;intro gb344 hg w24 hbox hb;have BK344:=am (hbox);have GW344:=am ((gs hg (bs HB)));have GE344:=am ((gs hg (bs HB)));replace HB:=am (below_step (bs HB) hb);have NB343_344:=am ((gn hg (ks BK343)));have NB344_343:=am ((gm hg (ks BK343)));replace BK343:=am (blk_below (ks BK343) hb);clear hb hbox hg))
   replace BK343:=am (blk_drew BK343.out);replace BK344:=am (blk_drew BK344.out);replace HB:=am (below_drew1 HB.out);refine sta 6 (hb2 BK343) (fun hHeld=>?_)
   generalize w24.drew=w25 at BK343 BK344 HB hHeld ⊢
   refine take_ (i:=0) (N:=some 19) (v:=?_) (a':=?_) #[true,false,false,false,false,false] rfl rfl (by kernel_rfl) (fun _ _ _ h=>h) (Or.inl ⟨by rfl,?_⟩) hHeld ?_ ?_
   rotate_left
   ·rintro w' ⟨s0,s1⟩
    go_simp
    (with_reducible rfl)
   rotate_left
   ·simp only [Act.put,List.setIfInBounds_toArray,List.set_cons_zero,List.set_cons_succ,i64_w,i32_w]
    rfl
   refine take_ (i:=2) (N:=some 21) (v:=?_) (a':=?_) #[true,false,true,false,false,false] rfl rfl (by kernel_rfl) (fun _ _ _ h=>h) (Or.inl ⟨by rfl,?_⟩) hHeld ?_ ?_
   rotate_left
   ·rintro w' ⟨s0,s1⟩
    go_simp
    (with_reducible rfl)
   rotate_left
   ·simp only [Act.put,List.setIfInBounds_toArray,List.set_cons_zero,List.set_cons_succ,i64_w,i32_w]
    rfl
   refine one_ (i:=1) (N:=some 20) #[true,true,true,false,false,false] rfl rfl (by kernel_rfl) (by decide) (fun K hK=>?_);refine gA Tryz.func49 #[.agg #[.string a1_0,.slice A1_1 l1_1.length c1_1],.int .i64 0,.int .i64 0] ?_;(with_reducible refine (spec_PartOf.calls a1_0 _ _ l1_1 0 0 t349 _ ?side1 ?side2 A21.out).mono ?_)
   (case side1=>repeat (first|exact (Kd.C_below HR1_1.out HB.out)|(with_reducible refine Kd.C_alloc ?_ _)|(with_reducible refine Kd.C_drewN ?_ _)|(with_reducible refine Kd.C_drew ?_)))
   (case side2=>exact HC1_1.out)
   rintro e w26 ⟨rfl,hb⟩;refine ⟨_,rfl,?_⟩;replace BK343:=am (blk_below (ks BK343) hb);replace BK344:=am (blk_below (ks BK344) hb);replace HB:=am (below_step (bs HB) hb);(try clear hb);(try clear hb2);(try clear hk);(try clear hi);refine hK.out _ _ (hb2 BK343).out (fun hHeld=>?_);clear hK K;refine nA 20 ?_;refine one_ (i:=3) (N:=some 22) #[true,true,true,true,false,false] rfl rfl (by kernel_rfl) (by decide) (fun K hK=>?_);refine gA Tryz.func50 #[.agg #[.string a1_0,.slice A1_1 l1_1.length c1_1],.int .i64 1] ?_;(with_reducible refine (spec_l05Num.calls k a1_0 _ _ l1_1 1 t350 _ ?side1 ?side2 A22.out).mono ?_)
   (case side1=>repeat (first|exact (Kd.C_below HR1_1.out HB.out)|(with_reducible refine Kd.C_alloc ?_ _)|(with_reducible refine Kd.C_drewN ?_ _)|(with_reducible refine Kd.C_drew ?_)))
   (case side2=>exact HC1_1.out)
   rintro e w27 ⟨rfl,hb⟩;refine ⟨_,rfl,?_⟩;replace BK343:=am (blk_below (ks BK343) hb);replace BK344:=am (blk_below (ks BK344) hb);replace HB:=am (below_step (bs HB) hb);(try clear hb);(try clear hb2);(try clear hk);(try clear hi);refine hK.out _ _ (hb2 BK343).out (fun hHeld=>?_);clear hK K;refine nA 22 ?_;refine pure_ (i:=4) (N:=some 23) (v:=?_) (a':=?_) #[true,true,true,true,true,false] rfl rfl (by kernel_rfl) (fun _ _ _ h=>h) (Or.inl ⟨by rfl,?_⟩) ?_ ?_
   rotate_left
   ·intro w'
    go_simp
    (with_reducible rfl)
   rotate_left
   ·simp only [Act.put,List.setIfInBounds_toArray,List.set_cons_zero,List.set_cons_succ,i64_w,i32_w]
    rfl
   refine one_ (i:=5) (N:=none) #[true,true,true,true,true,true] rfl rfl (by kernel_rfl) (by decide) (fun K hK=>?_);have hs28:w27.cell? ⟨gb344,0,none⟩=some (.int .i64 0):=(blk_cell BK344.out 0).trans rfl;have hfs28:=blk_frozen BK344.out 0;have hns28_0:=NB343_344.out;have hms28_0:=NB344_343.out;have hs29:w27.cell? ⟨gb344,1,none⟩=some (.string (⟨#[]⟩:ByteArray)):=(blk_cell BK344.out 1).trans rfl;have hfs29:=blk_frozen BK344.out 1;have hns29_0:=NB343_344.out;have hms29_0:=NB344_343.out;have hs30:w27.cell? ⟨gb344,2,none⟩=some (.int .i64 0):=(blk_cell BK344.out 2).trans rfl;have hfs30:=blk_frozen BK344.out 2;have hns30_0:=NB343_344.out;have hms30_0:=NB344_343.out;have hs31:w27.cell? ⟨gb344,3,none⟩=some (.int .i64 0):=(blk_cell BK344.out 3).trans rfl;have hfs31:=blk_frozen BK344.out 3;have hns31_0:=NB343_344.out;have hms31_0:=NB344_343.out;have hs32:w27.cell? ⟨gb344,4,none⟩=some (.string (⟨#[]⟩:ByteArray)):=(blk_cell BK344.out 4).trans rfl;have hfs32:=blk_frozen BK344.out 4;have hns32_0:=NB343_344.out;have hms32_0:=NB344_343.out;refine skip_ (w1:=?_) (by rfl) rfl ?_ ?_
   rotate_left
   ·go_simp
    rfl
   refine hK.out _ _ ⟨((cell_far (p:=⟨gb344,_,none⟩) NB343_344.out _).trans (((cell_far (p:=⟨gb344,_,none⟩) NB343_344.out _).trans (((cell_far (p:=⟨gb344,_,none⟩) NB343_344.out _).trans (((cell_far (p:=⟨gb344,_,none⟩) NB343_344.out _).trans (((cell_far (p:=⟨gb344,_,none⟩) NB343_344.out _).trans (hHeld.1)))))))))),((cell_far (p:=⟨gb344,_,none⟩) NB343_344.out _).trans (((cell_far (p:=⟨gb344,_,none⟩) NB343_344.out _).trans (((cell_far (p:=⟨gb344,_,none⟩) NB343_344.out _).trans (((cell_far (p:=⟨gb344,_,none⟩) NB343_344.out _).trans (((cell_far (p:=⟨gb344,_,none⟩) NB343_344.out _).trans (hHeld.2))))))))))⟩ (fun hHeld=>?_);clear hK K;refine done_ (by kernel_rfl) ?_
   try go_wp2
   refine bodyPost_ret (results_cell_row rfl _ _ gb344 71 #[.int .i64 0,.string t349,.int .i64 t350,.int .i64 0,.string (⟨#[]⟩:ByteArray)] (0,0) _ rfl (kp BK344) Tryz.underlying71 rfl (by kernel_rfl)) rfl ?_
   exact ⟨ff,bs HB⟩
  ·intro c20 c20b0 c20b1 H
   revert H;refine ie2 ?_ ?_
   ·intro c33b0 c33b1 H;replace H:=bo H;obtain ⟨t351,A34,H⟩:=H;replace H:=bo H;obtain ⟨t352,A35,H⟩:=H;replace H:=bo H;obtain ⟨t353,A36,H⟩:=H;replace H:=sj5 H;obtain ⟨rfl,rfl,rfl,rfl,rfl⟩:=H
    go_in
    try go_wp2_with (first|((with_reducible refine gate_dst (N:=3) rfl ?_);refine bx 3 (cs:=#[.string a1_0,.slice A1_1 l1_1.length c1_1]) (t:=62) ?_;intro gb343 hg w37 hbox hb;have BK343:=am (hbox);have GW343:=am ((gs hg (bs HB)));have GE343:=am ((gs hg (bs HB)));replace HB:=am (below_step (bs HB) hb);clear hb hbox hg)|((with_reducible refine gate_dst (N:=4) rfl ?_);refine bx 4 (cs:=#[.int .i64 0,.string (⟨#[]⟩:ByteArray),.int .i64 0,.int .i64 0,.string (⟨#[]⟩:ByteArray)]) (t:=71) ?_;intro gb344 hg w38 hbox hb;have BK344:=am (hbox);have GW344:=am ((gs hg (bs HB)));have GE344:=am ((gs hg (bs HB)));replace HB:=am (below_step (bs HB) hb);have NB343_344:=am ((gn hg (ks BK343)));have NB344_343:=am ((gm hg (ks BK343)));replace BK343:=am (blk_below (ks BK343) hb);clear hb hbox hg))
    replace BK343:=am (blk_drew BK343.out);replace BK344:=am (blk_drew BK344.out);replace HB:=am (below_drew1 HB.out);refine sta 8 (hb2 BK343) (fun hHeld=>?_);refine with_tabW spec_l05Read.tab7 spec_l05Read.bits7 (fun HT_ HW_=>?_)
    generalize w38.drew=w39 at BK343 BK344 HB hHeld ⊢
    refine tA 0 26 HT_ HW_ hHeld ?_;refine tA 2 28 HT_ HW_ hHeld ?_;refine tA 4 30 HT_ HW_ hHeld ?_;refine oA 1 27 HT_ (fun K hK=>?_);refine gA Tryz.func49 #[.agg #[.string a1_0,.slice A1_1 l1_1.length c1_1],.int .i64 0,.int .i64 0] ?_;(with_reducible refine (spec_PartOf.calls a1_0 _ _ l1_1 0 0 t351 _ ?side1 ?side2 A34.out).mono ?_)
    (case side1=>repeat (first|exact (Kd.C_below HR1_1.out HB.out)|(with_reducible refine Kd.C_alloc ?_ _)|(with_reducible refine Kd.C_drewN ?_ _)|(with_reducible refine Kd.C_drew ?_)))
    (case side2=>exact HC1_1.out)
    rintro e w40 ⟨rfl,hb⟩;refine ⟨_,rfl,?_⟩;replace BK343:=am (blk_below (ks BK343) hb);replace BK344:=am (blk_below (ks BK344) hb);replace HB:=am (below_step (bs HB) hb);(try clear hb);(try clear hb2);(try clear hk);(try clear hi);refine hK.out _ _ (hb2 BK343).out (fun hHeld=>?_);clear hK K;refine nA 27 ?_;refine oA 3 29 HT_ (fun K hK=>?_);refine gA Tryz.func50 #[.agg #[.string a1_0,.slice A1_1 l1_1.length c1_1],.int .i64 1] ?_;(with_reducible refine (spec_l05Num.calls k a1_0 _ _ l1_1 1 t352 _ ?side1 ?side2 A35.out).mono ?_)
    (case side1=>repeat (first|exact (Kd.C_below HR1_1.out HB.out)|(with_reducible refine Kd.C_alloc ?_ _)|(with_reducible refine Kd.C_drewN ?_ _)|(with_reducible refine Kd.C_drew ?_)))
    (case side2=>exact HC1_1.out)
    rintro e w41 ⟨rfl,hb⟩;refine ⟨_,rfl,?_⟩;replace BK343:=am (blk_below (ks BK343) hb);replace BK344:=am (blk_below (ks BK344) hb);replace HB:=am (below_step (bs HB) hb);(try clear hb);(try clear hb2);(try clear hk);(try clear hi);refine hK.out _ _ (hb2 BK343).out (fun hHeld=>?_);clear hK K;refine nA 29 ?_;refine oA 5 31 HT_ (fun K hK=>?_);refine gA Tryz.func49 #[.agg #[.string a1_0,.slice A1_1 l1_1.length c1_1],.int .i64 2,.int .i64 0] ?_;(with_reducible refine (spec_PartOf.calls a1_0 _ _ l1_1 2 0 t353 _ ?side1 ?side2 A36.out).mono ?_)
    (case side1=>repeat (first|exact (Kd.C_below HR1_1.out HB.out)|(with_reducible refine Kd.C_alloc ?_ _)|(with_reducible refine Kd.C_drewN ?_ _)|(with_reducible refine Kd.C_drew ?_)))
    (case side2=>exact HC1_1.out)
    rintro e w42 ⟨rfl,hb⟩;refine ⟨_,rfl,?_⟩;replace BK343:=am (blk_below (ks BK343) hb);replace BK344:=am (blk_below (ks BK344) hb);replace HB:=am (below_step (bs HB) hb);(try clear hb);(try clear hb2);(try clear hk);(try clear hi);refine hK.out _ _ (hb2 BK343).out (fun hHeld=>?_);clear hK K;refine nA 31 ?_;refine pA 6 32 HT_ ?_;refine one_ (i:=7) (N:=none) #[true,true,true,true,true,true,true,true] rfl rfl (one_of HT_.out (by kernel_rfl)) (by decide) (fun K hK=>?_);have hs43:w42.cell? ⟨gb344,0,none⟩=some (.int .i64 0):=(blk_cell BK344.out 0).trans rfl;have hfs43:=blk_frozen BK344.out 0;have hns43_0:=NB343_344.out;have hms43_0:=NB344_343.out;have hs44:w42.cell? ⟨gb344,1,none⟩=some (.string (⟨#[]⟩:ByteArray)):=(blk_cell BK344.out 1).trans rfl;have hfs44:=blk_frozen BK344.out 1;have hns44_0:=NB343_344.out;have hms44_0:=NB344_343.out;have hs45:w42.cell? ⟨gb344,2,none⟩=some (.int .i64 0):=(blk_cell BK344.out 2).trans rfl;have hfs45:=blk_frozen BK344.out 2;have hns45_0:=NB343_344.out;have hms45_0:=NB344_343.out;have hs46:w42.cell? ⟨gb344,3,none⟩=some (.int .i64 0):=(blk_cell BK344.out 3).trans rfl;have hfs46:=blk_frozen BK344.out 3;have hns46_0:=NB343_344.out;have hms46_0:=NB344_343.out;have hs47:w42.cell? ⟨gb344,4,none⟩=some (.string (⟨#[]⟩:ByteArray)):=(blk_cell BK344.out 4).trans rfl;have hfs47:=blk_frozen BK344.out 4;have hns47_0:=NB343_344.out;have hms47_0:=NB344_343.out;refine skip_ (w1:=?_) (by rfl) rfl ?_ ?_
    rotate_left
    ·go_simp
     rfl
    refine hK.out _ _ ⟨((cell_far (p:=⟨gb344,_,none⟩) NB343_344.out _).trans (((cell_far (p:=⟨gb344,_,none⟩) NB343_344.out _).trans (((cell_far (p:=⟨gb344,_,none⟩) NB343_344.out _).trans (((cell_far (p:=⟨gb344,_,none⟩) NB343_344.out _).trans (((cell_far (p:=⟨gb344,_,none⟩) NB343_344.out _).trans (hHeld.1)))))))))),((cell_far (p:=⟨gb344,_,none⟩) NB343_344.out _).trans (((cell_far (p:=⟨gb344,_,none⟩) NB343_344.out _).trans (((cell_far (p:=⟨gb344,_,none⟩) NB343_344.out _).trans (((cell_far (p:=⟨gb344,_,none⟩) NB343_344.out _).trans (((cell_far (p:=⟨gb344,_,none⟩) NB343_344.out _).trans (hHeld.2))))))))))⟩ (fun hHeld=>?_);clear hK K;refine done_ (done_of HT_.out (by kernel_rfl)) ?_
    try go_wp2
    refine bodyPost_ret (results_cell_row rfl _ _ gb344 71 #[.int .i64 0,.string t351,.int .i64 t352,.int .i64 0,.string t353] (0,0) _ rfl (kp BK344) Tryz.underlying71 rfl (by kernel_rfl)) rfl ?_
    exact ⟨ff,bs HB⟩
   ·intro c33 c33b0 c33b1 H
    revert H;refine ie2 ?_ ?_
    ·intro c48b0 c48b1 H;replace H:=bo H;obtain ⟨t354,A49,H⟩:=H;replace H:=bo H;obtain ⟨t355,A50,H⟩:=H;replace H:=bo H;obtain ⟨t356,A51,H⟩:=H;replace H:=sj5 H;obtain ⟨rfl,rfl,rfl,rfl,rfl⟩:=H
     go_in
     try go_wp2_with (first|((with_reducible refine gate_dst (N:=3) rfl ?_);refine bx 3 (cs:=#[.string a1_0,.slice A1_1 l1_1.length c1_1]) (t:=62) ?_;intro gb343 hg w52 hbox hb;have BK343:=am (hbox);have GW343:=am ((gs hg (bs HB)));have GE343:=am ((gs hg (bs HB)));replace HB:=am (below_step (bs HB) hb);clear hb hbox hg)|((with_reducible refine gate_dst (N:=4) rfl ?_);refine bx 4 (cs:=#[.int .i64 0,.string (⟨#[]⟩:ByteArray),.int .i64 0,.int .i64 0,.string (⟨#[]⟩:ByteArray)]) (t:=71) ?_;intro gb344 hg w53 hbox hb;have BK344:=am (hbox);have GW344:=am ((gs hg (bs HB)));have GE344:=am ((gs hg (bs HB)));replace HB:=am (below_step (bs HB) hb);have NB343_344:=am ((gn hg (ks BK343)));have NB344_343:=am ((gm hg (ks BK343)));replace BK343:=am (blk_below (ks BK343) hb);clear hb hbox hg))
     replace BK343:=am (blk_drew BK343.out);replace BK344:=am (blk_drew BK344.out);replace HB:=am (below_drew1 HB.out);refine sta 8 (hb2 BK343) (fun hHeld=>?_);refine with_tabW spec_l05Read.tab9 spec_l05Read.bits9 (fun HT_ HW_=>?_)
     generalize w53.drew=w54 at BK343 BK344 HB hHeld ⊢
     refine tA 0 35 HT_ HW_ hHeld ?_;refine tA 2 37 HT_ HW_ hHeld ?_;refine tA 4 39 HT_ HW_ hHeld ?_;refine oA 1 36 HT_ (fun K hK=>?_);refine gA Tryz.func50 #[.agg #[.string a1_0,.slice A1_1 l1_1.length c1_1],.int .i64 0] ?_;(with_reducible refine (spec_l05Num.calls k a1_0 _ _ l1_1 0 t354 _ ?side1 ?side2 A49.out).mono ?_)
     (case side1=>repeat (first|exact (Kd.C_below HR1_1.out HB.out)|(with_reducible refine Kd.C_alloc ?_ _)|(with_reducible refine Kd.C_drewN ?_ _)|(with_reducible refine Kd.C_drew ?_)))
     (case side2=>exact HC1_1.out)
     rintro e w55 ⟨rfl,hb⟩;refine ⟨_,rfl,?_⟩;replace BK343:=am (blk_below (ks BK343) hb);replace BK344:=am (blk_below (ks BK344) hb);replace HB:=am (below_step (bs HB) hb);(try clear hb);(try clear hb2);(try clear hk);(try clear hi);refine hK.out _ _ (hb2 BK343).out (fun hHeld=>?_);clear hK K;refine nA 36 ?_;refine oA 3 38 HT_ (fun K hK=>?_);refine gA Tryz.func50 #[.agg #[.string a1_0,.slice A1_1 l1_1.length c1_1],.int .i64 1] ?_;(with_reducible refine (spec_l05Num.calls k a1_0 _ _ l1_1 1 t355 _ ?side1 ?side2 A50.out).mono ?_)
     (case side1=>repeat (first|exact (Kd.C_below HR1_1.out HB.out)|(with_reducible refine Kd.C_alloc ?_ _)|(with_reducible refine Kd.C_drewN ?_ _)|(with_reducible refine Kd.C_drew ?_)))
     (case side2=>exact HC1_1.out)
     rintro e w56 ⟨rfl,hb⟩;refine ⟨_,rfl,?_⟩;replace BK343:=am (blk_below (ks BK343) hb);replace BK344:=am (blk_below (ks BK344) hb);replace HB:=am (below_step (bs HB) hb);(try clear hb);(try clear hb2);(try clear hk);(try clear hi);refine hK.out _ _ (hb2 BK343).out (fun hHeld=>?_);clear hK K;refine nA 38 ?_;refine oA 5 40 HT_ (fun K hK=>?_);refine gA Tryz.func50 #[.agg #[.string a1_0,.slice A1_1 l1_1.length c1_1],.int .i64 2] ?_;(with_reducible refine (spec_l05Num.calls k a1_0 _ _ l1_1 2 t356 _ ?side1 ?side2 A51.out).mono ?_)
     (case side1=>repeat (first|exact (Kd.C_below HR1_1.out HB.out)|(with_reducible refine Kd.C_alloc ?_ _)|(with_reducible refine Kd.C_drewN ?_ _)|(with_reducible refine Kd.C_drew ?_)))
     (case side2=>exact HC1_1.out)
     rintro e w57 ⟨rfl,hb⟩;refine ⟨_,rfl,?_⟩;replace BK343:=am (blk_below (ks BK343) hb);replace BK344:=am (blk_below (ks BK344) hb);replace HB:=am (below_step (bs HB) hb);(try clear hb);(try clear hb2);(try clear hk);(try clear hi);refine hK.out _ _ (hb2 BK343).out (fun hHeld=>?_);clear hK K;refine nA 40 ?_;refine pA 6 41 HT_ ?_;refine one_ (i:=7) (N:=none) #[true,true,true,true,true,true,true,true] rfl rfl (one_of HT_.out (by kernel_rfl)) (by decide) (fun K hK=>?_);have hs58:w57.cell? ⟨gb344,0,none⟩=some (.int .i64 0):=(blk_cell BK344.out 0).trans rfl;have hfs58:=blk_frozen BK344.out 0;have hns58_0:=NB343_344.out;have hms58_0:=NB344_343.out;have hs59:w57.cell? ⟨gb344,1,none⟩=some (.string (⟨#[]⟩:ByteArray)):=(blk_cell BK344.out 1).trans rfl;have hfs59:=blk_frozen BK344.out 1;have hns59_0:=NB343_344.out;have hms59_0:=NB344_343.out;have hs60:w57.cell? ⟨gb344,2,none⟩=some (.int .i64 0):=(blk_cell BK344.out 2).trans rfl;have hfs60:=blk_frozen BK344.out 2;have hns60_0:=NB343_344.out;have hms60_0:=NB344_343.out;have hs61:w57.cell? ⟨gb344,3,none⟩=some (.int .i64 0):=(blk_cell BK344.out 3).trans rfl;have hfs61:=blk_frozen BK344.out 3;have hns61_0:=NB343_344.out;have hms61_0:=NB344_343.out;have hs62:w57.cell? ⟨gb344,4,none⟩=some (.string (⟨#[]⟩:ByteArray)):=(blk_cell BK344.out 4).trans rfl;have hfs62:=blk_frozen BK344.out 4;have hns62_0:=NB343_344.out;have hms62_0:=NB344_343.out;refine skip_ (w1:=?_) (by rfl) rfl ?_ ?_
     rotate_left
     ·go_simp
      rfl
     refine hK.out _ _ ⟨((cell_far (p:=⟨gb344,_,none⟩) NB343_344.out _).trans (((cell_far (p:=⟨gb344,_,none⟩) NB343_344.out _).trans (((cell_far (p:=⟨gb344,_,none⟩) NB343_344.out _).trans (((cell_far (p:=⟨gb344,_,none⟩) NB343_344.out _).trans (((cell_far (p:=⟨gb344,_,none⟩) NB343_344.out _).trans (hHeld.1)))))))))),((cell_far (p:=⟨gb344,_,none⟩) NB343_344.out _).trans (((cell_far (p:=⟨gb344,_,none⟩) NB343_344.out _).trans (((cell_far (p:=⟨gb344,_,none⟩) NB343_344.out _).trans (((cell_far (p:=⟨gb344,_,none⟩) NB343_344.out _).trans (((cell_far (p:=⟨gb344,_,none⟩) NB343_344.out _).trans (hHeld.2))))))))))⟩ (fun hHeld=>?_);clear hK K;refine done_ (done_of HT_.out (by kernel_rfl)) ?_
     try go_wp2
     refine bodyPost_ret (results_cell_row rfl _ _ gb344 71 #[.int .i64 t354,.string (⟨#[]⟩:ByteArray),.int .i64 t355,.int .i64 t356,.string (⟨#[]⟩:ByteArray)] (0,0) _ rfl (kp BK344) Tryz.underlying71 rfl (by kernel_rfl)) rfl ?_
     exact ⟨ff,bs HB⟩
    ·intro c48 c48b0 c48b1 H;replace H:=bo H;obtain ⟨t357,A63,H⟩:=H;replace H:=bo H;obtain ⟨t358,A64,H⟩:=H;replace H:=bo H;obtain ⟨t359,A65,H⟩:=H;replace H:=sj5 H;obtain ⟨rfl,rfl,rfl,rfl,rfl⟩:=H
     go_in
     try go_wp2_with (first|((with_reducible refine gate_dst (N:=3) rfl ?_);refine bx 3 (cs:=#[.string a1_0,.slice A1_1 l1_1.length c1_1]) (t:=62) ?_;intro gb343 hg w66 hbox hb;have BK343:=am (hbox);have GW343:=am ((gs hg (bs HB)));have GE343:=am ((gs hg (bs HB)));replace HB:=am (below_step (bs HB) hb);clear hb hbox hg)|((with_reducible refine gate_dst (N:=4) rfl ?_);refine bx 4 (cs:=#[.int .i64 0,.string (⟨#[]⟩:ByteArray),.int .i64 0,.int .i64 0,.string (⟨#[]⟩:ByteArray)]) (t:=71) ?_;intro gb344 hg w67 hbox hb;have BK344:=am (hbox);have GW344:=am ((gs hg (bs HB)));have GE344:=am ((gs hg (bs HB)));replace HB:=am (below_step (bs HB) hb);have NB343_344:=am ((gn hg (ks BK343)));have NB344_343:=am ((gm hg (ks BK343)));replace BK343:=am (blk_below (ks BK343) hb);clear hb hbox hg))
     replace BK343:=am (blk_drew BK343.out);replace BK344:=am (blk_drew BK344.out);replace HB:=am (below_drew1 HB.out);refine sta 8 (hb2 BK343) (fun hHeld=>?_);refine with_tabW spec_l05Read.tab10 spec_l05Read.bits10 (fun HT_ HW_=>?_)
     generalize w67.drew=w68 at BK343 BK344 HB hHeld ⊢
     refine tA 0 42 HT_ HW_ hHeld ?_;refine tA 2 44 HT_ HW_ hHeld ?_;refine tA 4 46 HT_ HW_ hHeld ?_;refine oA 1 43 HT_ (fun K hK=>?_);refine gA Tryz.func50 #[.agg #[.string a1_0,.slice A1_1 l1_1.length c1_1],.int .i64 0] ?_;(with_reducible refine (spec_l05Num.calls k a1_0 _ _ l1_1 0 t357 _ ?side1 ?side2 A63.out).mono ?_)
     (case side1=>repeat (first|exact (Kd.C_below HR1_1.out HB.out)|(with_reducible refine Kd.C_alloc ?_ _)|(with_reducible refine Kd.C_drewN ?_ _)|(with_reducible refine Kd.C_drew ?_)))
     (case side2=>exact HC1_1.out)
     rintro e w69 ⟨rfl,hb⟩;refine ⟨_,rfl,?_⟩;replace BK343:=am (blk_below (ks BK343) hb);replace BK344:=am (blk_below (ks BK344) hb);replace HB:=am (below_step (bs HB) hb);(try clear hb);(try clear hb2);(try clear hk);(try clear hi);refine hK.out _ _ (hb2 BK343).out (fun hHeld=>?_);clear hK K;refine nA 43 ?_;refine oA 3 45 HT_ (fun K hK=>?_);refine gA Tryz.func50 #[.agg #[.string a1_0,.slice A1_1 l1_1.length c1_1],.int .i64 1] ?_;(with_reducible refine (spec_l05Num.calls k a1_0 _ _ l1_1 1 t358 _ ?side1 ?side2 A64.out).mono ?_)
     (case side1=>repeat (first|exact (Kd.C_below HR1_1.out HB.out)|(with_reducible refine Kd.C_alloc ?_ _)|(with_reducible refine Kd.C_drewN ?_ _)|(with_reducible refine Kd.C_drew ?_)))
     (case side2=>exact HC1_1.out)
     rintro e w70 ⟨rfl,hb⟩;refine ⟨_,rfl,?_⟩;replace BK343:=am (blk_below (ks BK343) hb);replace BK344:=am (blk_below (ks BK344) hb);replace HB:=am (below_step (bs HB) hb);(try clear hb);(try clear hb2);(try clear hk);(try clear hi);refine hK.out _ _ (hb2 BK343).out (fun hHeld=>?_);clear hK K;refine nA 45 ?_;refine oA 5 47 HT_ (fun K hK=>?_);refine gA Tryz.func49 #[.agg #[.string a1_0,.slice A1_1 l1_1.length c1_1],.int .i64 2,.int .i64 0] ?_;(with_reducible refine (spec_PartOf.calls a1_0 _ _ l1_1 2 0 t359 _ ?side1 ?side2 A65.out).mono ?_)
     (case side1=>repeat (first|exact (Kd.C_below HR1_1.out HB.out)|(with_reducible refine Kd.C_alloc ?_ _)|(with_reducible refine Kd.C_drewN ?_ _)|(with_reducible refine Kd.C_drew ?_)))
     (case side2=>exact HC1_1.out)
     rintro e w71 ⟨rfl,hb⟩;refine ⟨_,rfl,?_⟩;replace BK343:=am (blk_below (ks BK343) hb);replace BK344:=am (blk_below (ks BK344) hb);replace HB:=am (below_step (bs HB) hb);(try clear hb);(try clear hb2);(try clear hk);(try clear hi);refine hK.out _ _ (hb2 BK343).out (fun hHeld=>?_);clear hK K;refine nA 47 ?_;refine pA 6 48 HT_ ?_;refine one_ (i:=7) (N:=none) #[true,true,true,true,true,true,true,true] rfl rfl (one_of HT_.out (by kernel_rfl)) (by decide) (fun K hK=>?_);have hs72:w71.cell? ⟨gb344,0,none⟩=some (.int .i64 0):=(blk_cell BK344.out 0).trans rfl;have hfs72:=blk_frozen BK344.out 0;have hns72_0:=NB343_344.out;have hms72_0:=NB344_343.out;have hs73:w71.cell? ⟨gb344,1,none⟩=some (.string (⟨#[]⟩:ByteArray)):=(blk_cell BK344.out 1).trans rfl;have hfs73:=blk_frozen BK344.out 1;have hns73_0:=NB343_344.out;have hms73_0:=NB344_343.out;have hs74:w71.cell? ⟨gb344,2,none⟩=some (.int .i64 0):=(blk_cell BK344.out 2).trans rfl;have hfs74:=blk_frozen BK344.out 2;have hns74_0:=NB343_344.out;have hms74_0:=NB344_343.out;have hs75:w71.cell? ⟨gb344,3,none⟩=some (.int .i64 0):=(blk_cell BK344.out 3).trans rfl;have hfs75:=blk_frozen BK344.out 3;have hns75_0:=NB343_344.out;have hms75_0:=NB344_343.out;have hs76:w71.cell? ⟨gb344,4,none⟩=some (.string (⟨#[]⟩:ByteArray)):=(blk_cell BK344.out 4).trans rfl;have hfs76:=blk_frozen BK344.out 4;have hns76_0:=NB343_344.out;have hms76_0:=NB344_343.out;refine skip_ (w1:=?_) (by rfl) rfl ?_ ?_
     rotate_left
     ·go_simp
      rfl
     refine hK.out _ _ ⟨((cell_far (p:=⟨gb344,_,none⟩) NB343_344.out _).trans (((cell_far (p:=⟨gb344,_,none⟩) NB343_344.out _).trans (((cell_far (p:=⟨gb344,_,none⟩) NB343_344.out _).trans (((cell_far (p:=⟨gb344,_,none⟩) NB343_344.out _).trans (((cell_far (p:=⟨gb344,_,none⟩) NB343_344.out _).trans (hHeld.1)))))))))),((cell_far (p:=⟨gb344,_,none⟩) NB343_344.out _).trans (((cell_far (p:=⟨gb344,_,none⟩) NB343_344.out _).trans (((cell_far (p:=⟨gb344,_,none⟩) NB343_344.out _).trans (((cell_far (p:=⟨gb344,_,none⟩) NB343_344.out _).trans (((cell_far (p:=⟨gb344,_,none⟩) NB343_344.out _).trans (hHeld.2))))))))))⟩ (fun hHeld=>?_);clear hK K;refine done_ (done_of HT_.out (by kernel_rfl)) ?_
     try go_wp2
     refine bodyPost_ret (results_cell_row rfl _ _ gb344 71 #[.int .i64 t357,.string (⟨#[]⟩:ByteArray),.int .i64 t358,.int .i64 0,.string t359] (0,0) _ rfl (kp BK344) Tryz.underlying71 rfl (by kernel_rfl)) rfl ?_
     exact ⟨ff,bs HB⟩
set_option maxHeartbeats 8000000 in
set_option maxRecDepth 100000 in
theorem spec_l05Numbered.calls (a0:Int) (r:Bool) (w:World) (H:spec_l05Numbered.f a0=some r) :
  Calls Tryz.prog 53 #[.int .i64 a0] w fun e w'=>e=.returned (.bool r)∧Drawn0 w w':=by
 unfold spec_l05Numbered.f at H
 revert H;refine ip2 ?_ ?_
 ·intro c2 H;have c2b0:decide (1≤a0)=true:=decide_eq_true c2;clear c2;obtain rfl:=si H
  go_in
  go_wp2
  go_ret
  exact ⟨fg,by repeat (first|exact Drawn0.refl _|apply Drawn0.step)⟩
 ·intro c2 H;have c2b0:decide (1≤a0)=false:=decide_eq_false c2;clear c2;obtain rfl:=si H
  go_in
  go_wp2
  go_ret
  exact ⟨fg,by repeat (first|exact Drawn0.refl _|apply Drawn0.step)⟩
set_option maxHeartbeats 8000000 in
set_option maxRecDepth 100000 in
theorem spec_l05Own.calls (a0:Int) (r:Bool) (w:World) (H:spec_l05Own.f a0=some r) :
  Calls Tryz.prog 54 #[.int .i64 a0] w fun e w'=>e=.returned (.bool r)∧Drawn0 w w':=by
 unfold spec_l05Own.f at H
 revert H;refine ie2 ?_ ?_
 ·intro c2b0 c2b1 H;obtain rfl:=si H
  go_in
  go_wp2
  go_ret
  exact ⟨fg,by repeat (first|exact Drawn0.refl _|apply Drawn0.step)⟩
 ·intro c2 c2b0 c2b1 H
  revert H;refine ie2 ?_ ?_
  ·intro c3b0 c3b1 H;obtain rfl:=si H
   go_in
   go_wp2
   go_ret
   exact ⟨fg,by repeat (first|exact Drawn0.refl _|apply Drawn0.step)⟩
  ·intro c3 c3b0 c3b1 H;obtain rfl:=si H
   go_in
   go_wp2
   go_ret
   exact ⟨fg,by repeat (first|exact Drawn0.refl _|apply Drawn0.step)⟩
set_option maxHeartbeats 8000000 in
set_option maxRecDepth 100000 in
theorem spec_l03SameSeg.calls (k:Nat) (a0_0:ByteArray) (A0_1:Option Addr) (c0_1:Nat) (l0_1:List (S103)) (a1_0:ByteArray) (A1_1:Option Addr) (c1_1:Nat) (l1_1:List (S103)) (r:Bool) (w:World) (hr0_1:Kd.C k103 w A0_1 l0_1.length l0_1) (hc0_1:l0_1.length≤c0_1) (hr1_1:Kd.C k103 w A1_1 l1_1.length l1_1) (hc1_1:l1_1.length≤c1_1) (H:spec_l03SameSeg.f k a0_0 l0_1 a1_0 l1_1=some r) :
  Calls Tryz.prog 55 #[.agg #[.string a0_0,.slice A0_1 l0_1.length c0_1],.agg #[.string a1_0,.slice A1_1 l1_1.length c1_1]] w fun e w'=>e=.returned (.bool r)∧Below w.heap.size w w':=by
 have hu62:=Tryz.underlying62;have HR0_1:=am hr0_1;have HC0_1:=am hc0_1;clear hr0_1 hc0_1;have HR1_1:=am hr1_1;have HC1_1:=am hc1_1;clear hr1_1 hc1_1;have HB:=am (Below.refl w.heap.size w);unfold spec_l03SameSeg.f at H;have HC3:=am H;clear H
 go_in
 go_upto_region 1 with (first|((with_reducible refine gate_dst (N:=2) rfl ?_);(try (refine gate_guard (by rfl) ?_;dsimp only));refine bx 2 (cs:=#[.string a0_0,.slice A0_1 l0_1.length c0_1]) (t:=62) ?_;intro gb360 hg w4 hbox hb;have BK360:=am (hbox);have GW360:=am ((gs hg (bs HB)));have GE360:=am ((gs hg (bs HB)));replace HB:=am (below_step (bs HB) hb);clear hb hbox hg)|((with_reducible refine gate_dst (N:=3) rfl ?_);(try (refine gate_guard (by rfl) ?_;dsimp only));refine bx 3 (cs:=#[.string a1_0,.slice A1_1 l1_1.length c1_1]) (t:=62) ?_;intro gb361 hg w5 hbox hb;have BK361:=am (hbox);have GW361:=am ((gs hg (bs HB)));have GE361:=am ((gs hg (bs HB)));replace HB:=am (below_step (bs HB) hb);have NB360_361:=am ((gn hg (ks BK360)));have NB361_360:=am ((gm hg (ks BK360)));replace BK360:=am (blk_below (ks BK360) hb);clear hb hbox hg))
 repeat (go_quiet (first|((with_reducible refine gate_dst (N:=2) rfl ?_);(try (refine gate_guard (by rfl) ?_;dsimp only));refine bx 2 (cs:=#[.string a0_0,.slice A0_1 l0_1.length c0_1]) (t:=62) ?_;intro gb360 hg w4 hbox hb;have BK360:=am (hbox);have GW360:=am ((gs hg (bs HB)));have GE360:=am ((gs hg (bs HB)));replace HB:=am (below_step (bs HB) hb);clear hb hbox hg)|((with_reducible refine gate_dst (N:=3) rfl ?_);(try (refine gate_guard (by rfl) ?_;dsimp only));refine bx 3 (cs:=#[.string a1_0,.slice A1_1 l1_1.length c1_1]) (t:=62) ?_;intro gb361 hg w5 hbox hb;have BK361:=am (hbox);have GW361:=am ((gs hg (bs HB)));have GE361:=am ((gs hg (bs HB)));replace HB:=am (below_step (bs HB) hb);have NB360_361:=am ((gn hg (ks BK360)));have NB361_360:=am ((gm hg (ks BK360)));replace BK360:=am (blk_below (ks BK360) hb);clear hb hbox hg));go_upto_region 1 with (first|((with_reducible refine gate_dst (N:=2) rfl ?_);(try (refine gate_guard (by rfl) ?_;dsimp only));refine bx 2 (cs:=#[.string a0_0,.slice A0_1 l0_1.length c0_1]) (t:=62) ?_;intro gb360 hg w4 hbox hb;have BK360:=am (hbox);have GW360:=am ((gs hg (bs HB)));have GE360:=am ((gs hg (bs HB)));replace HB:=am (below_step (bs HB) hb);clear hb hbox hg)|((with_reducible refine gate_dst (N:=3) rfl ?_);(try (refine gate_guard (by rfl) ?_;dsimp only));refine bx 3 (cs:=#[.string a1_0,.slice A1_1 l1_1.length c1_1]) (t:=62) ?_;intro gb361 hg w5 hbox hb;have BK361:=am (hbox);have GW361:=am ((gs hg (bs HB)));have GE361:=am ((gs hg (bs HB)));replace HB:=am (below_step (bs HB) hb);have NB360_361:=am ((gn hg (ks BK360)));have NB361_360:=am ((gm hg (ks BK360)));replace BK360:=am (blk_below (ks BK360) hb);clear hb hbox hg)))
 (try simp only [Act.put,List.setIfInBounds_toArray,List.set_cons_zero,List.set_cons_succ])
 go_cut [20] (fun v20 wc=>∃ (kq:Nat) (x20_2:Bool),v20=.bool x20_2∧Aside0 (spec_l03SameSeg.j0 kq x20_2 a0_0 l0_1 a1_0 l1_1=some r)∧Aside0 (kq≤k)∧Aside0 (wc.heap[gb360]? = some (.cells #[.string a0_0,(.slice A0_1 l0_1.length c0_1)] 62 (0,0)))∧Aside0 (wc.heap[gb361]? = some (.cells #[.string a1_0,(.slice A1_1 l1_1.length c1_1)] 62 (0,0)))∧Aside0 (Below w.heap.size w wc))
 case first =>
  have H:=HC3.out;clear HC3
  revert H;refine ie2 ?_ ?_
  ·intro c6b0 c6b1 H
   (first|rw [c6b0]|(simp only [i64_w,i32_w];rw [c6b0])|rw [c6b1]|skip)
   have H':=am H;clear H;have hnb7:=NB360_361.out;have hnc7:=NB361_360.out;have hcz8:=cf2 BK360;have hcz9:=cf2 BK361
   go_wp2
   repeat (go_quiet (fail);try go_wp2)
   go_meet
   case rel=>exact ⟨_,(((l0_1.length:Int) != (l1_1.length:Int))),fg,H',⟨fl⟩,⟨ks BK360⟩,⟨ks BK361⟩,⟨bs HB⟩⟩
  ·intro c6 c6b0 c6b1 H
   (first|rw [c6b0]|(simp only [i64_w,i32_w];rw [c6b0])|rw [c6b1]|skip)
   have H':=am H;clear H;have hnb10:=NB360_361.out;have hnc10:=NB361_360.out;have hcz11:=cf2 BK360;have hcz12:=cf2 BK361
   go_wp2
   repeat (go_quiet (fail);try go_wp2)
   go_meet
   case rel=>exact ⟨_,(true),fg,H',⟨fl⟩,⟨ks BK360⟩,⟨ks BK361⟩,⟨bs HB⟩⟩
 case rest =>
  clear HC3
  obtain ⟨kq,x20_2,rfl,HA,HJ2,BK360,BK361,HB⟩:=hcut
  cases kq with
  | zero=>exact absurd HA.out (by simp [spec_l03SameSeg.j0])
  | succ kj2 =>
   have H:=HA.out;clear HA;simp only [spec_l03SameSeg.j0] at H
   obtain rfl|rfl:=bt x20_2
   ·replace H:=itT H;obtain rfl:=si H
    go_wp2
    repeat (go_quiet (fail);try go_wp2)
    go_ret
    exact ⟨ff,bs HB⟩
   ·replace H:=itF H;have H':=am H;clear H
    go_wp2
    repeat (go_quiet (fail);try go_wp2)
    go_loopg [5] kj2 (fun kq v5 w'=>∃ (x5_2:Int),v5=.int .i64 x5_2∧Aside0 (spec_l03SameSeg.l0 kq x5_2 a0_0 l0_1 a1_0 l1_1=some r)∧Aside0 (kq≤kj2)∧Aside0 (w'.heap[gb360]? = some (.cells #[.string a0_0,(.slice A0_1 l0_1.length c0_1)] 62 (0,0)))∧Aside0 (w'.heap[gb361]? = some (.cells #[.string a1_0,(.slice A1_1 l1_1.length c1_1)] 62 (0,0)))∧Aside0 (Below w.heap.size w w'))
    case atStart=>exact ⟨(0),fg,H',⟨Nat.le_refl _⟩,⟨ks BK360⟩,⟨ks BK361⟩,⟨bs HB⟩⟩
    case round =>
     clear H'
     obtain ⟨x5_2,rfl,HA,HK2,BK360,BK361,HB⟩:=hrel
     cases gk with
     | zero=>exact absurd HA.out (by simp [spec_l03SameSeg.l0])
     | succ k2 =>
      have H:=HA.out;clear HA;simp only [spec_l03SameSeg.l0] at H
      revert H;refine id2 ?_ ?_
      ·intro c14b0 H
       revert H;refine id1 ?_
       intro c15b0 H
       revert H;refine id1 ?_
       intro c16b0 H
       revert H;refine ie2k ?_ ?_
       ·intro c17 c17b0 c17b1 H
        have c17b2:(((rd_T103 l0_1 x5_2).f0).length == ((rd_T103 l1_1 x5_2).f0).length)=true:=by first|simpa using c17|(simp at c17 ⊢;omega)
        clear c17;have H':=am H;clear H;have hnb18:=NB360_361.out;have hnc18:=NB361_360.out;have hcz19:=cf2 BK360;have p362:0≤(x5_2:Int):=oa;have q362:x5_2<(l0_1.length:Int):=oa;obtain ⟨ad362,A362_0,c362_0,e362,hx362_0,hl362_0,hi362_0⟩:=at_T103 HR0_1.out x5_2 p362 q362
        cases e362
        replace hx362_0:=cb HB hx362_0;have HR362_0:=am hi362_0;have HC362_0:=am hl362_0;clear hi362_0 hl362_0;replace p362:=eq_true p362;replace q362:=eq_true q362;have hcz20:=cf2 BK361;have p363:0≤(x5_2:Int):=oa;have q363:x5_2<(l1_1.length:Int):=oa;obtain ⟨ad363,A363_0,c363_0,e363,hx363_0,hl363_0,hi363_0⟩:=at_T103 HR1_1.out x5_2 p363 q363
        cases e363
        replace hx363_0:=cb HB hx363_0;have HR363_0:=am hi363_0;have HC363_0:=am hl363_0;clear hi363_0 hl363_0;replace p363:=eq_true p363;replace q363:=eq_true q363
        go_wp2
        repeat (go_quiet (fail);try go_wp2)
        go_loopg [6] k2 (fun kq v6 w'=>∃ (x6_3:Int),v6=.int .i64 x6_3∧Aside0 (spec_l03SameSeg.l1 kq x5_2 x6_3 a0_0 l0_1 a1_0 l1_1=some r)∧Aside0 (kq≤k2)∧Aside0 (w'.heap[gb360]? = some (.cells #[.string a0_0,(.slice (some ad362) l0_1.length c0_1)] 62 (0,0)))∧Aside0 (w'.heap[gb361]? = some (.cells #[.string a1_0,(.slice (some ad363) l1_1.length c1_1)] 62 (0,0)))∧Aside0 (Below w.heap.size w w'))
        case atStart=>exact ⟨(0),fg,H',⟨Nat.le_refl _⟩,⟨ks BK360⟩,⟨ks BK361⟩,⟨bs HB⟩⟩
        case round =>
         clear H'
         try clear c14b0
         try clear c15b0
         try clear c16b0
         try clear c17
         try clear c17b0
         try clear c17b1
         try clear c17b2
         try clear hcz19
         try clear hcz20
         try clear hx362_0
         try clear hx363_0
         try clear p362
         try clear p363
         try clear q362
         try clear q363
         obtain ⟨x6_3,rfl,HA,HK3,BK360,BK361,HB⟩:=hrel
         cases gk with
         | zero=>exact absurd HA.out (by simp [spec_l03SameSeg.l1])
         | succ k3 =>
          have H:=HA.out;clear HA;simp only [spec_l03SameSeg.l1] at H
          revert H;refine id1 ?_
          intro c21b0 H
          revert H;refine id1 ?_
          intro c22b0 H
          revert H;refine id2 ?_ ?_
          ·intro c23b0 H
           revert H;refine id1 ?_
           intro c24b0 H
           revert H;refine id1 ?_
           intro c25b0 H
           revert H;refine id1 ?_
           intro c26b0 H
           revert H;refine ie2 ?_ ?_
           ·intro c27b0 c27b1 H;have H':=am H;clear H;have hnb28:=NB360_361.out;have hnc28:=NB361_360.out;have hcz29:=cf2 BK360;have p364:0≤(x5_2:Int):=oa;have q364:x5_2<(l0_1.length:Int):=oa;obtain ⟨ad364,A364_0,c364_0,e364,hx364_0,hl364_0,hi364_0⟩:=at_T103 HR0_1.out x5_2 p364 q364;obtain rfl:ad362=ad364:=(by injection e364);replace hx364_0:=cb HB hx364_0;have HR364_0:=am hi364_0;have HC364_0:=am hl364_0;clear hi364_0 hl364_0;replace p364:=eq_true p364;replace q364:=eq_true q364;have p365:0≤(x5_2:Int):=oa;have q365:x5_2<(l0_1.length:Int):=oa;obtain ⟨ad365,A365_0,c365_0,e365,hx365_0,hl365_0,hi365_0⟩:=at_T103 HR0_1.out x5_2 p365 q365;obtain rfl:ad362=ad365:=(by injection e365);replace hx365_0:=cb HB hx365_0;have HR365_0:=am hi365_0;have HC365_0:=am hl365_0;clear hi365_0 hl365_0;replace p365:=eq_true p365;replace q365:=eq_true q365;(try (have ea_:=Option.some.inj (hx364_0.symm.trans hx365_0);injection ea_ with ea_ en_ ec_;subst ea_;subst ec_;clear en_));have p366:0≤(x6_3:Int):=oa;have q366:x6_3<(((rd_T103 l0_1 x5_2).f0).length:Int):=oa;obtain ⟨ad366,e366,hx366_0⟩:=Kd.at_string HR365_0.out x6_3 p366 q366
            cases e366
            replace hx366_0:=cb HB hx366_0;replace p366:=eq_true p366;replace q366:=eq_true q366;have hcz30:=cf2 BK361;have p367:0≤(x5_2:Int):=oa;have q367:x5_2<(l1_1.length:Int):=oa;obtain ⟨ad367,A367_0,c367_0,e367,hx367_0,hl367_0,hi367_0⟩:=at_T103 HR1_1.out x5_2 p367 q367;obtain rfl:ad363=ad367:=(by injection e367);replace hx367_0:=cb HB hx367_0;have HR367_0:=am hi367_0;have HC367_0:=am hl367_0;clear hi367_0 hl367_0;replace p367:=eq_true p367;replace q367:=eq_true q367;have p368:0≤(x6_3:Int):=oa;have q368:x6_3<(((rd_T103 l1_1 x5_2).f0).length:Int):=oa;obtain ⟨ad368,e368,hx368_0⟩:=Kd.at_string HR367_0.out x6_3 p368 q368
            cases e368
            replace hx368_0:=cb HB hx368_0;replace p368:=eq_true p368;replace q368:=eq_true q368
            go_wp2
            repeat (go_quiet (fail);try go_wp2)
            go_roundg k3
            case measure=>have:=HJ2.out;have:=HK2.out;have:=HK3.out;omega
            case rel=>exact ⟨(wrap64 (x6_3+1)),fg,H',⟨by have:=HJ2.out;have:=HK2.out;have:=HK3.out;omega⟩,⟨ks BK360⟩,⟨ks BK361⟩,⟨bs HB⟩⟩
           ·intro c27 c27b0 c27b1 H;obtain rfl:=si H;have hnb31:=NB360_361.out;have hnc31:=NB361_360.out;have hcz32:=cf2 BK360;have p364:0≤(x5_2:Int):=oa;have q364:x5_2<(l0_1.length:Int):=oa;obtain ⟨ad364,A364_0,c364_0,e364,hx364_0,hl364_0,hi364_0⟩:=at_T103 HR0_1.out x5_2 p364 q364;obtain rfl:ad362=ad364:=(by injection e364);replace hx364_0:=cb HB hx364_0;have HR364_0:=am hi364_0;have HC364_0:=am hl364_0;clear hi364_0 hl364_0;replace p364:=eq_true p364;replace q364:=eq_true q364;have p365:0≤(x5_2:Int):=oa;have q365:x5_2<(l0_1.length:Int):=oa;obtain ⟨ad365,A365_0,c365_0,e365,hx365_0,hl365_0,hi365_0⟩:=at_T103 HR0_1.out x5_2 p365 q365;obtain rfl:ad362=ad365:=(by injection e365);replace hx365_0:=cb HB hx365_0;have HR365_0:=am hi365_0;have HC365_0:=am hl365_0;clear hi365_0 hl365_0;replace p365:=eq_true p365;replace q365:=eq_true q365;(try (have ea_:=Option.some.inj (hx364_0.symm.trans hx365_0);injection ea_ with ea_ en_ ec_;subst ea_;subst ec_;clear en_));have p366:0≤(x6_3:Int):=oa;have q366:x6_3<(((rd_T103 l0_1 x5_2).f0).length:Int):=oa;obtain ⟨ad366,e366,hx366_0⟩:=Kd.at_string HR365_0.out x6_3 p366 q366
            cases e366
            replace hx366_0:=cb HB hx366_0;replace p366:=eq_true p366;replace q366:=eq_true q366;have hcz33:=cf2 BK361;have p367:0≤(x5_2:Int):=oa;have q367:x5_2<(l1_1.length:Int):=oa;obtain ⟨ad367,A367_0,c367_0,e367,hx367_0,hl367_0,hi367_0⟩:=at_T103 HR1_1.out x5_2 p367 q367;obtain rfl:ad363=ad367:=(by injection e367);replace hx367_0:=cb HB hx367_0;have HR367_0:=am hi367_0;have HC367_0:=am hl367_0;clear hi367_0 hl367_0;replace p367:=eq_true p367;replace q367:=eq_true q367;have p368:0≤(x6_3:Int):=oa;have q368:x6_3<(((rd_T103 l1_1 x5_2).f0).length:Int):=oa;obtain ⟨ad368,e368,hx368_0⟩:=Kd.at_string HR367_0.out x6_3 p368 q368
            cases e368
            replace hx368_0:=cb HB hx368_0;replace p368:=eq_true p368;replace q368:=eq_true q368
            go_wp2
            repeat (go_quiet (fail);try go_wp2)
            go_ret
            exact ⟨ff,bs HB⟩
          ·intro c23b0 H;have H':=am H;clear H;have hnb34:=NB360_361.out;have hnc34:=NB361_360.out;have hcz35:=cf2 BK360;have p364:0≤(x5_2:Int):=oa;have q364:x5_2<(l0_1.length:Int):=oa;obtain ⟨ad364,A364_0,c364_0,e364,hx364_0,hl364_0,hi364_0⟩:=at_T103 HR0_1.out x5_2 p364 q364;obtain rfl:ad362=ad364:=(by injection e364);replace hx364_0:=cb HB hx364_0;have HR364_0:=am hi364_0;have HC364_0:=am hl364_0;clear hi364_0 hl364_0;replace p364:=eq_true p364;replace q364:=eq_true q364
           go_wp2
           repeat (go_quiet (fail);try go_wp2)
           go_roundg k3
           case measure=>have:=HJ2.out;have:=HK2.out;have:=HK3.out;omega
           case rel=>exact ⟨(wrap64 (x5_2+1)),fg,H',⟨by have:=HJ2.out;have:=HK2.out;have:=HK3.out;omega⟩,⟨ks BK360⟩,⟨ks BK361⟩,⟨bs HB⟩⟩
       ·intro c17 c17b0 c17b1 H
        have c17b2:(((rd_T103 l0_1 x5_2).f0).length == ((rd_T103 l1_1 x5_2).f0).length)=false:=by first|simpa using c17|(simp at c17 ⊢;omega)
        obtain rfl:=si H;have hnb36:=NB360_361.out;have hnc36:=NB361_360.out;have hcz37:=cf2 BK360;have p362:0≤(x5_2:Int):=oa;have q362:x5_2<(l0_1.length:Int):=oa;obtain ⟨ad362,A362_0,c362_0,e362,hx362_0,hl362_0,hi362_0⟩:=at_T103 HR0_1.out x5_2 p362 q362
        cases e362
        replace hx362_0:=cb HB hx362_0;have HR362_0:=am hi362_0;have HC362_0:=am hl362_0;clear hi362_0 hl362_0;replace p362:=eq_true p362;replace q362:=eq_true q362;have hcz38:=cf2 BK361;have p363:0≤(x5_2:Int):=oa;have q363:x5_2<(l1_1.length:Int):=oa;obtain ⟨ad363,A363_0,c363_0,e363,hx363_0,hl363_0,hi363_0⟩:=at_T103 HR1_1.out x5_2 p363 q363
        cases e363
        replace hx363_0:=cb HB hx363_0;have HR363_0:=am hi363_0;have HC363_0:=am hl363_0;clear hi363_0 hl363_0;replace p363:=eq_true p363;replace q363:=eq_true q363
        go_wp2
        repeat (go_quiet (fail);try go_wp2)
        go_ret
        exact ⟨ff,bs HB⟩
      ·intro c14b0 H;obtain rfl:=si H;have hnb39:=NB360_361.out;have hnc39:=NB361_360.out;have hcz40:=cf2 BK360
       go_wp2
       repeat (go_quiet (fail);try go_wp2)
       go_ret
       exact ⟨ff,bs HB⟩
end Go.Proofs.YtogkcllenfkdmaaGreatDoor.QR
