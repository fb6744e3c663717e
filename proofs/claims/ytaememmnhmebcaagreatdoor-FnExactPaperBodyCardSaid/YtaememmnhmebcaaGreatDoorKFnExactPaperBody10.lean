-- Merged by a program of this session (wip/tool/pack.py) out of its own texts for this claim.
import Derived.Test.YtaememmnhmebcaaGreatDoorKFnExactPaperBody9
set_option maxHeartbeats 8000000
set_option maxRecDepth 100000
set_option linter.unusedSimpArgs false
set_option linter.unusedVariables false
namespace Go.Proofs.YtaememmnhmebcaaGreatDoor.QB
open Go.RowKit Go.Proofs.YtaememmnhmebcaaGreatDoorW.PrintWords Go.Proofs.YtaememmnhmebcaaGreatDoorW.PrintLast Go.Proofs.YtaememmnhmebcaaGreatDoorW.PrintMore
attribute [local go_sem] max2_int min2_int max_two min_two max_three min_three max_four min_four   -- for this text's walks alone
def spec_l05Read.T3:Bool × List (List Nat × List Nat):=(true,[([],[]),([0],[0]),([],[]),([2,1],[2]),([],[]),([4,3],[4]),([],[]),([6,5],[6]),([1,3,5,7],[1,3,5,7]),([8,7,0,1,2,3,4,5,6,7,8],[8])])
def spec_l05Read.B3:List Nat:=[0,1,0,7,0,31,0,127,255,511]
theorem spec_l05Read.tab3:rtab .any (opsOf Tryz.f57 3)=spec_l05Read.T3:=by kernel_rfl
theorem spec_l05Read.bits3:waitsOk spec_l05Read.T3.2 spec_l05Read.B3=true:=by kernel_rfl
def spec_l05Read.T7:Bool × List (List Nat × List Nat):=(true,[([],[]),([0],[0]),([],[]),([2,1],[2]),([],[]),([4,3],[4]),([1,3,5],[1,3,5]),([6,5,0,1,2,3,4,5,6],[6])])
def spec_l05Read.B7:List Nat:=[0,1,0,7,0,31,63,127]
theorem spec_l05Read.tab7:rtab .any (opsOf Tryz.f57 7)=spec_l05Read.T7:=by kernel_rfl
theorem spec_l05Read.bits7:waitsOk spec_l05Read.T7.2 spec_l05Read.B7=true:=by kernel_rfl
def spec_l05Read.T9:Bool × List (List Nat × List Nat):=(true,[([],[]),([0],[0]),([],[]),([2,1],[2]),([],[]),([4,3],[4]),([1,3,5],[1,3,5]),([6,5,0,1,2,3,4,5,6],[6])])
def spec_l05Read.B9:List Nat:=[0,1,0,7,0,31,63,127]
theorem spec_l05Read.tab9:rtab .any (opsOf Tryz.f57 9)=spec_l05Read.T9:=by kernel_rfl
theorem spec_l05Read.bits9:waitsOk spec_l05Read.T9.2 spec_l05Read.B9=true:=by kernel_rfl
def spec_l05Read.T10:Bool × List (List Nat × List Nat):=(true,[([],[]),([0],[0]),([],[]),([2,1],[2]),([],[]),([4,3],[4]),([1,3,5],[1,3,5]),([6,5,0,1,2,3,4,5,6],[6])])
def spec_l05Read.B10:List Nat:=[0,1,0,7,0,31,63,127]
theorem spec_l05Read.tab10:rtab .any (opsOf Tryz.f57 10)=spec_l05Read.T10:=by kernel_rfl
theorem spec_l05Read.bits10:waitsOk spec_l05Read.T10.2 spec_l05Read.B10=true:=by kernel_rfl
theorem spec_l05Read.calls (k:Nat) (a0:Int) (a1_0:ByteArray) (A1_1:Option Addr) (c1_1:Nat) (l1_1:List (S77)) (r1:Int) (r2:ByteArray) (r3:Int) (r4:Int) (r5:ByteArray) (w:World) (hr1_1:Kd.C k77 w A1_1 l1_1.length l1_1) (hc1_1:l1_1.length≤c1_1) (H:spec_l05Read.f k a0 a1_0 l1_1=some (r1,r2,r3,r4,r5)) :
  Calls Tryz.prog 57 #[.int .i64 a0,.agg #[.string a1_0,.slice A1_1 l1_1.length c1_1]] w fun e w'=>e=.returned (.agg #[.int .i64 r1,.string r2,.int .i64 r3,.int .i64 r4,.string r5])∧Below w.heap.size w w':=by
 have hu46:=Tryz.underlying46;have hu63:=Tryz.underlying63;have HR1_1:=am hr1_1;have HC1_1:=am hc1_1;clear hr1_1 hc1_1;have HB:=am (Below.refl w.heap.size w);unfold spec_l05Read.f at H
 revert H;refine ie2 ?_ ?_
 ·intro c3b0 c3b1 H;replace H:=bo H;obtain ⟨t80,A4,H⟩:=H;replace H:=bo H;obtain ⟨t81,A5,H⟩:=H;replace H:=bo H;obtain ⟨t82,A6,H⟩:=H;replace H:=bo H;obtain ⟨t83,A7,H⟩:=H;replace H:=sj5 H;obtain ⟨rfl,rfl,rfl,rfl,rfl⟩:=H
  go_in
  try go_wp2_with (first|((with_reducible refine gate_dst (N:=3) rfl ?_);refine bz 3 (cs:=#[.string a1_0,.slice A1_1 l1_1.length c1_1]) (t:=46) HB ?_;clear HB;intro gb79 hg w8 BK79 GW79 hb HB;clear hb hg)|((with_reducible refine gate_dst (N:=4) rfl ?_);refine bz 4 (cs:=#[.int .i64 0,.string (⟨#[]⟩:ByteArray),.int .i64 0,.int .i64 0,.string (⟨#[]⟩:ByteArray)]) (t:=63) HB ?_;clear HB;intro gb78 hg w9 BK78 GW78 hb HB;have NB79_78:=na hg BK79;have NB78_79:=nc hg BK79;replace BK79:=bb BK79 hb;clear hb hg))
  replace BK79:=am (blk_drew BK79.out);replace BK78:=am (blk_drew BK78.out);replace HB:=am (below_drew1 HB.out);refine sta 10 (hb2 BK79) (fun hHeld=>?_);refine with_tabW spec_l05Read.tab3 spec_l05Read.bits3 (fun HT_ HW_=>?_)
  generalize w9.drew=w10 at BK79 BK78 HB hHeld ⊢
  refine ta 0 ?_;refine ta 2 ?_;refine ta 4 ?_;refine ta 6 ?_;refine oA 1 9 HT_ (fun K hK=>?_);refine gA Tryz.func56 #[.agg #[.string a1_0,.slice A1_1 l1_1.length c1_1],.int .i64 0] ?_;(with_reducible refine (spec_l05Num.calls k a1_0 _ _ l1_1 0 t80 _ ?side1 ?side2 A4.out).mono ?_)
  (case side1=>exact sd (Kd.C_below HR1_1.out HB.out))
  (case side2=>exact HC1_1.out)
  rintro e w11 ⟨rfl,hb⟩;refine ⟨_,rfl,?_⟩;replace BK79:=bb BK79 hb;replace BK78:=bb BK78 hb;replace HB:=bq HB hb;(try clear hb);(try clear hb2);(try clear hk);(try clear hi);refine hK.out _ _ (hb2 BK79).out (fun hHeld=>?_);clear hK K;refine nA 9 ?_;refine oA 3 11 HT_ (fun K hK=>?_);refine gA Tryz.func55 #[.agg #[.string a1_0,.slice A1_1 l1_1.length c1_1],.int .i64 1,.int .i64 0] ?_;(with_reducible refine (spec_PartOf.calls a1_0 _ _ l1_1 1 0 t81 _ ?side1 ?side2 A5.out).mono ?_)
  (case side1=>exact sd (Kd.C_below HR1_1.out HB.out))
  (case side2=>exact HC1_1.out)
  rintro e w12 ⟨rfl,hb⟩;refine ⟨_,rfl,?_⟩;replace BK79:=bb BK79 hb;replace BK78:=bb BK78 hb;replace HB:=bq HB hb;(try clear hb);(try clear hb2);(try clear hk);(try clear hi);refine hK.out _ _ (hb2 BK79).out (fun hHeld=>?_);clear hK K;refine nA 11 ?_;refine oA 5 13 HT_ (fun K hK=>?_);refine gA Tryz.func56 #[.agg #[.string a1_0,.slice A1_1 l1_1.length c1_1],.int .i64 2] ?_;(with_reducible refine (spec_l05Num.calls k a1_0 _ _ l1_1 2 t82 _ ?side1 ?side2 A6.out).mono ?_)
  (case side1=>exact sd (Kd.C_below HR1_1.out HB.out))
  (case side2=>exact HC1_1.out)
  rintro e w13 ⟨rfl,hb⟩;refine ⟨_,rfl,?_⟩;replace BK79:=bb BK79 hb;replace BK78:=bb BK78 hb;replace HB:=bq HB hb;(try clear hb);(try clear hb2);(try clear hk);(try clear hi);refine hK.out _ _ (hb2 BK79).out (fun hHeld=>?_);clear hK K;refine nA 13 ?_;refine oA 7 15 HT_ (fun K hK=>?_);refine gA Tryz.func56 #[.agg #[.string a1_0,.slice A1_1 l1_1.length c1_1],.int .i64 3] ?_;(with_reducible refine (spec_l05Num.calls k a1_0 _ _ l1_1 3 t83 _ ?side1 ?side2 A7.out).mono ?_)
  (case side1=>exact sd (Kd.C_below HR1_1.out HB.out))
  (case side2=>exact HC1_1.out)
  rintro e w14 ⟨rfl,hb⟩;refine ⟨_,rfl,?_⟩;replace BK79:=bb BK79 hb;replace BK78:=bb BK78 hb;replace HB:=bq HB hb;(try clear hb);(try clear hb2);(try clear hk);(try clear hi);refine hK.out _ _ (hb2 BK79).out (fun hHeld=>?_);clear hK K;refine nA 15 ?_;refine pz1 8 ?_;refine one_ (i:=9) (N:=none) #[true,true,true,true,true,true,true,true,true,true] rfl rfl (one_of HT_.out (by kernel_rfl)) (by decide) (fun K hK=>?_);have hs15:w14.cell? ⟨gb78,0,none⟩=some (.int .i64 0):=(blk_cell BK78.out 0).trans rfl;have hfs15:=blk_frozen BK78.out 0;have hns15_0:=NB79_78.out;have hms15_0:=NB78_79.out;have hs16:w14.cell? ⟨gb78,1,none⟩=some (.string (⟨#[]⟩:ByteArray)):=(blk_cell BK78.out 1).trans rfl;have hfs16:=blk_frozen BK78.out 1;have hns16_0:=NB79_78.out;have hms16_0:=NB78_79.out;have hs17:w14.cell? ⟨gb78,2,none⟩=some (.int .i64 0):=(blk_cell BK78.out 2).trans rfl;have hfs17:=blk_frozen BK78.out 2;have hns17_0:=NB79_78.out;have hms17_0:=NB78_79.out;have hs18:w14.cell? ⟨gb78,3,none⟩=some (.int .i64 0):=(blk_cell BK78.out 3).trans rfl;have hfs18:=blk_frozen BK78.out 3;have hns18_0:=NB79_78.out;have hms18_0:=NB78_79.out;have hs19:w14.cell? ⟨gb78,4,none⟩=some (.string (⟨#[]⟩:ByteArray)):=(blk_cell BK78.out 4).trans rfl;have hfs19:=blk_frozen BK78.out 4;have hns19_0:=NB79_78.out;have hms19_0:=NB78_79.out;refine skip_ (w1:=?_) (by rfl) rfl ?_ ?_
  rotate_left
  ·go_simp
   rfl
  refine hK.out _ _ ⟨((cell_far (p:=⟨gb78,_,none⟩) NB79_78.out _).trans (((cell_far (p:=⟨gb78,_,none⟩) NB79_78.out _).trans (((cell_far (p:=⟨gb78,_,none⟩) NB79_78.out _).trans (((cell_far (p:=⟨gb78,_,none⟩) NB79_78.out _).trans (((cell_far (p:=⟨gb78,_,none⟩) NB79_78.out _).trans (hHeld.1)))))))))),((cell_far (p:=⟨gb78,_,none⟩) NB79_78.out _).trans (((cell_far (p:=⟨gb78,_,none⟩) NB79_78.out _).trans (((cell_far (p:=⟨gb78,_,none⟩) NB79_78.out _).trans (((cell_far (p:=⟨gb78,_,none⟩) NB79_78.out _).trans (((cell_far (p:=⟨gb78,_,none⟩) NB79_78.out _).trans (hHeld.2))))))))))⟩ (fun hHeld=>?_);clear hK K;refine done_ (done_of HT_.out (by kernel_rfl)) ?_
  try go_wp2
  refine bodyPost_ret (results_cell_row rfl _ _ gb78 63 #[.int .i64 t80,.string t81,.int .i64 t82,.int .i64 t83,.string (⟨#[]⟩:ByteArray)] (0,0) _ rfl (kp BK78) Tryz.underlying63 rfl (by kernel_rfl)) rfl ?_
  exact ⟨ff,bs HB⟩
 ·intro c3 c3b0 c3b1 H
  revert H;refine ie2 ?_ ?_
  ·intro c20b0 c20b1 H;replace H:=bo H;obtain ⟨t84,A21,H⟩:=H;replace H:=bo H;obtain ⟨t85,A22,H⟩:=H;replace H:=sj5 H;obtain ⟨rfl,rfl,rfl,rfl,rfl⟩:=H
   go_in
   try go_wp2_with (first|((with_reducible refine gate_dst (N:=3) rfl ?_);refine bz 3 (cs:=#[.string a1_0,.slice A1_1 l1_1.length c1_1]) (t:=46) HB ?_;clear HB;intro gb79 hg w23 BK79 GW79 hb HB;clear hb hg)|((with_reducible refine gate_dst (N:=4) rfl ?_);refine bz 4 (cs:=#[.int .i64 0,.string (⟨#[]⟩:ByteArray),.int .i64 0,.int .i64 0,.string (⟨#[]⟩:ByteArray)]) (t:=63) HB ?_;clear HB;intro gb78 hg w24 BK78 GW78 hb HB;have NB79_78:=na hg BK79;have NB78_79:=nc hg BK79;replace BK79:=bb BK79 hb;clear hb hg))
   replace BK79:=am (blk_drew BK79.out);replace BK78:=am (blk_drew BK78.out);replace HB:=am (below_drew1 HB.out);refine sta 6 (hb2 BK79) (fun hHeld=>?_)
   generalize w24.drew=w25 at BK79 BK78 HB hHeld ⊢
   refine take_ (i:=0) (N:=some 19) (v:=?_) (a':=?_) #[true,false,false,false,false,false] rfl rfl (by kernel_rfl) (fun _ _ _ h=>h) (Or.inl ⟨by rfl,?_⟩) hHeld ?_ ?_
   rotate_left
   ·rintro w' ⟨s0,s1⟩
    go_simp
    (with_reducible rfl)
   rotate_left
   ·simp only [Act.put,List.setIfInBounds_toArray,List.set_cons_zero,List.set_cons_succ,i64_w,i32_w]
    rfl
   refine take_ (i:=2) (N:=some 21) (v:=?_) (a':=?_) #[true,false,true,false,false,false] rfl rfl (by kernel_rfl) (fun _ _ _ h=>h) (Or.inl ⟨by rfl,?_⟩) hHeld ?_ ?_
   rotate_left
   ·rintro w' ⟨s0,s1⟩
    go_simp
    (with_reducible rfl)
   rotate_left
   ·simp only [Act.put,List.setIfInBounds_toArray,List.set_cons_zero,List.set_cons_succ,i64_w,i32_w]
    rfl
   refine one_ (i:=1) (N:=some 20) #[true,true,true,false,false,false] rfl rfl (by kernel_rfl) (by decide) (fun K hK=>?_);refine gA Tryz.func55 #[.agg #[.string a1_0,.slice A1_1 l1_1.length c1_1],.int .i64 0,.int .i64 0] ?_;(with_reducible refine (spec_PartOf.calls a1_0 _ _ l1_1 0 0 t84 _ ?side1 ?side2 A21.out).mono ?_)
   (case side1=>exact sd (Kd.C_below HR1_1.out HB.out))
   (case side2=>exact HC1_1.out)
   rintro e w26 ⟨rfl,hb⟩;refine ⟨_,rfl,?_⟩;replace BK79:=bb BK79 hb;replace BK78:=bb BK78 hb;replace HB:=bq HB hb;(try clear hb);(try clear hb2);(try clear hk);(try clear hi);refine hK.out _ _ (hb2 BK79).out (fun hHeld=>?_);clear hK K;refine nA 20 ?_;refine one_ (i:=3) (N:=some 22) #[true,true,true,true,false,false] rfl rfl (by kernel_rfl) (by decide) (fun K hK=>?_);refine gA Tryz.func56 #[.agg #[.string a1_0,.slice A1_1 l1_1.length c1_1],.int .i64 1] ?_;(with_reducible refine (spec_l05Num.calls k a1_0 _ _ l1_1 1 t85 _ ?side1 ?side2 A22.out).mono ?_)
   (case side1=>exact sd (Kd.C_below HR1_1.out HB.out))
   (case side2=>exact HC1_1.out)
   rintro e w27 ⟨rfl,hb⟩;refine ⟨_,rfl,?_⟩;replace BK79:=bb BK79 hb;replace BK78:=bb BK78 hb;replace HB:=bq HB hb;(try clear hb);(try clear hb2);(try clear hk);(try clear hi);refine hK.out _ _ (hb2 BK79).out (fun hHeld=>?_);clear hK K;refine nA 22 ?_;refine pure_ (i:=4) (N:=some 23) (v:=?_) (a':=?_) #[true,true,true,true,true,false] rfl rfl (by kernel_rfl) (fun _ _ _ h=>h) (Or.inl ⟨by rfl,?_⟩) ?_ ?_
   rotate_left
   ·intro w'
    go_simp
    (with_reducible rfl)
   rotate_left
   ·simp only [Act.put,List.setIfInBounds_toArray,List.set_cons_zero,List.set_cons_succ,i64_w,i32_w]
    rfl
   refine one_ (i:=5) (N:=none) #[true,true,true,true,true,true] rfl rfl (by kernel_rfl) (by decide) (fun K hK=>?_);have hs28:w27.cell? ⟨gb78,0,none⟩=some (.int .i64 0):=(blk_cell BK78.out 0).trans rfl;have hfs28:=blk_frozen BK78.out 0;have hns28_0:=NB79_78.out;have hms28_0:=NB78_79.out;have hs29:w27.cell? ⟨gb78,1,none⟩=some (.string (⟨#[]⟩:ByteArray)):=(blk_cell BK78.out 1).trans rfl;have hfs29:=blk_frozen BK78.out 1;have hns29_0:=NB79_78.out;have hms29_0:=NB78_79.out;have hs30:w27.cell? ⟨gb78,2,none⟩=some (.int .i64 0):=(blk_cell BK78.out 2).trans rfl;have hfs30:=blk_frozen BK78.out 2;have hns30_0:=NB79_78.out;have hms30_0:=NB78_79.out;have hs31:w27.cell? ⟨gb78,3,none⟩=some (.int .i64 0):=(blk_cell BK78.out 3).trans rfl;have hfs31:=blk_frozen BK78.out 3;have hns31_0:=NB79_78.out;have hms31_0:=NB78_79.out;have hs32:w27.cell? ⟨gb78,4,none⟩=some (.string (⟨#[]⟩:ByteArray)):=(blk_cell BK78.out 4).trans rfl;have hfs32:=blk_frozen BK78.out 4;have hns32_0:=NB79_78.out;have hms32_0:=NB78_79.out;refine skip_ (w1:=?_) (by rfl) rfl ?_ ?_
   rotate_left
   ·go_simp
    rfl
   refine hK.out _ _ ⟨((cell_far (p:=⟨gb78,_,none⟩) NB79_78.out _).trans (((cell_far (p:=⟨gb78,_,none⟩) NB79_78.out _).trans (((cell_far (p:=⟨gb78,_,none⟩) NB79_78.out _).trans (((cell_far (p:=⟨gb78,_,none⟩) NB79_78.out _).trans (((cell_far (p:=⟨gb78,_,none⟩) NB79_78.out _).trans (hHeld.1)))))))))),((cell_far (p:=⟨gb78,_,none⟩) NB79_78.out _).trans (((cell_far (p:=⟨gb78,_,none⟩) NB79_78.out _).trans (((cell_far (p:=⟨gb78,_,none⟩) NB79_78.out _).trans (((cell_far (p:=⟨gb78,_,none⟩) NB79_78.out _).trans (((cell_far (p:=⟨gb78,_,none⟩) NB79_78.out _).trans (hHeld.2))))))))))⟩ (fun hHeld=>?_);clear hK K;refine done_ (by kernel_rfl) ?_
   try go_wp2
   refine bodyPost_ret (results_cell_row rfl _ _ gb78 63 #[.int .i64 0,.string t84,.int .i64 t85,.int .i64 0,.string (⟨#[]⟩:ByteArray)] (0,0) _ rfl (kp BK78) Tryz.underlying63 rfl (by kernel_rfl)) rfl ?_
   exact ⟨ff,bs HB⟩
  ·intro c20 c20b0 c20b1 H
   revert H;refine ie2 ?_ ?_
   ·intro c33b0 c33b1 H;replace H:=bo H;obtain ⟨t86,A34,H⟩:=H;replace H:=bo H;obtain ⟨t87,A35,H⟩:=H;replace H:=bo H;obtain ⟨t88,A36,H⟩:=H;replace H:=sj5 H;obtain ⟨rfl,rfl,rfl,rfl,rfl⟩:=H
    go_in
    try go_wp2_with (first|((with_reducible refine gate_dst (N:=3) rfl ?_);refine bz 3 (cs:=#[.string a1_0,.slice A1_1 l1_1.length c1_1]) (t:=46) HB ?_;clear HB;intro gb79 hg w37 BK79 GW79 hb HB;clear hb hg)|((with_reducible refine gate_dst (N:=4) rfl ?_);refine bz 4 (cs:=#[.int .i64 0,.string (⟨#[]⟩:ByteArray),.int .i64 0,.int .i64 0,.string (⟨#[]⟩:ByteArray)]) (t:=63) HB ?_;clear HB;intro gb78 hg w38 BK78 GW78 hb HB;have NB79_78:=na hg BK79;have NB78_79:=nc hg BK79;replace BK79:=bb BK79 hb;clear hb hg))
    replace BK79:=am (blk_drew BK79.out);replace BK78:=am (blk_drew BK78.out);replace HB:=am (below_drew1 HB.out);refine sta 8 (hb2 BK79) (fun hHeld=>?_);refine with_tabW spec_l05Read.tab7 spec_l05Read.bits7 (fun HT_ HW_=>?_)
    generalize w38.drew=w39 at BK79 BK78 HB hHeld ⊢
    refine ta 0 ?_;refine ta 2 ?_;refine ta 4 ?_;refine oA 1 27 HT_ (fun K hK=>?_);refine gA Tryz.func55 #[.agg #[.string a1_0,.slice A1_1 l1_1.length c1_1],.int .i64 0,.int .i64 0] ?_;(with_reducible refine (spec_PartOf.calls a1_0 _ _ l1_1 0 0 t86 _ ?side1 ?side2 A34.out).mono ?_)
    (case side1=>exact sd (Kd.C_below HR1_1.out HB.out))
    (case side2=>exact HC1_1.out)
    rintro e w40 ⟨rfl,hb⟩;refine ⟨_,rfl,?_⟩;replace BK79:=bb BK79 hb;replace BK78:=bb BK78 hb;replace HB:=bq HB hb;(try clear hb);(try clear hb2);(try clear hk);(try clear hi);refine hK.out _ _ (hb2 BK79).out (fun hHeld=>?_);clear hK K;refine nA 27 ?_;refine oA 3 29 HT_ (fun K hK=>?_);refine gA Tryz.func56 #[.agg #[.string a1_0,.slice A1_1 l1_1.length c1_1],.int .i64 1] ?_;(with_reducible refine (spec_l05Num.calls k a1_0 _ _ l1_1 1 t87 _ ?side1 ?side2 A35.out).mono ?_)
    (case side1=>exact sd (Kd.C_below HR1_1.out HB.out))
    (case side2=>exact HC1_1.out)
    rintro e w41 ⟨rfl,hb⟩;refine ⟨_,rfl,?_⟩;replace BK79:=bb BK79 hb;replace BK78:=bb BK78 hb;replace HB:=bq HB hb;(try clear hb);(try clear hb2);(try clear hk);(try clear hi);refine hK.out _ _ (hb2 BK79).out (fun hHeld=>?_);clear hK K;refine nA 29 ?_;refine oA 5 31 HT_ (fun K hK=>?_);refine gA Tryz.func55 #[.agg #[.string a1_0,.slice A1_1 l1_1.length c1_1],.int .i64 2,.int .i64 0] ?_;(with_reducible refine (spec_PartOf.calls a1_0 _ _ l1_1 2 0 t88 _ ?side1 ?side2 A36.out).mono ?_)
    (case side1=>exact sd (Kd.C_below HR1_1.out HB.out))
    (case side2=>exact HC1_1.out)
    rintro e w42 ⟨rfl,hb⟩;refine ⟨_,rfl,?_⟩;replace BK79:=bb BK79 hb;replace BK78:=bb BK78 hb;replace HB:=bq HB hb;(try clear hb);(try clear hb2);(try clear hk);(try clear hi);refine hK.out _ _ (hb2 BK79).out (fun hHeld=>?_);clear hK K;refine nA 31 ?_;refine pz1 6 ?_;refine one_ (i:=7) (N:=none) #[true,true,true,true,true,true,true,true] rfl rfl (one_of HT_.out (by kernel_rfl)) (by decide) (fun K hK=>?_);have hs43:w42.cell? ⟨gb78,0,none⟩=some (.int .i64 0):=(blk_cell BK78.out 0).trans rfl;have hfs43:=blk_frozen BK78.out 0;have hns43_0:=NB79_78.out;have hms43_0:=NB78_79.out;have hs44:w42.cell? ⟨gb78,1,none⟩=some (.string (⟨#[]⟩:ByteArray)):=(blk_cell BK78.out 1).trans rfl;have hfs44:=blk_frozen BK78.out 1;have hns44_0:=NB79_78.out;have hms44_0:=NB78_79.out;have hs45:w42.cell? ⟨gb78,2,none⟩=some (.int .i64 0):=(blk_cell BK78.out 2).trans rfl;have hfs45:=blk_frozen BK78.out 2;have hns45_0:=NB79_78.out;have hms45_0:=NB78_79.out;have hs46:w42.cell? ⟨gb78,3,none⟩=some (.int .i64 0):=(blk_cell BK78.out 3).trans rfl;have hfs46:=blk_frozen BK78.out 3;have hns46_0:=NB79_78.out;have hms46_0:=NB78_79.out;have hs47:w42.cell? ⟨gb78,4,none⟩=some (.string (⟨#[]⟩:ByteArray)):=(blk_cell BK78.out 4).trans rfl;have hfs47:=blk_frozen BK78.out 4;have hns47_0:=NB79_78.out;have hms47_0:=NB78_79.out;refine skip_ (w1:=?_) (by rfl) rfl ?_ ?_
    rotate_left
    ·go_simp
     rfl
    refine hK.out _ _ ⟨((cell_far (p:=⟨gb78,_,none⟩) NB79_78.out _).trans (((cell_far (p:=⟨gb78,_,none⟩) NB79_78.out _).trans (((cell_far (p:=⟨gb78,_,none⟩) NB79_78.out _).trans (((cell_far (p:=⟨gb78,_,none⟩) NB79_78.out _).trans (((cell_far (p:=⟨gb78,_,none⟩) NB79_78.out _).trans (hHeld.1)))))))))),((cell_far (p:=⟨gb78,_,none⟩) NB79_78.out _).trans (((cell_far (p:=⟨gb78,_,none⟩) NB79_78.out _).trans (((cell_far (p:=⟨gb78,_,none⟩) NB79_78.out _).trans (((cell_far (p:=⟨gb78,_,none⟩) NB79_78.out _).trans (((cell_far (p:=⟨gb78,_,none⟩) NB79_78.out _).trans (hHeld.2))))))))))⟩ (fun hHeld=>?_);clear hK K;refine done_ (done_of HT_.out (by kernel_rfl)) ?_
    try go_wp2
    refine bodyPost_ret (results_cell_row rfl _ _ gb78 63 #[.int .i64 0,.string t86,.int .i64 t87,.int .i64 0,.string t88] (0,0) _ rfl (kp BK78) Tryz.underlying63 rfl (by kernel_rfl)) rfl ?_
    exact ⟨ff,bs HB⟩
   ·intro c33 c33b0 c33b1 H
    revert H;refine ie2 ?_ ?_
    ·intro c48b0 c48b1 H;replace H:=bo H;obtain ⟨t89,A49,H⟩:=H;replace H:=bo H;obtain ⟨t90,A50,H⟩:=H;replace H:=bo H;obtain ⟨t91,A51,H⟩:=H;replace H:=sj5 H;obtain ⟨rfl,rfl,rfl,rfl,rfl⟩:=H
     go_in
     try go_wp2_with (first|((with_reducible refine gate_dst (N:=3) rfl ?_);refine bz 3 (cs:=#[.string a1_0,.slice A1_1 l1_1.length c1_1]) (t:=46) HB ?_;clear HB;intro gb79 hg w52 BK79 GW79 hb HB;clear hb hg)|((with_reducible refine gate_dst (N:=4) rfl ?_);refine bz 4 (cs:=#[.int .i64 0,.string (⟨#[]⟩:ByteArray),.int .i64 0,.int .i64 0,.string (⟨#[]⟩:ByteArray)]) (t:=63) HB ?_;clear HB;intro gb78 hg w53 BK78 GW78 hb HB;have NB79_78:=na hg BK79;have NB78_79:=nc hg BK79;replace BK79:=bb BK79 hb;clear hb hg))
     replace BK79:=am (blk_drew BK79.out);replace BK78:=am (blk_drew BK78.out);replace HB:=am (below_drew1 HB.out);refine sta 8 (hb2 BK79) (fun hHeld=>?_);refine with_tabW spec_l05Read.tab9 spec_l05Read.bits9 (fun HT_ HW_=>?_)
     generalize w53.drew=w54 at BK79 BK78 HB hHeld ⊢
     refine ta 0 ?_;refine ta 2 ?_;refine ta 4 ?_;refine oA 1 36 HT_ (fun K hK=>?_);refine gA Tryz.func56 #[.agg #[.string a1_0,.slice A1_1 l1_1.length c1_1],.int .i64 0] ?_;(with_reducible refine (spec_l05Num.calls k a1_0 _ _ l1_1 0 t89 _ ?side1 ?side2 A49.out).mono ?_)
     (case side1=>exact sd (Kd.C_below HR1_1.out HB.out))
     (case side2=>exact HC1_1.out)
     rintro e w55 ⟨rfl,hb⟩;refine ⟨_,rfl,?_⟩;replace BK79:=bb BK79 hb;replace BK78:=bb BK78 hb;replace HB:=bq HB hb;(try clear hb);(try clear hb2);(try clear hk);(try clear hi);refine hK.out _ _ (hb2 BK79).out (fun hHeld=>?_);clear hK K;refine nA 36 ?_;refine oA 3 38 HT_ (fun K hK=>?_);refine gA Tryz.func56 #[.agg #[.string a1_0,.slice A1_1 l1_1.length c1_1],.int .i64 1] ?_;(with_reducible refine (spec_l05Num.calls k a1_0 _ _ l1_1 1 t90 _ ?side1 ?side2 A50.out).mono ?_)
     (case side1=>exact sd (Kd.C_below HR1_1.out HB.out))
     (case side2=>exact HC1_1.out)
     rintro e w56 ⟨rfl,hb⟩;refine ⟨_,rfl,?_⟩;replace BK79:=bb BK79 hb;replace BK78:=bb BK78 hb;replace HB:=bq HB hb;(try clear hb);(try clear hb2);(try clear hk);(try clear hi);refine hK.out _ _ (hb2 BK79).out (fun hHeld=>?_);clear hK K;refine nA 38 ?_;refine oA 5 40 HT_ (fun K hK=>?_);refine gA Tryz.func56 #[.agg #[.string a1_0,.slice A1_1 l1_1.length c1_1],.int .i64 2] ?_;(with_reducible refine (spec_l05Num.calls k a1_0 _ _ l1_1 2 t91 _ ?side1 ?side2 A51.out).mono ?_)
     (case side1=>exact sd (Kd.C_below HR1_1.out HB.out))
     (case side2=>exact HC1_1.out)
     rintro e w57 ⟨rfl,hb⟩;refine ⟨_,rfl,?_⟩;replace BK79:=bb BK79 hb;replace BK78:=bb BK78 hb;replace HB:=bq HB hb;(try clear hb);(try clear hb2);(try clear hk);(try clear hi);refine hK.out _ _ (hb2 BK79).out (fun hHeld=>?_);clear hK K;refine nA 40 ?_;refine pz1 6 ?_;refine one_ (i:=7) (N:=none) #[true,true,true,true,true,true,true,true] rfl rfl (one_of HT_.out (by kernel_rfl)) (by decide) (fun K hK=>?_);have hs58:w57.cell? ⟨gb78,0,none⟩=some (.int .i64 0):=(blk_cell BK78.out 0).trans rfl;have hfs58:=blk_frozen BK78.out 0;have hns58_0:=NB79_78.out;have hms58_0:=NB78_79.out;have hs59:w57.cell? ⟨gb78,1,none⟩=some (.string (⟨#[]⟩:ByteArray)):=(blk_cell BK78.out 1).trans rfl;have hfs59:=blk_frozen BK78.out 1;have hns59_0:=NB79_78.out;have hms59_0:=NB78_79.out;have hs60:w57.cell? ⟨gb78,2,none⟩=some (.int .i64 0):=(blk_cell BK78.out 2).trans rfl;have hfs60:=blk_frozen BK78.out 2;have hns60_0:=NB79_78.out;have hms60_0:=NB78_79.out;have hs61:w57.cell? ⟨gb78,3,none⟩=some (.int .i64 0):=(blk_cell BK78.out 3).trans rfl;have hfs61:=blk_frozen BK78.out 3;have hns61_0:=NB79_78.out;have hms61_0:=NB78_79.out;have hs62:w57.cell? ⟨gb78,4,none⟩=some (.string (⟨#[]⟩:ByteArray)):=(blk_cell BK78.out 4).trans rfl;have hfs62:=blk_frozen BK78.out 4;have hns62_0:=NB79_78.out;have hms62_0:=NB78_79.out;refine skip_ (w1:=?_) (by rfl) rfl ?_ ?_
     rotate_left
     ·go_simp
      rfl
     refine hK.out _ _ ⟨((cell_far (p:=⟨gb78,_,none⟩) NB79_78.out _).trans (((cell_far (p:=⟨gb78,_,none⟩) NB79_78.out _).trans (((cell_far (p:=⟨gb78,_,none⟩) NB79_78.out _).trans (((cell_far (p:=⟨gb78,_,none⟩) NB79_78.out _).trans (((cell_far (p:=⟨gb78,_,none⟩) NB79_78.out _).trans (hHeld.1)))))))))),((cell_far (p:=⟨gb78,_,none⟩) NB79_78.out _).trans (((cell_far (p:=⟨gb78,_,none⟩) NB79_78.out _).trans (((cell_far (p:=⟨gb78,_,none⟩) NB79_78.out _).trans (((cell_far (p:=⟨gb78,_,none⟩) NB79_78.out _).trans (((cell_far (p:=⟨gb78,_,none⟩) NB79_78.out _).trans (hHeld.2))))))))))⟩ (fun hHeld=>?_);clear hK K;refine done_ (done_of HT_.out (by kernel_rfl)) ?_
     try go_wp2
     refine bodyPost_ret (results_cell_row rfl _ _ gb78 63 #[.int .i64 t89,.string (⟨#[]⟩:ByteArray),.int .i64 t90,.int .i64 t91,.string (⟨#[]⟩:ByteArray)] (0,0) _ rfl (kp BK78) Tryz.underlying63 rfl (by kernel_rfl)) rfl ?_
     exact ⟨ff,bs HB⟩
    ·intro c48 c48b0 c48b1 H;replace H:=bo H;obtain ⟨t92,A63,H⟩:=H;replace H:=bo H;obtain ⟨t93,A64,H⟩:=H;replace H:=bo H;obtain ⟨t94,A65,H⟩:=H;replace H:=sj5 H;obtain ⟨rfl,rfl,rfl,rfl,rfl⟩:=H
     go_in
     try go_wp2_with (first|((with_reducible refine gate_dst (N:=3) rfl ?_);refine bz 3 (cs:=#[.string a1_0,.slice A1_1 l1_1.length c1_1]) (t:=46) HB ?_;clear HB;intro gb79 hg w66 BK79 GW79 hb HB;clear hb hg)|((with_reducible refine gate_dst (N:=4) rfl ?_);refine bz 4 (cs:=#[.int .i64 0,.string (⟨#[]⟩:ByteArray),.int .i64 0,.int .i64 0,.string (⟨#[]⟩:ByteArray)]) (t:=63) HB ?_;clear HB;intro gb78 hg w67 BK78 GW78 hb HB;have NB79_78:=na hg BK79;have NB78_79:=nc hg BK79;replace BK79:=bb BK79 hb;clear hb hg))
     replace BK79:=am (blk_drew BK79.out);replace BK78:=am (blk_drew BK78.out);replace HB:=am (below_drew1 HB.out);refine sta 8 (hb2 BK79) (fun hHeld=>?_);refine with_tabW spec_l05Read.tab10 spec_l05Read.bits10 (fun HT_ HW_=>?_)
     generalize w67.drew=w68 at BK79 BK78 HB hHeld ⊢
     refine ta 0 ?_;refine ta 2 ?_;refine ta 4 ?_;refine oA 1 43 HT_ (fun K hK=>?_);refine gA Tryz.func56 #[.agg #[.string a1_0,.slice A1_1 l1_1.length c1_1],.int .i64 0] ?_;(with_reducible refine (spec_l05Num.calls k a1_0 _ _ l1_1 0 t92 _ ?side1 ?side2 A63.out).mono ?_)
     (case side1=>exact sd (Kd.C_below HR1_1.out HB.out))
     (case side2=>exact HC1_1.out)
     rintro e w69 ⟨rfl,hb⟩;refine ⟨_,rfl,?_⟩;replace BK79:=bb BK79 hb;replace BK78:=bb BK78 hb;replace HB:=bq HB hb;(try clear hb);(try clear hb2);(try clear hk);(try clear hi);refine hK.out _ _ (hb2 BK79).out (fun hHeld=>?_);clear hK K;refine nA 43 ?_;refine oA 3 45 HT_ (fun K hK=>?_);refine gA Tryz.func56 #[.agg #[.string a1_0,.slice A1_1 l1_1.length c1_1],.int .i64 1] ?_;(with_reducible refine (spec_l05Num.calls k a1_0 _ _ l1_1 1 t93 _ ?side1 ?side2 A64.out).mono ?_)
     (case side1=>exact sd (Kd.C_below HR1_1.out HB.out))
     (case side2=>exact HC1_1.out)
     rintro e w70 ⟨rfl,hb⟩;refine ⟨_,rfl,?_⟩;replace BK79:=bb BK79 hb;replace BK78:=bb BK78 hb;replace HB:=bq HB hb;(try clear hb);(try clear hb2);(try clear hk);(try clear hi);refine hK.out _ _ (hb2 BK79).out (fun hHeld=>?_);clear hK K;refine nA 45 ?_;refine oA 5 47 HT_ (fun K hK=>?_);refine gA Tryz.func55 #[.agg #[.string a1_0,.slice A1_1 l1_1.length c1_1],.int .i64 2,.int .i64 0] ?_;(with_reducible refine (spec_PartOf.calls a1_0 _ _ l1_1 2 0 t94 _ ?side1 ?side2 A65.out).mono ?_)
     (case side1=>exact sd (Kd.C_below HR1_1.out HB.out))
     (case side2=>exact HC1_1.out)
     rintro e w71 ⟨rfl,hb⟩;refine ⟨_,rfl,?_⟩;replace BK79:=bb BK79 hb;replace BK78:=bb BK78 hb;replace HB:=bq HB hb;(try clear hb);(try clear hb2);(try clear hk);(try clear hi);refine hK.out _ _ (hb2 BK79).out (fun hHeld=>?_);clear hK K;refine nA 47 ?_;refine pz1 6 ?_;refine one_ (i:=7) (N:=none) #[true,true,true,true,true,true,true,true] rfl rfl (one_of HT_.out (by kernel_rfl)) (by decide) (fun K hK=>?_);have hs72:w71.cell? ⟨gb78,0,none⟩=some (.int .i64 0):=(blk_cell BK78.out 0).trans rfl;have hfs72:=blk_frozen BK78.out 0;have hns72_0:=NB79_78.out;have hms72_0:=NB78_79.out;have hs73:w71.cell? ⟨gb78,1,none⟩=some (.string (⟨#[]⟩:ByteArray)):=(blk_cell BK78.out 1).trans rfl;have hfs73:=blk_frozen BK78.out 1;have hns73_0:=NB79_78.out;have hms73_0:=NB78_79.out;have hs74:w71.cell? ⟨gb78,2,none⟩=some (.int .i64 0):=(blk_cell BK78.out 2).trans rfl;have hfs74:=blk_frozen BK78.out 2;have hns74_0:=NB79_78.out;have hms74_0:=NB78_79.out;have hs75:w71.cell? ⟨gb78,3,none⟩=some (.int .i64 0):=(blk_cell BK78.out 3).trans rfl;have hfs75:=blk_frozen BK78.out 3;have hns75_0:=NB79_78.out;have hms75_0:=NB78_79.out;have hs76:w71.cell? ⟨gb78,4,none⟩=some (.string (⟨#[]⟩:ByteArray)):=(blk_cell BK78.out 4).trans rfl;have hfs76:=blk_frozen BK78.out 4;have hns76_0:=NB79_78.out;have hms76_0:=NB78_79.out;refine skip_ (w1:=?_) (by rfl) rfl ?_ ?_
     rotate_left
     ·go_simp
      rfl
     refine hK.out _ _ ⟨((cell_far (p:=⟨gb78,_,none⟩) NB79_78.out _).trans (((cell_far (p:=⟨gb78,_,none⟩) NB79_78.out _).trans (((cell_far (p:=⟨gb78,_,none⟩) NB79_78.out _).trans (((cell_far (p:=⟨gb78,_,none⟩) NB79_78.out _).trans (((cell_far (p:=⟨gb78,_,none⟩) NB79_78.out _).trans (hHeld.1)))))))))),((cell_far (p:=⟨gb78,_,none⟩) NB79_78.out _).trans (((cell_far (p:=⟨gb78,_,none⟩) NB79_78.out _).trans (((cell_far (p:=⟨gb78,_,none⟩) NB79_78.out _).trans (((cell_far (p:=⟨gb78,_,none⟩) NB79_78.out _).trans (((cell_far (p:=⟨gb78,_,none⟩) NB79_78.out _).trans (hHeld.2))))))))))⟩ (fun hHeld=>?_);clear hK K;refine done_ (done_of HT_.out (by kernel_rfl)) ?_
     try go_wp2
     refine bodyPost_ret (results_cell_row rfl _ _ gb78 63 #[.int .i64 t92,.string (⟨#[]⟩:ByteArray),.int .i64 t93,.int .i64 0,.string t94] (0,0) _ rfl (kp BK78) Tryz.underlying63 rfl (by kernel_rfl)) rfl ?_
     exact ⟨ff,bs HB⟩
theorem spec_l05Numbered.calls (a0:Int) (r:Bool) (w:World) (H:spec_l05Numbered.f a0=some r) :
  Calls Tryz.prog 58 #[.int .i64 a0] w fun e w'=>e=.returned (.bool r)∧Drawn0 w w':=by
 unfold spec_l05Numbered.f at H
 revert H;refine ip2 ?_ ?_
 ·intro c2 H;have c2b0:decide (1≤a0)=true:=decide_eq_true c2;clear c2;obtain rfl:=si H
  go_in
  go_wp2
  go_ret
  exact ⟨fg,dr⟩
 ·intro c2 H;have c2b0:decide (1≤a0)=false:=decide_eq_false c2;clear c2;obtain rfl:=si H
  go_in
  go_wp2
  go_ret
  exact ⟨fg,dr⟩
theorem spec_l05Own.calls (a0:Int) (r:Bool) (w:World) (H:spec_l05Own.f a0=some r) :
  Calls Tryz.prog 59 #[.int .i64 a0] w fun e w'=>e=.returned (.bool r)∧Drawn0 w w':=by
 unfold spec_l05Own.f at H
 revert H;refine ie2 ?_ ?_
 ·intro c2b0 c2b1 H;obtain rfl:=si H
  go_in
  go_wp2
  go_ret
  exact ⟨fg,dr⟩
 ·intro c2 c2b0 c2b1 H
  revert H;refine ie2 ?_ ?_
  ·intro c3b0 c3b1 H;obtain rfl:=si H
   go_in
   go_wp2
   go_ret
   exact ⟨fg,dr⟩
  ·intro c3 c3b0 c3b1 H;obtain rfl:=si H
   go_in
   go_wp2
   go_ret
   exact ⟨fg,dr⟩
theorem spec_l03SameSeg.calls (k:Nat) (a0_0:ByteArray) (A0_1:Option Addr) (c0_1:Nat) (l0_1:List (S77)) (a1_0:ByteArray) (A1_1:Option Addr) (c1_1:Nat) (l1_1:List (S77)) (r:Bool) (w:World) (hr0_1:Kd.C k77 w A0_1 l0_1.length l0_1) (hc0_1:l0_1.length≤c0_1) (hr1_1:Kd.C k77 w A1_1 l1_1.length l1_1) (hc1_1:l1_1.length≤c1_1) (H:spec_l03SameSeg.f k a0_0 l0_1 a1_0 l1_1=some r) :
  Calls Tryz.prog 60 #[.agg #[.string a0_0,.slice A0_1 l0_1.length c0_1],.agg #[.string a1_0,.slice A1_1 l1_1.length c1_1]] w fun e w'=>e=.returned (.bool r)∧Below w.heap.size w w':=by
 have hu46:=Tryz.underlying46;have HR0_1:=am hr0_1;have HC0_1:=am hc0_1;clear hr0_1 hc0_1;have HR1_1:=am hr1_1;have HC1_1:=am hc1_1;clear hr1_1 hc1_1;have HB:=am (Below.refl w.heap.size w);unfold spec_l03SameSeg.f at H;have HC3:=am H;clear H
 go_in
 go_upto_region 1 with (first|((with_reducible refine gate_dst (N:=2) rfl ?_);(try (refine gate_guard (by rfl) ?_;dsimp only));refine bz 2 (cs:=#[.string a0_0,.slice A0_1 l0_1.length c0_1]) (t:=46) HB ?_;clear HB;intro gb41 hg w4 BK41 GW41 hb HB;clear hb hg)|((with_reducible refine gate_dst (N:=3) rfl ?_);(try (refine gate_guard (by rfl) ?_;dsimp only));refine bz 3 (cs:=#[.string a1_0,.slice A1_1 l1_1.length c1_1]) (t:=46) HB ?_;clear HB;intro gb47 hg w5 BK47 GW47 hb HB;have NB41_47:=na hg BK41;have NB47_41:=nc hg BK41;replace BK41:=bb BK41 hb;clear hb hg))
 repeat (go_quiet (first|((with_reducible refine gate_dst (N:=2) rfl ?_);(try (refine gate_guard (by rfl) ?_;dsimp only));refine bz 2 (cs:=#[.string a0_0,.slice A0_1 l0_1.length c0_1]) (t:=46) HB ?_;clear HB;intro gb41 hg w4 BK41 GW41 hb HB;clear hb hg)|((with_reducible refine gate_dst (N:=3) rfl ?_);(try (refine gate_guard (by rfl) ?_;dsimp only));refine bz 3 (cs:=#[.string a1_0,.slice A1_1 l1_1.length c1_1]) (t:=46) HB ?_;clear HB;intro gb47 hg w5 BK47 GW47 hb HB;have NB41_47:=na hg BK41;have NB47_41:=nc hg BK41;replace BK41:=bb BK41 hb;clear hb hg));go_upto_region 1 with (first|((with_reducible refine gate_dst (N:=2) rfl ?_);(try (refine gate_guard (by rfl) ?_;dsimp only));refine bz 2 (cs:=#[.string a0_0,.slice A0_1 l0_1.length c0_1]) (t:=46) HB ?_;clear HB;intro gb41 hg w4 BK41 GW41 hb HB;clear hb hg)|((with_reducible refine gate_dst (N:=3) rfl ?_);(try (refine gate_guard (by rfl) ?_;dsimp only));refine bz 3 (cs:=#[.string a1_0,.slice A1_1 l1_1.length c1_1]) (t:=46) HB ?_;clear HB;intro gb47 hg w5 BK47 GW47 hb HB;have NB41_47:=na hg BK41;have NB47_41:=nc hg BK41;replace BK41:=bb BK41 hb;clear hb hg)))
 (try simp only [Act.put,List.setIfInBounds_toArray,List.set_cons_zero,List.set_cons_succ])
 go_cut [20] (fun v20 wc=>∃ (kq:Nat) (x20_2:Bool),v20=.bool x20_2∧Aside0 (spec_l03SameSeg.j0 kq x20_2 a0_0 l0_1 a1_0 l1_1=some r)∧Aside0 (kq≤k)∧Aside0 (wc.heap[gb41]? = some (.cells #[.string a0_0,(.slice A0_1 l0_1.length c0_1)] 46 (0,0)))∧Aside0 (wc.heap[gb47]? = some (.cells #[.string a1_0,(.slice A1_1 l1_1.length c1_1)] 46 (0,0)))∧Aside0 (Below w.heap.size w wc))
 case first =>
  have H:=HC3.out;clear HC3
  revert H;refine ie2 ?_ ?_
  ·intro c6b0 c6b1 H
   (first|rw [c6b0]|(simp only [i64_w,i32_w];rw [c6b0])|rw [c6b1]|skip)
   have H':=am H;clear H;have hnb7:=NB41_47.out;have hnc7:=NB47_41.out;have hcz8:=cf2 BK41;have hcz9:=cf2 BK47
   go_wp2
   repeat (go_quiet (fail);try go_wp2)
   go_meet
   case rel=>exact ⟨_,(((l0_1.length:Int) != (l1_1.length:Int))),fg,H',⟨fl⟩,⟨ks BK41⟩,⟨ks BK47⟩,⟨bs HB⟩⟩
  ·intro c6 c6b0 c6b1 H
   (first|rw [c6b0]|(simp only [i64_w,i32_w];rw [c6b0])|rw [c6b1]|skip)
   have H':=am H;clear H;have hnb10:=NB41_47.out;have hnc10:=NB47_41.out;have hcz11:=cf2 BK41;have hcz12:=cf2 BK47
   go_wp2
   repeat (go_quiet (fail);try go_wp2)
   go_meet
   case rel=>exact ⟨_,(true),fg,H',⟨fl⟩,⟨ks BK41⟩,⟨ks BK47⟩,⟨bs HB⟩⟩
 case rest =>
  clear HC3
  obtain ⟨kq,x20_2,rfl,HA,HJ2,BK41,BK47,HB⟩:=hcut
  cases kq with
  | zero=>exact absurd HA.out (by simp [spec_l03SameSeg.j0])
  | succ kj2 =>
   have H:=HA.out;clear HA;simp only [spec_l03SameSeg.j0] at H
   obtain rfl|rfl:=bt x20_2
   ·replace H:=itT H;obtain rfl:=si H
    go_wp2
    repeat (go_quiet (fail);try go_wp2)
    go_ret
    exact ⟨ff,bs HB⟩
   ·replace H:=itF H;have H':=am H;clear H
    go_wp2
    repeat (go_quiet (fail);try go_wp2)
    go_loopg [5] kj2 (fun kq v5 w'=>∃ (x5_2:Int),v5=.int .i64 x5_2∧Aside0 (spec_l03SameSeg.l0 kq x5_2 a0_0 l0_1 a1_0 l1_1=some r)∧Aside0 (kq≤kj2)∧Aside0 (w'.heap[gb41]? = some (.cells #[.string a0_0,(.slice A0_1 l0_1.length c0_1)] 46 (0,0)))∧Aside0 (w'.heap[gb47]? = some (.cells #[.string a1_0,(.slice A1_1 l1_1.length c1_1)] 46 (0,0)))∧Aside0 (Below w.heap.size w w'))
    case atStart=>exact ⟨(0),fg,H',⟨Nat.le_refl _⟩,⟨ks BK41⟩,⟨ks BK47⟩,⟨bs HB⟩⟩
    case round =>
     clear H'
     try clear BK41
     try clear BK47
     obtain ⟨x5_2,rfl,HA,HK2,BK41,BK47,HB⟩:=hrel
     cases gk with
     | zero=>exact absurd HA.out (by simp [spec_l03SameSeg.l0])
     | succ k2 =>
      have H:=HA.out;clear HA;simp only [spec_l03SameSeg.l0] at H
      revert H;refine id2 ?_ ?_
      ·intro c14b0 H
       revert H;refine id1 ?_
       intro c15b0 H
       revert H;refine id1 ?_
       intro c16b0 H
       revert H;refine ie2k ?_ ?_
       ·intro c17 c17b0 c17b1 H
        have c17b2:(((rd_T77 l0_1 x5_2).f0).length == ((rd_T77 l1_1 x5_2).f0).length)=true:=by first|simpa using c17|(simp at c17 ⊢;omega)
        clear c17;have H':=am H;clear H;have hnb18:=NB41_47.out;have hnc18:=NB47_41.out;have hcz19:=cf2 BK41;have p42:0≤(x5_2:Int):=oa;have q42:x5_2<(l0_1.length:Int):=oa;obtain ⟨ad42,A42_0,c42_0,e42,hx42_0,hl42_0,hi42_0⟩:=at_T77 HR0_1.out x5_2 p42 q42
        cases e42
        replace hx42_0:=cb HB hx42_0;have HR42_0:=am hi42_0;have HC42_0:=am hl42_0;clear hi42_0 hl42_0;replace p42:=eq_true p42;replace q42:=eq_true q42;have hcz20:=cf2 BK47;have p43:0≤(x5_2:Int):=oa;have q43:x5_2<(l1_1.length:Int):=oa;obtain ⟨ad43,A43_0,c43_0,e43,hx43_0,hl43_0,hi43_0⟩:=at_T77 HR1_1.out x5_2 p43 q43
        cases e43
        replace hx43_0:=cb HB hx43_0;have HR43_0:=am hi43_0;have HC43_0:=am hl43_0;clear hi43_0 hl43_0;replace p43:=eq_true p43;replace q43:=eq_true q43
        go_wp2
        repeat (go_quiet (fail);try go_wp2)
        go_loopg [6] k2 (fun kq v6 w'=>∃ (x6_3:Int),v6=.int .i64 x6_3∧Aside0 (spec_l03SameSeg.l1 kq x5_2 x6_3 a0_0 l0_1 a1_0 l1_1=some r)∧Aside0 (kq≤k2)∧Aside0 (w'.heap[gb41]? = some (.cells #[.string a0_0,(.slice (some ad42) l0_1.length c0_1)] 46 (0,0)))∧Aside0 (w'.heap[gb47]? = some (.cells #[.string a1_0,(.slice (some ad43) l1_1.length c1_1)] 46 (0,0)))∧Aside0 (Below w.heap.size w w'))
        case atStart=>exact ⟨(0),fg,H',⟨Nat.le_refl _⟩,⟨ks BK41⟩,⟨ks BK47⟩,⟨bs HB⟩⟩
        case round =>
         clear H'
         try clear c14b0
         try clear c15b0
         try clear c16b0
         try clear c17
         try clear c17b0
         try clear c17b1
         try clear c17b2
         try clear hcz19
         try clear hcz20
         try clear hx42_0
         try clear hx43_0
         try clear p42
         try clear p43
         try clear q42
         try clear q43
         try clear BK41
         try clear BK47
         obtain ⟨x6_3,rfl,HA,HK3,BK41,BK47,HB⟩:=hrel
         cases gk with
         | zero=>exact absurd HA.out (by simp [spec_l03SameSeg.l1])
         | succ k3 =>
          have H:=HA.out;clear HA;simp only [spec_l03SameSeg.l1] at H
          revert H;refine id1 ?_
          intro c21b0 H
          revert H;refine id1 ?_
          intro c22b0 H
          revert H;refine id2 ?_ ?_
          ·intro c23b0 H
           revert H;refine id1 ?_
           intro c24b0 H
           revert H;refine id1 ?_
           intro c25b0 H
           revert H;refine id1 ?_
           intro c26b0 H
           revert H;refine ie2 ?_ ?_
           ·intro c27b0 c27b1 H;have H':=am H;clear H;have hnb28:=NB41_47.out;have hnc28:=NB47_41.out;have hcz29:=cf2 BK41;have p13:0≤(x5_2:Int):=oa;have q13:x5_2<(l0_1.length:Int):=oa;obtain ⟨ad13,A13_0,c13_0,e13,hx13_0,hl13_0,hi13_0⟩:=at_T77 HR0_1.out x5_2 p13 q13;obtain rfl:ad42=ad13:=(by injection e13);replace hx13_0:=cb HB hx13_0;have HR13_0:=am hi13_0;have HC13_0:=am hl13_0;clear hi13_0 hl13_0;replace p13:=eq_true p13;replace q13:=eq_true q13;have p44:0≤(x5_2:Int):=oa;have q44:x5_2<(l0_1.length:Int):=oa;obtain ⟨ad44,A44_0,c44_0,e44,hx44_0,hl44_0,hi44_0⟩:=at_T77 HR0_1.out x5_2 p44 q44;obtain rfl:ad42=ad44:=(by injection e44);replace hx44_0:=cb HB hx44_0;have HR44_0:=am hi44_0;have HC44_0:=am hl44_0;clear hi44_0 hl44_0;replace p44:=eq_true p44;replace q44:=eq_true q44;(try (have ea_:=Option.some.inj (hx13_0.symm.trans hx44_0);injection ea_ with ea_ en_ ec_;subst ea_;subst ec_;clear en_));have p48:0≤(x6_3:Int):=oa;have q48:x6_3<(((rd_T77 l0_1 x5_2).f0).length:Int):=oa;obtain ⟨ad48,e48,hx48_0⟩:=Kd.at_string HR44_0.out x6_3 p48 q48
            cases e48
            replace hx48_0:=cb HB hx48_0;replace p48:=eq_true p48;replace q48:=eq_true q48;have hcz30:=cf2 BK47;have p45:0≤(x5_2:Int):=oa;have q45:x5_2<(l1_1.length:Int):=oa;obtain ⟨ad45,A45_0,c45_0,e45,hx45_0,hl45_0,hi45_0⟩:=at_T77 HR1_1.out x5_2 p45 q45;obtain rfl:ad43=ad45:=(by injection e45);replace hx45_0:=cb HB hx45_0;have HR45_0:=am hi45_0;have HC45_0:=am hl45_0;clear hi45_0 hl45_0;replace p45:=eq_true p45;replace q45:=eq_true q45;have p49:0≤(x6_3:Int):=oa;have q49:x6_3<(((rd_T77 l1_1 x5_2).f0).length:Int):=oa;obtain ⟨ad49,e49,hx49_0⟩:=Kd.at_string HR45_0.out x6_3 p49 q49
            cases e49
            replace hx49_0:=cb HB hx49_0;replace p49:=eq_true p49;replace q49:=eq_true q49
            go_wp2
            repeat (go_quiet (fail);try go_wp2)
            go_roundg k3
            case measure=>have:=HJ2.out;have:=HK2.out;have:=HK3.out;omega
            case rel=>exact ⟨(wrap64 (x6_3+1)),fg,H',⟨by have:=HJ2.out;have:=HK2.out;have:=HK3.out;omega⟩,⟨ks BK41⟩,⟨ks BK47⟩,⟨bs HB⟩⟩
           ·intro c27 c27b0 c27b1 H;obtain rfl:=si H;have hnb31:=NB41_47.out;have hnc31:=NB47_41.out;have hcz32:=cf2 BK41;have p13:0≤(x5_2:Int):=oa;have q13:x5_2<(l0_1.length:Int):=oa;obtain ⟨ad13,A13_0,c13_0,e13,hx13_0,hl13_0,hi13_0⟩:=at_T77 HR0_1.out x5_2 p13 q13;obtain rfl:ad42=ad13:=(by injection e13);replace hx13_0:=cb HB hx13_0;have HR13_0:=am hi13_0;have HC13_0:=am hl13_0;clear hi13_0 hl13_0;replace p13:=eq_true p13;replace q13:=eq_true q13;have p44:0≤(x5_2:Int):=oa;have q44:x5_2<(l0_1.length:Int):=oa;obtain ⟨ad44,A44_0,c44_0,e44,hx44_0,hl44_0,hi44_0⟩:=at_T77 HR0_1.out x5_2 p44 q44;obtain rfl:ad42=ad44:=(by injection e44);replace hx44_0:=cb HB hx44_0;have HR44_0:=am hi44_0;have HC44_0:=am hl44_0;clear hi44_0 hl44_0;replace p44:=eq_true p44;replace q44:=eq_true q44;(try (have ea_:=Option.some.inj (hx13_0.symm.trans hx44_0);injection ea_ with ea_ en_ ec_;subst ea_;subst ec_;clear en_));have p48:0≤(x6_3:Int):=oa;have q48:x6_3<(((rd_T77 l0_1 x5_2).f0).length:Int):=oa;obtain ⟨ad48,e48,hx48_0⟩:=Kd.at_string HR44_0.out x6_3 p48 q48
            cases e48
            replace hx48_0:=cb HB hx48_0;replace p48:=eq_true p48;replace q48:=eq_true q48;have hcz33:=cf2 BK47;have p45:0≤(x5_2:Int):=oa;have q45:x5_2<(l1_1.length:Int):=oa;obtain ⟨ad45,A45_0,c45_0,e45,hx45_0,hl45_0,hi45_0⟩:=at_T77 HR1_1.out x5_2 p45 q45;obtain rfl:ad43=ad45:=(by injection e45);replace hx45_0:=cb HB hx45_0;have HR45_0:=am hi45_0;have HC45_0:=am hl45_0;clear hi45_0 hl45_0;replace p45:=eq_true p45;replace q45:=eq_true q45;have p49:0≤(x6_3:Int):=oa;have q49:x6_3<(((rd_T77 l1_1 x5_2).f0).length:Int):=oa;obtain ⟨ad49,e49,hx49_0⟩:=Kd.at_string HR45_0.out x6_3 p49 q49
            cases e49
            replace hx49_0:=cb HB hx49_0;replace p49:=eq_true p49;replace q49:=eq_true q49
            go_wp2
            repeat (go_quiet (fail);try go_wp2)
            go_ret
            exact ⟨ff,bs HB⟩
          ·intro c23b0 H;have H':=am H;clear H;have hnb34:=NB41_47.out;have hnc34:=NB47_41.out;have hcz35:=cf2 BK41;have p13:0≤(x5_2:Int):=oa;have q13:x5_2<(l0_1.length:Int):=oa;obtain ⟨ad13,A13_0,c13_0,e13,hx13_0,hl13_0,hi13_0⟩:=at_T77 HR0_1.out x5_2 p13 q13;obtain rfl:ad42=ad13:=(by injection e13);replace hx13_0:=cb HB hx13_0;have HR13_0:=am hi13_0;have HC13_0:=am hl13_0;clear hi13_0 hl13_0;replace p13:=eq_true p13;replace q13:=eq_true q13
           go_wp2
           repeat (go_quiet (fail);try go_wp2)
           go_roundg k3
           case measure=>have:=HJ2.out;have:=HK2.out;have:=HK3.out;omega
           case rel=>exact ⟨(wrap64 (x5_2+1)),fg,H',⟨by have:=HJ2.out;have:=HK2.out;have:=HK3.out;omega⟩,⟨ks BK41⟩,⟨ks BK47⟩,⟨bs HB⟩⟩
       ·intro c17 c17b0 c17b1 H
        have c17b2:(((rd_T77 l0_1 x5_2).f0).length == ((rd_T77 l1_1 x5_2).f0).length)=false:=by first|simpa using c17|(simp at c17 ⊢;omega)
        obtain rfl:=si H;have hnb36:=NB41_47.out;have hnc36:=NB47_41.out;have hcz37:=cf2 BK41;have p42:0≤(x5_2:Int):=oa;have q42:x5_2<(l0_1.length:Int):=oa;obtain ⟨ad42,A42_0,c42_0,e42,hx42_0,hl42_0,hi42_0⟩:=at_T77 HR0_1.out x5_2 p42 q42
        cases e42
        replace hx42_0:=cb HB hx42_0;have HR42_0:=am hi42_0;have HC42_0:=am hl42_0;clear hi42_0 hl42_0;replace p42:=eq_true p42;replace q42:=eq_true q42;have hcz38:=cf2 BK47;have p43:0≤(x5_2:Int):=oa;have q43:x5_2<(l1_1.length:Int):=oa;obtain ⟨ad43,A43_0,c43_0,e43,hx43_0,hl43_0,hi43_0⟩:=at_T77 HR1_1.out x5_2 p43 q43
        cases e43
        replace hx43_0:=cb HB hx43_0;have HR43_0:=am hi43_0;have HC43_0:=am hl43_0;clear hi43_0 hl43_0;replace p43:=eq_true p43;replace q43:=eq_true q43
        go_wp2
        repeat (go_quiet (fail);try go_wp2)
        go_ret
        exact ⟨ff,bs HB⟩
      ·intro c14b0 H;obtain rfl:=si H;have hnb39:=NB41_47.out;have hnc39:=NB47_41.out;have hcz40:=cf2 BK41
       go_wp2
       repeat (go_quiet (fail);try go_wp2)
       go_ret
       exact ⟨ff,bs HB⟩
end Go.Proofs.YtaememmnhmebcaaGreatDoor.QB
