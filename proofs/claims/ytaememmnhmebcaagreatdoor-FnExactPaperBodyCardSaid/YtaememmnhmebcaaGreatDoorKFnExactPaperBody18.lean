-- Merged by a program of this session (wip/tool/pack.py) out of its own texts for this claim.
import Derived.Test.YtaememmnhmebcaaGreatDoorKFnExactPaperBody17
set_option maxHeartbeats 8000000
set_option maxRecDepth 100000
set_option linter.unusedSimpArgs false
set_option linter.unusedVariables false
namespace Go.Proofs.YtaememmnhmebcaaGreatDoor.QB
open Go.RowKit Go.Proofs.YtaememmnhmebcaaGreatDoorW.PrintWords Go.Proofs.YtaememmnhmebcaaGreatDoorW.PrintLast Go.Proofs.YtaememmnhmebcaaGreatDoorW.PrintMore
attribute [local go_sem] max2_int min2_int max_two min_two max_three min_three max_four min_four   -- for this text's walks alone
def impl_PaperRight.T4:Bool × List (List Nat × List Nat):=(true,[([],[]),([0],[0]),([],[]),([1,2],[1,2]),([3],[3]),([4],[4]),([5,3],[5]),([6],[6]),([7,6],[6,7]),([6],[6]),([8,9,6,6],[6,8,9]),([6],[6]),([10,11,10,6],[6,10,11]),([6,12],[6,12]),([13,12],[13]),([14],[14]),([15,14,14],[14,15]),([16,14],[14,16]),([14,17],[14,17]),([18,16,0,1,2,3,4,5,6,7,8,9,10,11,12,13,14,15,16,17,18],[18])])
def impl_PaperRight.B4:List Nat:=[0,1,0,7,15,31,63,127,255,127,1023,127,4095,8191,16383,32767,65535,131071,262143,524287]
theorem impl_PaperRight.tab4:rtab .any (opsOf Tryz.f19 4)=impl_PaperRight.T4:=by kernel_rfl
theorem impl_PaperRight.bits4:waitsOk impl_PaperRight.T4.2 impl_PaperRight.B4=true:=by kernel_rfl
theorem impl_PaperRight.calls (k:Nat) (a0_0:Int) (a0_1:ByteArray) (a0_2:ByteArray) (a0_3:Int) (A0_4:Option Addr) (c0_4:Nat) (l0_4:List ByteArray) (A0_5:Option Addr) (c0_5:Nat) (l0_5:List (S63)) (r:Bool) (w:World) (hr0_4:Kd.C Kd.string w A0_4 l0_4.length l0_4) (hc0_4:l0_4.length≤c0_4) (hr0_5:Kd.C k63 w A0_5 l0_5.length l0_5) (hc0_5:l0_5.length≤c0_5) (hTC:TbC w) (hTF:TbF w) (hTP:TbP w) (H:impl_PaperRight.f k a0_0 a0_1 a0_2 a0_3 l0_4 l0_5=some r) :
  Calls Tryz.prog 19 #[.agg #[.int .i64 a0_0,.string a0_1,.string a0_2,.int .i64 a0_3,.slice A0_4 l0_4.length c0_4,.slice A0_5 l0_5.length c0_5]] w fun e w'=>e=.returned (.bool r)∧Below w.heap.size w w':=by
 have HTC:=am hTC;clear hTC;have HTF:=am hTF;clear hTF;have HTP:=am hTP;clear hTP
 have hu31:=Tryz.underlying31
 have hfd67_2:∀ (v0 v1 v2:Value) (W:World),(Instr.field 67 (.agg #[v0,v1,v2]) 2).run Tryz.prog W=.ok v2 W:=fun _ _ _ _=>by kernel_rfl
 have HR0_4:=am hr0_4;have HC0_4:=am hc0_4;clear hr0_4 hc0_4;have HR0_5:=am hr0_5;have HC0_5:=am hc0_5;clear hr0_5 hc0_5;have HB:=am (Below.refl w.heap.size w);unfold impl_PaperRight.f at H;have HC2:=am H;clear H
 go_in
 go_upto_region 1 with (first|((with_reducible refine gate_dst (N:=1) rfl ?_);(try (refine gate_guard (by rfl) ?_;dsimp only));refine bz 1 (cs:=#[.int .i64 a0_0,.string a0_1,.string a0_2,.int .i64 a0_3,.slice A0_4 l0_4.length c0_4,.slice A0_5 l0_5.length c0_5]) (t:=31) HB ?_;clear HB;intro gb43 hg w3 BK43 GW43 hb HB;clear hb hg))
 (try simp only [Act.put,List.setIfInBounds_toArray,List.set_cons_zero,List.set_cons_succ])
 go_cut [19] (fun v19 wc=>∃ (kq:Nat) (x19_1:Bool),v19=.bool x19_1∧Aside0 (impl_PaperRight.j0 kq x19_1 a0_0 a0_1 a0_2 a0_3 l0_4 l0_5=some r)∧Aside0 (kq≤k)∧Aside0 (wc.heap[gb43]? = some (.cells #[.int .i64 a0_0,.string a0_1,.string a0_2,.int .i64 a0_3,(.slice A0_4 l0_4.length c0_4),(.slice A0_5 l0_5.length c0_5)] 31 (0,0)))∧Aside0 (Below w.heap.size w wc))
 case first =>
  have H:=HC2.out;clear HC2;replace H:=bo H;obtain ⟨t57,A4,H⟩:=H;have hcz5:=cf6 BK43
  try go_wp2_with (fail)
  go_at_call 38;(with_reducible refine (impl_within.calls a0_0 1 7 t57 _ A4.out).mono ?_);rintro e w' ⟨rfl,⟨nd,rfl⟩⟩
  obtain rfl|rfl:=bt t57
  ·replace H:=itT H
   revert H;refine ip2 ?_ ?_
   ·intro c7 H;have c7b0:decide (2<(l0_4.length:Int))=true:=decide_eq_true c7;have c7b1:decide (2<l0_4.length)=true:=decide_eq_true (by omega);clear c7
    (first|rw [c7b0]|(simp only [i64_w,i32_w];rw [c7b0])|rw [c7b1]|skip)
    have H':=am H;clear H;have hcz8:=cf6 BK43
    go_wp2
    go_meet
    case rel=>exact ⟨_,(true),fg,H',⟨fl⟩,⟨ks BK43⟩,⟨bs HB⟩⟩
   ·intro c7 H;have c7b0:decide (2<(l0_4.length:Int))=false:=decide_eq_false c7;have c7b1:decide (2<l0_4.length)=false:=decide_eq_false (by omega);clear c7
    (first|rw [c7b0]|(simp only [i64_w,i32_w];rw [c7b0])|rw [c7b1]|skip)
    have H':=am H;clear H;have hcz9:=cf6 BK43
    go_wp2
    go_meet
    case rel=>exact ⟨_,(decide ((l0_5.length:Int)>20)),fg,H',⟨fl⟩,⟨ks BK43⟩,⟨bs HB⟩⟩
  ·replace H:=itF H;have H':=am H;clear H
   go_wp2
   go_meet
   case rel=>exact ⟨_,(true),fg,H',⟨fl⟩,⟨ks BK43⟩,⟨bs HB⟩⟩
 case rest =>
  clear HC2
  obtain ⟨kq,x19_1,rfl,HA,HJ1,BK43,HB⟩:=hcut
  cases kq with
  | zero=>exact absurd HA.out (by simp [impl_PaperRight.j0])
  | succ kj1 =>
   have H:=HA.out;clear HA;simp only [impl_PaperRight.j0] at H
   obtain rfl|rfl:=bt x19_1
   ·replace H:=itT H;obtain rfl:=si H
    go_wp2
    go_ret
    exact ⟨ff,bs HB⟩
   ·replace H:=itF H;replace H:=bo H;obtain ⟨t47,A11,H⟩:=H;have hcz12:=cf6 BK43
    try go_wp2_with (fail)
    go_at_call 20;(with_reducible refine (impl_bodyOf.calls kj1 a0_0 a0_1 a0_2 a0_3 _ _ l0_4 _ _ l0_5 t47 _ (Kd.C_below HR0_4.out (bs HB)) HC0_4.out (Kd.C_below HR0_5.out (bs HB)) HC0_5.out (tbF HTF (bs HB)) A11.out).mono ?_);rintro e w13 ⟨v62,rfl,ho0,hb⟩;have HO44:=am (Kd.N_lower (Kd.N_mono (ok':=fun k_=>k_≠gb43) ho0 (fun k_ hk_=>(Kd.freshB (g:=gb43) (o:=.cells #[.int .i64 a0_0,.string a0_1,.string a0_2,.int .i64 a0_3,.slice A0_4 l0_4.length c0_4,.slice A0_5 l0_5.length c0_5] 31 (0,0)) (ks BK43) k_ hk_))) (below_size (bs HB)));replace BK43:=bb BK43 hb;replace HB:=bq HB hb;(try clear hb);(try clear hb2);(try clear hk);(try clear hi);(try clear ho0);replace H:=bo H;obtain ⟨⟨t54,t55,t56⟩,A14,H⟩:=H;(try dsimp only at H)
    revert H;refine ie2 ?_ ?_
    ·intro c15b0 c15b1 H;replace H:=bo H;obtain ⟨⟨t48,t49,t50,t51,t52,t53⟩,A16,H⟩:=H;(try dsimp only at H);replace H:=bo H;obtain ⟨t58,A17,H⟩:=H
     obtain rfl|rfl:=bt t58
     ·replace H:=itT H;replace H:=bo H;obtain ⟨t59,A19,H⟩:=H;obtain rfl:=si H
      try go_wp2
      replace HO44:=am (Kd.N_drew HO44.out);replace BK43:=am (blk_drew BK43.out);replace HB:=am (below_drew1 HB.out);obtain ⟨Ao21,co21,eo21⟩:=Kd.N_slice HO44.out
      (first|subst eo21|(injection eo21 with f1_ f2_ f3_;have f4_:=f1_.symm;have f5_:=f3_.symm;clear f1_ f2_ f3_;subst f4_;subst f5_))
      refine sta 20 (hb6 BK43) (fun hHeld=>?_);refine with_tabW impl_PaperRight.tab4 impl_PaperRight.bits4 (fun HT_ HW_=>?_)
      generalize w13.drew=w20 at HO44 BK43 HB hHeld ⊢
      refine pz1 0 ?_;refine pz1 2 ?_;refine ta 1 ?_;refine oA 3 25 HT_ (fun K hK=>?_);refine gA Tryz.func39 #[.int .i64 a0_0,.slice Ao21 t47.length co21] ?_;(with_reducible refine (impl_TableCheck.calls kj1 a0_0 _ _ t47 t54 t55 t56 _ ?side1 ?side2 (tbC HTC (bs HB)) (tbP HTP (bs HB)) A14.out).mono ?_)
      (case side1=>exact sd (Kd.N_reads' HO44.out).2.2)
      (case side2=>exact (Kd.N_reads' HO44.out).2.1)
      rintro e w22 ⟨rfl,hb⟩;refine ⟨_,rfl,?_⟩;have n0_:=am (Kd.N_below (by (with_reducible repeat (first|apply Kd.N_alloc|apply Kd.N_drewN|apply Kd.N_drew));exact HO44.out) hb);have n1_:=am (blk_below (ks BK43) hb);have n2_:=am (below_step (bs HB) hb);clear HO44;clear BK43;clear HB;have HO44:=n0_;have BK43:=n1_;have HB:=n2_;clear n0_ n1_ n2_;(try clear hb);(try clear hb2);(try clear hk);(try clear hi);refine hK.out _ _ (hb6 BK43).out (fun hHeld=>?_);clear hK K;refine nA 25 ?_;refine pz4 4 ?_;refine pz1 9 ?_;refine ta 8 ?_;refine ta 11 ?_;refine oA 10 32 HT_ (fun K hK=>?_);refine gA Tryz.func41 #[.int .i64 a0_0,.slice Ao21 t47.length co21] ?_;(with_reducible refine (impl_paperOf.calls kj1 a0_0 _ _ t47 t48 t49 t50 t51 t52 t53 _ ?side1 ?side2 (tbP HTP (bs HB)) A16.out).mono ?_)
      (case side1=>exact sd (Kd.N_reads' HO44.out).2.2)
      (case side2=>exact (Kd.N_reads' HO44.out).2.1)
      rintro e w23 ⟨v60,v61,rfl,ho0,ho1,hb⟩;refine ⟨_,rfl,?_⟩;have n0_:=am (Kd.N_mono (Kd.N_told (Kd.N_told (Kd.N_old (by (with_reducible repeat (first|apply Kd.N_alloc|apply Kd.N_drewN|apply Kd.N_drew));exact HO44.out) hb) (Kd.R_base ho0)) (Kd.R_base ho1)) (fun _ h_=>h_.1));have n1_:=am (Kd.R_lower ho0 (below_size (bs HB)));have n2_:=am (Kd.R_lower ho1 (below_size (bs HB)));have n3_:=am (blk_below (ks BK43) hb);have n4_:=am (below_step (bs HB) hb);clear HO44;clear BK43;clear HB;have HO44:=n0_;have HO45:=n1_;have HO46:=n2_;have BK43:=n3_;have HB:=n4_;clear n0_ n1_ n2_ n3_ n4_;(try clear hb);(try clear hb2);(try clear hk);(try clear hi);(try clear ho0);(try clear ho1);obtain ⟨Ao24,co24,eo24⟩:=Kd.R_slice HO45.out
      (first|subst eo24|(injection eo24 with f1_ f2_ f3_;have f4_:=f1_.symm;have f5_:=f3_.symm;clear f1_ f2_ f3_;subst f4_;subst f5_))
      obtain ⟨Ao25,co25,eo25⟩:=Kd.R_slice HO46.out
      (first|subst eo25|(injection eo25 with f1_ f2_ f3_;have f4_:=f1_.symm;have f5_:=f3_.symm;clear f1_ f2_ f3_;subst f4_;subst f5_))
      refine hK.out _ _ (hb6 BK43).out (fun hHeld=>?_);clear hK K;refine nA 32 ?_;refine oA 12 34 HT_ (fun K hK=>?_);refine gA Tryz.func40 #[.agg #[.int .i64 t48,.string t49,.string t50,.int .i64 t51,.slice Ao24 t52.length co24,.slice Ao25 t53.length co25],.agg #[.int .i64 a0_0,.string a0_1,.string a0_2,.int .i64 a0_3,.slice A0_4 l0_4.length c0_4,.slice A0_5 l0_5.length c0_5]] ?_;(with_reducible refine (impl_same.calls kj1 t48 t49 t50 t51 _ _ t52 _ _ t53 a0_0 a0_1 a0_2 a0_3 _ _ l0_4 _ _ l0_5 true _ ?side1 ?side2 ?side3 ?side4 ?side5 ?side6 ?side7 ?side8 A17.out).mono ?_)
      (case side1=>exact sd (Kd.R_reads' HO45.out).2.2)
      (case side2=>exact (Kd.R_reads' HO45.out).2.1)
      (case side3=>exact sd (Kd.R_reads' HO46.out).2.2)
      (case side4=>exact (Kd.R_reads' HO46.out).2.1)
      (case side5=>exact sd (Kd.C_below HR0_4.out HB.out))
      (case side6=>exact HC0_4.out)
      (case side7=>exact sd (Kd.C_below HR0_5.out HB.out))
      (case side8=>exact HC0_5.out)
      rintro e w26 ⟨rfl,hb⟩;refine ⟨_,rfl,?_⟩;have n0_:=am (Kd.N_below (by (with_reducible repeat (first|apply Kd.N_alloc|apply Kd.N_drewN|apply Kd.N_drew));exact HO44.out) hb);have n1_:=am (Kd.R_below (rs HO45) hb);have n2_:=am (Kd.R_below (rs HO46) hb);have n3_:=am (blk_below (ks BK43) hb);have n4_:=am (below_step (bs HB) hb);clear HO44;clear HO45;clear HO46;clear BK43;clear HB;have HO44:=n0_;have HO45:=n1_;have HO46:=n2_;have BK43:=n3_;have HB:=n4_;clear n0_ n1_ n2_ n3_ n4_;(try clear hb);(try clear hb2);(try clear hk);(try clear hi);refine hK.out _ _ (hb6 BK43).out (fun hHeld=>?_);clear hK K;refine nA 34 ?_;refine pz2 13 ?_;refine ta 15 ?_;refine oA 16 38 HT_ (fun K hK=>?_);refine gA Tryz.func42 #[.agg #[.int .i64 a0_0,.string a0_1,.string a0_2,.int .i64 a0_3,.slice A0_4 l0_4.length c0_4,.slice A0_5 l0_5.length c0_5]] ?_;(with_reducible refine (impl_wrongLine.calls kj1 a0_0 a0_1 a0_2 a0_3 _ _ l0_4 _ _ l0_5 t59 _ ?side1 ?side2 ?side3 ?side4 A19.out).mono ?_)
      (case side1=>exact sd (Kd.C_below HR0_4.out HB.out))
      (case side2=>exact HC0_4.out)
      (case side3=>exact sd (Kd.C_below HR0_5.out HB.out))
      (case side4=>exact HC0_5.out)
      rintro e w27 ⟨rfl,hb⟩;refine ⟨_,rfl,?_⟩;have n0_:=am (Kd.N_below (by (with_reducible repeat (first|apply Kd.N_alloc|apply Kd.N_drewN|apply Kd.N_drew));exact HO44.out) hb);have n1_:=am (Kd.R_below (rs HO45) hb);have n2_:=am (Kd.R_below (rs HO46) hb);have n3_:=am (blk_below (ks BK43) hb);have n4_:=am (below_step (bs HB) hb);clear HO44;clear HO45;clear HO46;clear BK43;clear HB;have HO44:=n0_;have HO45:=n1_;have HO46:=n2_;have BK43:=n3_;have HB:=n4_;clear n0_ n1_ n2_ n3_ n4_;(try clear hb);(try clear hb2);(try clear hk);(try clear hi);refine hK.out _ _ (hb6 BK43).out (fun hHeld=>?_);clear hK K;refine nA 38 ?_;refine pz3 17 ?_;refine done_ (done_of HT_.out (by kernel_rfl)) ?_
      try go_wp2
      go_ret
      exact ⟨ff,bs HB⟩
     ·replace H:=itF H;obtain rfl:=si H
      try go_wp2
      replace HO44:=am (Kd.N_drew HO44.out);replace BK43:=am (blk_drew BK43.out);replace HB:=am (below_drew1 HB.out);obtain ⟨Ao29,co29,eo29⟩:=Kd.N_slice HO44.out
      (first|subst eo29|(injection eo29 with f1_ f2_ f3_;have f4_:=f1_.symm;have f5_:=f3_.symm;clear f1_ f2_ f3_;subst f4_;subst f5_))
      refine sta 20 (hb6 BK43) (fun hHeld=>?_);refine with_tabW impl_PaperRight.tab4 impl_PaperRight.bits4 (fun HT_ HW_=>?_)
      generalize w13.drew=w28 at HO44 BK43 HB hHeld ⊢
      refine pz1 0 ?_;refine pz1 2 ?_;refine ta 1 ?_;refine oA 3 25 HT_ (fun K hK=>?_);refine gA Tryz.func39 #[.int .i64 a0_0,.slice Ao29 t47.length co29] ?_;(with_reducible refine (impl_TableCheck.calls kj1 a0_0 _ _ t47 t54 t55 t56 _ ?side1 ?side2 (tbC HTC (bs HB)) (tbP HTP (bs HB)) A14.out).mono ?_)
      (case side1=>exact sd (Kd.N_reads' HO44.out).2.2)
      (case side2=>exact (Kd.N_reads' HO44.out).2.1)
      rintro e w30 ⟨rfl,hb⟩;refine ⟨_,rfl,?_⟩;have n0_:=am (Kd.N_below (by (with_reducible repeat (first|apply Kd.N_alloc|apply Kd.N_drewN|apply Kd.N_drew));exact HO44.out) hb);have n1_:=am (blk_below (ks BK43) hb);have n2_:=am (below_step (bs HB) hb);clear HO44;clear BK43;clear HB;have HO44:=n0_;have BK43:=n1_;have HB:=n2_;clear n0_ n1_ n2_;(try clear hb);(try clear hb2);(try clear hk);(try clear hi);refine hK.out _ _ (hb6 BK43).out (fun hHeld=>?_);clear hK K;refine nA 25 ?_;refine pz4 4 ?_;refine pz1 9 ?_;refine ta 8 ?_;refine ta 11 ?_;refine oA 10 32 HT_ (fun K hK=>?_);refine gA Tryz.func41 #[.int .i64 a0_0,.slice Ao29 t47.length co29] ?_;(with_reducible refine (impl_paperOf.calls kj1 a0_0 _ _ t47 t48 t49 t50 t51 t52 t53 _ ?side1 ?side2 (tbP HTP (bs HB)) A16.out).mono ?_)
      (case side1=>exact sd (Kd.N_reads' HO44.out).2.2)
      (case side2=>exact (Kd.N_reads' HO44.out).2.1)
      rintro e w31 ⟨v60,v61,rfl,ho0,ho1,hb⟩;refine ⟨_,rfl,?_⟩;have n0_:=am (Kd.N_mono (Kd.N_told (Kd.N_told (Kd.N_old (by (with_reducible repeat (first|apply Kd.N_alloc|apply Kd.N_drewN|apply Kd.N_drew));exact HO44.out) hb) (Kd.R_base ho0)) (Kd.R_base ho1)) (fun _ h_=>h_.1));have n1_:=am (Kd.R_lower ho0 (below_size (bs HB)));have n2_:=am (Kd.R_lower ho1 (below_size (bs HB)));have n3_:=am (blk_below (ks BK43) hb);have n4_:=am (below_step (bs HB) hb);clear HO44;clear BK43;clear HB;have HO44:=n0_;have HO45:=n1_;have HO46:=n2_;have BK43:=n3_;have HB:=n4_;clear n0_ n1_ n2_ n3_ n4_;(try clear hb);(try clear hb2);(try clear hk);(try clear hi);(try clear ho0);(try clear ho1);obtain ⟨Ao32,co32,eo32⟩:=Kd.R_slice HO45.out
      (first|subst eo32|(injection eo32 with f1_ f2_ f3_;have f4_:=f1_.symm;have f5_:=f3_.symm;clear f1_ f2_ f3_;subst f4_;subst f5_))
      obtain ⟨Ao33,co33,eo33⟩:=Kd.R_slice HO46.out
      (first|subst eo33|(injection eo33 with f1_ f2_ f3_;have f4_:=f1_.symm;have f5_:=f3_.symm;clear f1_ f2_ f3_;subst f4_;subst f5_))
      refine hK.out _ _ (hb6 BK43).out (fun hHeld=>?_);clear hK K;refine nA 32 ?_;refine oA 12 34 HT_ (fun K hK=>?_);refine gA Tryz.func40 #[.agg #[.int .i64 t48,.string t49,.string t50,.int .i64 t51,.slice Ao32 t52.length co32,.slice Ao33 t53.length co33],.agg #[.int .i64 a0_0,.string a0_1,.string a0_2,.int .i64 a0_3,.slice A0_4 l0_4.length c0_4,.slice A0_5 l0_5.length c0_5]] ?_;(with_reducible refine (impl_same.calls kj1 t48 t49 t50 t51 _ _ t52 _ _ t53 a0_0 a0_1 a0_2 a0_3 _ _ l0_4 _ _ l0_5 false _ ?side1 ?side2 ?side3 ?side4 ?side5 ?side6 ?side7 ?side8 A17.out).mono ?_)
      (case side1=>exact sd (Kd.R_reads' HO45.out).2.2)
      (case side2=>exact (Kd.R_reads' HO45.out).2.1)
      (case side3=>exact sd (Kd.R_reads' HO46.out).2.2)
      (case side4=>exact (Kd.R_reads' HO46.out).2.1)
      (case side5=>exact sd (Kd.C_below HR0_4.out HB.out))
      (case side6=>exact HC0_4.out)
      (case side7=>exact sd (Kd.C_below HR0_5.out HB.out))
      (case side8=>exact HC0_5.out)
      rintro e w34 ⟨rfl,hb⟩;refine ⟨_,rfl,?_⟩;have n0_:=am (Kd.N_below (by (with_reducible repeat (first|apply Kd.N_alloc|apply Kd.N_drewN|apply Kd.N_drew));exact HO44.out) hb);have n1_:=am (Kd.R_below (rs HO45) hb);have n2_:=am (Kd.R_below (rs HO46) hb);have n3_:=am (blk_below (ks BK43) hb);have n4_:=am (below_step (bs HB) hb);clear HO44;clear HO45;clear HO46;clear BK43;clear HB;have HO44:=n0_;have HO45:=n1_;have HO46:=n2_;have BK43:=n3_;have HB:=n4_;clear n0_ n1_ n2_ n3_ n4_;(try clear hb);(try clear hb2);(try clear hk);(try clear hi);refine hK.out _ _ (hb6 BK43).out (fun hHeld=>?_);clear hK K;refine nA 34 ?_;refine pz4 13 ?_;refine pz3 17 ?_;refine done_ (done_of HT_.out (by kernel_rfl)) ?_
      try go_wp2
      go_ret
      exact ⟨ff,bs HB⟩
    ·intro c15 c15b0 c15b1 H;obtain rfl:=si H
     try go_wp2
     replace HO44:=am (Kd.N_drew HO44.out);replace BK43:=am (blk_drew BK43.out);replace HB:=am (below_drew1 HB.out);obtain ⟨Ao36,co36,eo36⟩:=Kd.N_slice HO44.out
     (first|subst eo36|(injection eo36 with f1_ f2_ f3_;have f4_:=f1_.symm;have f5_:=f3_.symm;clear f1_ f2_ f3_;subst f4_;subst f5_))
     refine sta 20 (hb6 BK43) (fun hHeld=>?_);refine with_tabW impl_PaperRight.tab4 impl_PaperRight.bits4 (fun HT_ HW_=>?_)
     generalize w13.drew=w35 at HO44 BK43 HB hHeld ⊢
     refine pz1 0 ?_;refine pz1 2 ?_;refine ta 1 ?_;refine oA 3 25 HT_ (fun K hK=>?_);refine gA Tryz.func39 #[.int .i64 a0_0,.slice Ao36 t47.length co36] ?_;(with_reducible refine (impl_TableCheck.calls kj1 a0_0 _ _ t47 t54 t55 t56 _ ?side1 ?side2 (tbC HTC (bs HB)) (tbP HTP (bs HB)) A14.out).mono ?_)
     (case side1=>exact sd (Kd.N_reads' HO44.out).2.2)
     (case side2=>exact (Kd.N_reads' HO44.out).2.1)
     rintro e w37 ⟨rfl,hb⟩;refine ⟨_,rfl,?_⟩;have n0_:=am (Kd.N_below (by (with_reducible repeat (first|apply Kd.N_alloc|apply Kd.N_drewN|apply Kd.N_drew));exact HO44.out) hb);have n1_:=am (blk_below (ks BK43) hb);have n2_:=am (below_step (bs HB) hb);clear HO44;clear BK43;clear HB;have HO44:=n0_;have BK43:=n1_;have HB:=n2_;clear n0_ n1_ n2_;(try clear hb);(try clear hb2);(try clear hk);(try clear hi);refine hK.out _ _ (hb6 BK43).out (fun hHeld=>?_);clear hK K;refine nA 25 ?_;refine pz8 4 ?_;refine pz8 12 ?_;refine done_ (done_of HT_.out (by kernel_rfl)) ?_
     try go_wp2
     go_ret
     exact ⟨ff,bs HB⟩
theorem impl_PaperBody.callsS (k:Nat) (a0_0:Int) (a0_1:ByteArray) (a0_2:ByteArray) (a0_3:Int) (A0_4:Option Addr) (c0_4:Nat) (l0_4:List ByteArray) (A0_5:Option Addr) (c0_5:Nat) (l0_5:List (S63)) (r:List (S46)) (w:World) (hr0_4:Kd.C Kd.string w A0_4 l0_4.length l0_4) (hc0_4:l0_4.length≤c0_4) (hr0_5:Kd.C k63 w A0_5 l0_5.length l0_5) (hc0_5:l0_5.length≤c0_5) (hTC:TbC w) (hTF:TbF w) (hTP:TbP w) (H:impl_PaperBody.f k a0_0 a0_1 a0_2 a0_3 l0_4 l0_5=some r) :
  Calls Tryz.prog 7 #[.agg #[.int .i64 a0_0,.string a0_1,.string a0_2,.int .i64 a0_3,.slice A0_4 l0_4.length c0_4,.slice A0_5 l0_5.length c0_5]] w fun e w'=>∃ v0_:Value,e=.returned (v0_)∧Kd.S kA46 46 w' w.heap.size (fun k_=>(w.heap.size≤k_)) v0_ r∧Below w.heap.size w w':=by
 have HTC:=Aside0.mk hTC;clear hTC;have HTF:=Aside0.mk hTF;clear hTF;have HTP:=Aside0.mk hTP;clear hTP
 have hu31:=Tryz.underlying31;have HR0_4:=Aside0.mk hr0_4;have HC0_4:=Aside0.mk hc0_4;clear hr0_4 hc0_4;have HR0_5:=Aside0.mk hr0_5;have HC0_5:=Aside0.mk hc0_5;clear hr0_5 hc0_5;have HB:=Aside0.mk (Below.refl w.heap.size w);unfold impl_PaperBody.f at H;replace H:=bo H;obtain ⟨t697,A2,H⟩:=H
 go_in
 try go_wp2_with (first|((with_reducible refine gate_dst (N:=1) rfl ?_);refine bx 1 (cs:=#[.int .i64 a0_0,.string a0_1,.string a0_2,.int .i64 a0_3,.slice A0_4 l0_4.length c0_4,.slice A0_5 l0_5.length c0_5]) (t:=31) ?_;intro gb696 hg w3 hbox hb;have BK696:=Aside0.mk (hbox);have GW696:=Aside0.mk ((gs hg (bs HB)));have GE696:=Aside0.mk ((gs hg (bs HB)));replace HB:=Aside0.mk (below_step (bs HB) hb);clear hb hbox hg;have hcz4:=cf6 BK696))
 go_at_call 19;(with_reducible refine (impl_PaperRight.calls k a0_0 a0_1 a0_2 a0_3 _ _ l0_4 _ _ l0_5 t697 _ (Kd.C_below HR0_4.out (bs HB)) HC0_4.out (Kd.C_below HR0_5.out (bs HB)) HC0_5.out (tbC HTC (bs HB)) (tbF HTF (bs HB)) (tbP HTP (bs HB)) A2.out).mono ?_);rintro e w5 ⟨rfl,hb⟩;replace BK696:=Aside0.mk (blk_below (ks BK696) hb);replace HB:=Aside0.mk (below_step (bs HB) hb);(try clear hb);(try clear hb2);(try clear hk);(try clear hi)
 obtain rfl|rfl:=bt t697
 ·replace H:=itT H;replace H:=bo H;obtain ⟨t698,A7,H⟩:=H;obtain rfl:=si H;have hcz8:=cf6 BK696
  go_wp2_with (first|((first|((with_reducible refine gate_callee (f:=20) rfl ?_);refine goesL_ (some 7) rfl rfl Tryz.func20 (by kernel_rfl) rfl #[.agg #[.int .i64 a0_0,.string a0_1,.string a0_2,.int .i64 a0_3,.slice A0_4 l0_4.length c0_4,.slice A0_5 l0_5.length c0_5]] rfl (by (try simp only [List.map_toArray,List.map_cons,List.map_nil]);first|done|rfl|(simp only [List.length_drop,List.length_take];rfl)) ?_;(with_reducible refine (impl_bodyOf.callsS k a0_0 a0_1 a0_2 a0_3 _ _ l0_4 _ _ l0_5 t698 _ (Kd.C_below HR0_4.out (bs HB)) HC0_4.out (Kd.C_below HR0_5.out (bs HB)) HC0_5.out (tbF HTF (bs HB)) A7.out).mono ?_);rintro e w9 ⟨v699,rfl,ho0,hb⟩;refine ⟨_,rfl,?_⟩)|(go_at_call 20;(with_reducible refine (impl_bodyOf.callsS k a0_0 a0_1 a0_2 a0_3 _ _ l0_4 _ _ l0_5 t698 _ (Kd.C_below HR0_4.out (bs HB)) HC0_4.out (Kd.C_below HR0_5.out (bs HB)) HC0_5.out (tbF HTF (bs HB)) A7.out).mono ?_);rintro e w9 ⟨v699,rfl,ho0,hb⟩));have HO700:=Aside0.mk (Kd.S_lower (Kd.S_mono (ok':=fun k_=>(w.heap.size≤k_)∧k_≠gb696) ho0 (fun k_ hk_=>⟨(Nat.le_trans (below_size (bs HB)) hk_),(Kd.freshB (g:=gb696) (o:=.cells #[.int .i64 a0_0,.string a0_1,.string a0_2,.int .i64 a0_3,.slice A0_4 l0_4.length c0_4,.slice A0_5 l0_5.length c0_5] 31 (0,0)) (ks BK696) k_ hk_)⟩)) (below_size (bs HB)));replace BK696:=Aside0.mk (blk_below (ks BK696) hb);replace HB:=Aside0.mk (below_step (bs HB) hb);(try clear hb);(try clear hb2);(try clear hk);(try clear hi);(try clear ho0)))
  go_ret
  exact ⟨_,ff,by (with_reducible repeat (first|apply Kd.S_alloc|apply Kd.S_drewN|apply Kd.S_drew));exact Kd.S_mono HO700.out (fun _ hk=>hk.1),bs HB⟩
 ·replace H:=itF H;obtain rfl:=si H
  go_wp2
  go_ret
  exact ⟨_,ff,by first|exact Kd.R_nil _ _ _ _ _|exact Kd.S_nil _ _ _ _ _|exact Kd.V_nil _ _ _ _ _|exact Kd.Q_nil _ _ _ _ _|exact Kd.S_nil _ _ _ _ _,bs HB⟩
theorem impl_PaperBody.calls (k:Nat) (a0_0:Int) (a0_1:ByteArray) (a0_2:ByteArray) (a0_3:Int) (A0_4:Option Addr) (c0_4:Nat) (l0_4:List ByteArray) (A0_5:Option Addr) (c0_5:Nat) (l0_5:List (S63)) (r:List (S46)) (w:World) (hr0_4:Kd.C Kd.string w A0_4 l0_4.length l0_4) (hc0_4:l0_4.length≤c0_4) (hr0_5:Kd.C k63 w A0_5 l0_5.length l0_5) (hc0_5:l0_5.length≤c0_5) (hTC:TbC w) (hTF:TbF w) (hTP:TbP w) (H:impl_PaperBody.f k a0_0 a0_1 a0_2 a0_3 l0_4 l0_5=some r) :
  Calls Tryz.prog 7 #[.agg #[.int .i64 a0_0,.string a0_1,.string a0_2,.int .i64 a0_3,.slice A0_4 l0_4.length c0_4,.slice A0_5 l0_5.length c0_5]] w fun e w'=>∃ v0_:Value,e=.returned (v0_)∧Kd.N k46 46 w' w.heap.size (fun k_=>(w.heap.size≤k_)) v0_ r∧Below w.heap.size w w':=by
 refine (impl_PaperBody.callsS k a0_0 a0_1 a0_2 a0_3 A0_4 c0_4 l0_4 A0_5 c0_5 l0_5 r w hr0_4 hc0_4 hr0_5 hc0_5 hTC hTF hTP H).mono ?_
 rintro e w' ⟨v,he,hS,hb⟩
 exact ⟨v,he,kA46_N hS,hb⟩
theorem laws_eqStringS.calls (k:Nat) (A0:Option Addr) (c0:Nat) (l0:List ByteArray) (A1:Option Addr) (c1:Nat) (l1:List ByteArray) (r:Bool) (w:World) (hr0:Kd.C Kd.string w A0 l0.length l0) (hc0:l0.length≤c0) (hr1:Kd.C Kd.string w A1 l1.length l1) (hc1:l1.length≤c1) (H:laws_eqStringS.f k l0 l1=some r) :
  Calls Tryz.prog 22 #[.slice A0 l0.length c0,.slice A1 l1.length c1] w fun e w'=>e=.returned (.bool r)∧Drawn0 w w':=by
 have HR0:=am hr0;have HC0:=am hc0;clear hr0 hc0;have HR1:=am hr1;have HC1:=am hc1;clear hr1 hc1;unfold laws_eqStringS.f at H
 revert H;refine ie2k ?_ ?_
 ·intro c3 c3b0 c3b1 H
  have c3b2:(l0.length == l1.length)=true:=by first|simpa using c3|(simp at c3 ⊢;omega)
  clear c3;have H':=am H;clear H
  go_in
  go_wp2
  repeat (go_quiet (fail);try go_wp2)
  go_loopg [5] k (fun kq v5 w'=>∃ (x5_1:Int),v5=.int .i64 x5_1∧Aside0 (laws_eqStringS.l0 kq l0 l1 x5_1=some r)∧Aside0 (kq≤k)∧Drawn0 w w')
  case atStart=>exact ⟨(0),fg,H',⟨Nat.le_refl _⟩,by repeat (first|exact Drawn0.refl _|apply Drawn0.step)⟩
  case round =>
   clear H'
   try clear c1
   try clear c3
   try clear c3b0
   try clear c3b1
   try clear c3b2
   obtain ⟨x5_1,rfl,HA,HK1,⟨m1,rfl⟩⟩:=hrel
   cases gk with
   | zero=>exact absurd HA.out (by simp [laws_eqStringS.l0])
   | succ k1 =>
    have H:=HA.out;clear HA;simp only [laws_eqStringS.l0] at H
    revert H;refine id2 ?_ ?_
    ·intro c4b0 H
     revert H;refine id1 ?_
     intro c5b0 H
     revert H;refine id1 ?_
     intro c6b0 H
     revert H;refine ie2 ?_ ?_
     ·intro c7b0 c7b1 H;have H':=am H;clear H;have p8:0≤(x5_1:Int):=oa;have q8:x5_1<(l0.length:Int):=oa;obtain ⟨ad8,e8,hx8_0⟩:=Kd.at_string HR0.out x5_1 p8 q8
      cases e8
      replace p8:=eq_true p8;replace q8:=eq_true q8;have p9:0≤(x5_1:Int):=oa;have q9:x5_1<(l1.length:Int):=oa;obtain ⟨ad9,e9,hx9_0⟩:=Kd.at_string HR1.out x5_1 p9 q9
      cases e9
      replace p9:=eq_true p9;replace q9:=eq_true q9
      go_wp2
      repeat (go_quiet (fail);try go_wp2)
      go_roundg k1
      case measure=>have:=HK1.out;omega
      case rel=>exact ⟨(wrap64 (x5_1+1)),fg,H',⟨by have:=HK1.out;omega⟩,by repeat (first|exact Drawn0.refl _|apply Drawn0.step)⟩
     ·intro c7 c7b0 c7b1 H;obtain rfl:=si H;have p8:0≤(x5_1:Int):=oa;have q8:x5_1<(l0.length:Int):=oa;obtain ⟨ad8,e8,hx8_0⟩:=Kd.at_string HR0.out x5_1 p8 q8
      cases e8
      replace p8:=eq_true p8;replace q8:=eq_true q8;have p9:0≤(x5_1:Int):=oa;have q9:x5_1<(l1.length:Int):=oa;obtain ⟨ad9,e9,hx9_0⟩:=Kd.at_string HR1.out x5_1 p9 q9
      cases e9
      replace p9:=eq_true p9;replace q9:=eq_true q9
      go_wp2
      repeat (go_quiet (fail);try go_wp2)
      go_ret
      exact ⟨fg,dr⟩
    ·intro c4b0 H;obtain rfl:=si H
     go_wp2
     repeat (go_quiet (fail);try go_wp2)
     go_ret
     exact ⟨fg,dr⟩
 ·intro c3 c3b0 c3b1 H
  have c3b2:(l0.length == l1.length)=false:=by first|simpa using c3|(simp at c3 ⊢;omega)
  obtain rfl:=si H
  go_in
  go_wp2
  repeat (go_quiet (fail);try go_wp2)
  go_ret
  exact ⟨fg,dr⟩
theorem laws_eqElement.calls (k:Nat) (A0_0:Option Addr) (c0_0:Nat) (l0_0:List ByteArray) (A1_0:Option Addr) (c1_0:Nat) (l1_0:List ByteArray) (r:Bool) (w:World) (hr0_0:Kd.C Kd.string w A0_0 l0_0.length l0_0) (hc0_0:l0_0.length≤c0_0) (hr1_0:Kd.C Kd.string w A1_0 l1_0.length l1_0) (hc1_0:l1_0.length≤c1_0) (H:laws_eqElement.f k l0_0 l1_0=some r) :
  Calls Tryz.prog 77 #[.agg #[.slice A0_0 l0_0.length c0_0],.agg #[.slice A1_0 l1_0.length c1_0]] w fun e w'=>e=.returned (.bool r)∧Below w.heap.size w w':=by
 have hu77:=Tryz.underlying77;have HR0_0:=am hr0_0;have HC0_0:=am hc0_0;clear hr0_0 hc0_0;have HR1_0:=am hr1_0;have HC1_0:=am hc1_0;clear hr1_0 hc1_0;have HB:=am (Below.refl w.heap.size w);unfold laws_eqElement.f at H;replace H:=bo H;obtain ⟨t11,A3,H⟩:=H
 go_in
 try go_wp2_with (first|((with_reducible refine gate_dst (N:=2) rfl ?_);refine bz 2 (cs:=#[.slice A0_0 l0_0.length c0_0]) (t:=77) HB ?_;clear HB;intro gb9 hg w4 BK9 GW9 hb HB;clear hb hg)|((with_reducible refine gate_dst (N:=3) rfl ?_);refine bz 3 (cs:=#[.slice A1_0 l1_0.length c1_0]) (t:=77) HB ?_;clear HB;intro gb10 hg w5 BK10 GW10 hb HB;have NB9_10:=na hg BK9;have NB10_9:=nc hg BK9;replace BK9:=bb BK9 hb;clear hb hg;have hnb6:=NB9_10.out;have hnc6:=NB10_9.out;have hcz7:=cf1 BK9;have hcz8:=cf1 BK10))
 go_at_call 22;(with_reducible refine (laws_eqStringS.calls k _ _ l0_0 _ _ l1_0 t11 _ (Kd.C_below HR0_0.out (bs HB)) HC0_0.out (Kd.C_below HR1_0.out (bs HB)) HC1_0.out A3.out).mono ?_);rintro e w' ⟨rfl,⟨nd,rfl⟩⟩
 obtain rfl|rfl:=bt t11
 ·replace H:=itT H;obtain rfl:=si H
  go_wp2
  go_ret
  exact ⟨ff,bs HB⟩
 ·replace H:=itF H;obtain rfl:=si H
  go_wp2
  go_ret
  exact ⟨ff,bs HB⟩
def laws_eqElementS.T6:Bool × List (List Nat × List Nat):=(true,[([],[]),([],[]),([0,1],[0,1]),([2],[2]),([],[]),([],[]),([4,5],[4,5]),([6],[6]),([3,7],[3,7]),([8],[8])])
def laws_eqElementS.B6:List Nat:=[0,0,3,7,0,0,48,112,255,511]
theorem laws_eqElementS.tab6:rtab .any (opsOf Tryz.f48 6)=laws_eqElementS.T6:=by kernel_rfl
theorem laws_eqElementS.bits6:waitsOk laws_eqElementS.T6.2 laws_eqElementS.B6=true:=by kernel_rfl
theorem laws_eqElementS.calls (k:Nat) (A0:Option Addr) (c0:Nat) (l0:List (S77)) (A1:Option Addr) (c1:Nat) (l1:List (S77)) (r:Bool) (w:World) (hr0:Kd.C k77 w A0 l0.length l0) (hc0:l0.length≤c0) (hr1:Kd.C k77 w A1 l1.length l1) (hc1:l1.length≤c1) (H:laws_eqElementS.f k l0 l1=some r) :
  Calls Tryz.prog 48 #[.slice A0 l0.length c0,.slice A1 l1.length c1] w fun e w'=>e=.returned (.bool r)∧Below w.heap.size w w':=by
 have hu77:=Tryz.underlying77;have HR0:=am hr0;have HC0:=am hc0;clear hr0 hc0;have HR1:=am hr1;have HC1:=am hc1;clear hr1 hc1;have HB:=am (Below.refl w.heap.size w);unfold laws_eqElementS.f at H
 revert H;refine ie2k ?_ ?_
 ·intro c3 c3b0 c3b1 H
  have c3b2:(l0.length == l1.length)=true:=by first|simpa using c3|(simp at c3 ⊢;omega)
  clear c3;have H':=am H;clear H
  go_in
  go_wp2
  go_loopg [5] k (fun kq v5 w'=>∃ (x5_1:Int),v5=.int .i64 x5_1∧Aside0 (laws_eqElementS.l0 kq l0 l1 x5_1=some r)∧Aside0 (kq≤k)∧Aside0 (Below w.heap.size w w'))
  case atStart=>exact ⟨(0),fg,H',⟨Nat.le_refl _⟩,⟨bs HB⟩⟩
  case round =>
   clear H'
   try clear c1
   try clear c3
   try clear c3b0
   try clear c3b1
   try clear c3b2
   obtain ⟨x5_1,rfl,HA,HK1,HB⟩:=hrel
   cases gk with
   | zero=>exact absurd HA.out (by simp [laws_eqElementS.l0])
   | succ k1 =>
    have H:=HA.out;clear HA;simp only [laws_eqElementS.l0] at H
    revert H;refine id2 ?_ ?_
    ·intro c4b0 H
     revert H;refine id1 ?_
     intro c5b0 H
     revert H;refine id1 ?_
     intro c6b0 H;replace H:=bo H;obtain ⟨t15,A7,H⟩:=H
     obtain rfl|rfl:=bt t15
     ·replace H:=itT H;have H':=am H;clear H
      try go_wp2
      replace HB:=am (below_drew1 HB.out);have p13:0≤(x5_1:Int):=oa;have q13:x5_1<(l0.length:Int):=oa;obtain ⟨ad13,A13_0,c13_0,e13,hx13_0,hl13_0,hi13_0⟩:=at_T77 HR0.out x5_1 p13 q13;have hw13_0:=hx13_0
      cases e13
      replace hx13_0:=cb HB hx13_0;have HR13_0:=am hi13_0;have HC13_0:=am hl13_0;clear hi13_0 hl13_0;replace p13:=eq_true p13;replace q13:=eq_true q13;have p14:0≤(x5_1:Int):=oa;have q14:x5_1<(l1.length:Int):=oa;obtain ⟨ad14,A14_0,c14_0,e14,hx14_0,hl14_0,hi14_0⟩:=at_T77 HR1.out x5_1 p14 q14;have hw14_0:=hx14_0
      cases e14
      replace hx14_0:=cb HB hx14_0;have HR14_0:=am hi14_0;have HC14_0:=am hl14_0;clear hi14_0 hl14_0;replace p14:=eq_true p14;replace q14:=eq_true q14;refine sta 10 (hca (cb HB hw13_0) (hc (cb HB hw14_0))) (fun hHeld=>?_);refine with_tabW laws_eqElementS.tab6 laws_eqElementS.bits6 (fun HT_ HW_=>?_)
      generalize wr.drew=w9 at HB HR13_0 HR14_0 hx13_0 hx14_0 hHeld ⊢
      refine pz3 0 ?_;refine pz3 4 ?_;refine ta 3 ?_;refine ta 7 ?_;refine oA 8 25 HT_ (fun K hK=>?_);refine gA Tryz.func77 #[.agg #[.slice A13_0 ((rd_T77 l0 x5_1).f0).length c13_0],.agg #[.slice A14_0 ((rd_T77 l1 x5_1).f0).length c14_0]] ?_;(with_reducible refine (laws_eqElement.calls k1 _ _ ((rd_T77 l0 x5_1).f0) _ _ ((rd_T77 l1 x5_1).f0) true _ ?side1 ?side2 ?side3 ?side4 A7.out).mono ?_)
      (case side1=>exact sd (Kd.C_below HR13_0.out HB.out))
      (case side2=>exact HC13_0.out)
      (case side3=>exact sd (Kd.C_below HR14_0.out HB.out))
      (case side4=>exact HC14_0.out)
      rintro e w10 ⟨rfl,hb⟩;refine ⟨_,rfl,?_⟩;replace HB:=bq HB hb;(try clear hb);(try clear hb2);(try clear hk);(try clear hi);refine hK.out _ _ (hca (cb HB hw13_0) (hc (cb HB hw14_0))).out (fun hHeld=>?_);clear hK K;refine nA 25 ?_;refine pz1 9 ?_;refine done_ (done_of HT_.out (by kernel_rfl)) ?_
      try go_wp2
      go_roundg k1
      case measure=>have:=HK1.out;omega
      case rel=>exact ⟨(wrap64 (x5_1+1)),fg,H',⟨by have:=HK1.out;omega⟩,⟨bs HB⟩⟩
     ·replace H:=itF H;obtain rfl:=si H
      try go_wp2
      replace HB:=am (below_drew1 HB.out);have p13:0≤(x5_1:Int):=oa;have q13:x5_1<(l0.length:Int):=oa;obtain ⟨ad13,A13_0,c13_0,e13,hx13_0,hl13_0,hi13_0⟩:=at_T77 HR0.out x5_1 p13 q13;have hw13_0:=hx13_0
      cases e13
      replace hx13_0:=cb HB hx13_0;have HR13_0:=am hi13_0;have HC13_0:=am hl13_0;clear hi13_0 hl13_0;replace p13:=eq_true p13;replace q13:=eq_true q13;have p14:0≤(x5_1:Int):=oa;have q14:x5_1<(l1.length:Int):=oa;obtain ⟨ad14,A14_0,c14_0,e14,hx14_0,hl14_0,hi14_0⟩:=at_T77 HR1.out x5_1 p14 q14;have hw14_0:=hx14_0
      cases e14
      replace hx14_0:=cb HB hx14_0;have HR14_0:=am hi14_0;have HC14_0:=am hl14_0;clear hi14_0 hl14_0;replace p14:=eq_true p14;replace q14:=eq_true q14;refine sta 10 (hca (cb HB hw13_0) (hc (cb HB hw14_0))) (fun hHeld=>?_);refine with_tabW laws_eqElementS.tab6 laws_eqElementS.bits6 (fun HT_ HW_=>?_)
      generalize wr.drew=w11 at HB HR13_0 HR14_0 hx13_0 hx14_0 hHeld ⊢
      refine pz3 0 ?_;refine pz3 4 ?_;refine ta 3 ?_;refine ta 7 ?_;refine oA 8 25 HT_ (fun K hK=>?_);refine gA Tryz.func77 #[.agg #[.slice A13_0 ((rd_T77 l0 x5_1).f0).length c13_0],.agg #[.slice A14_0 ((rd_T77 l1 x5_1).f0).length c14_0]] ?_;(with_reducible refine (laws_eqElement.calls k1 _ _ ((rd_T77 l0 x5_1).f0) _ _ ((rd_T77 l1 x5_1).f0) false _ ?side1 ?side2 ?side3 ?side4 A7.out).mono ?_)
      (case side1=>exact sd (Kd.C_below HR13_0.out HB.out))
      (case side2=>exact HC13_0.out)
      (case side3=>exact sd (Kd.C_below HR14_0.out HB.out))
      (case side4=>exact HC14_0.out)
      rintro e w12 ⟨rfl,hb⟩;refine ⟨_,rfl,?_⟩;replace HB:=bq HB hb;(try clear hb);(try clear hb2);(try clear hk);(try clear hi);refine hK.out _ _ (hca (cb HB hw13_0) (hc (cb HB hw14_0))).out (fun hHeld=>?_);clear hK K;refine nA 25 ?_;refine pz1 9 ?_;refine done_ (done_of HT_.out (by kernel_rfl)) ?_
      try go_wp2
      go_ret
      exact ⟨ff,bs HB⟩
    ·intro c4b0 H;obtain rfl:=si H
     go_wp2
     go_ret
     exact ⟨ff,bs HB⟩
 ·intro c3 c3b0 c3b1 H
  have c3b2:(l0.length == l1.length)=false:=by first|simpa using c3|(simp at c3 ⊢;omega)
  obtain rfl:=si H
  go_in
  go_wp2
  go_ret
  exact ⟨ff,bs HB⟩
theorem laws_eqSegment.calls (k:Nat) (a0_0:ByteArray) (A0_1:Option Addr) (c0_1:Nat) (l0_1:List (S77)) (a1_0:ByteArray) (A1_1:Option Addr) (c1_1:Nat) (l1_1:List (S77)) (r:Bool) (w:World) (hr0_1:Kd.C k77 w A0_1 l0_1.length l0_1) (hc0_1:l0_1.length≤c0_1) (hr1_1:Kd.C k77 w A1_1 l1_1.length l1_1) (hc1_1:l1_1.length≤c1_1) (H:laws_eqSegment.f k a0_0 l0_1 a1_0 l1_1=some r) :
  Calls Tryz.prog 21 #[.agg #[.string a0_0,.slice A0_1 l0_1.length c0_1],.agg #[.string a1_0,.slice A1_1 l1_1.length c1_1]] w fun e w'=>e=.returned (.bool r)∧Below w.heap.size w w':=by
 have hu46:=Tryz.underlying46;have HR0_1:=am hr0_1;have HC0_1:=am hc0_1;clear hr0_1 hc0_1;have HR1_1:=am hr1_1;have HC1_1:=am hc1_1;clear hr1_1 hc1_1;have HB:=am (Below.refl w.heap.size w);unfold laws_eqSegment.f at H
 revert H;refine ie2 ?_ ?_
 ·intro c3b0 c3b1 H;replace H:=bo H;obtain ⟨t18,A4,H⟩:=H
  go_in
  try go_wp2_with (first|((with_reducible refine gate_dst (N:=2) rfl ?_);refine bz 2 (cs:=#[.string a0_0,.slice A0_1 l0_1.length c0_1]) (t:=46) HB ?_;clear HB;intro gb11 hg w5 BK11 GW11 hb HB;clear hb hg)|((with_reducible refine gate_dst (N:=3) rfl ?_);refine bz 3 (cs:=#[.string a1_0,.slice A1_1 l1_1.length c1_1]) (t:=46) HB ?_;clear HB;intro gb17 hg w6 BK17 GW17 hb HB;have NB11_17:=na hg BK11;have NB17_11:=nc hg BK11;replace BK11:=bb BK11 hb;clear hb hg;have hnb7:=NB11_17.out;have hnc7:=NB17_11.out;have hcz8:=cf2 BK11;have hcz9:=cf2 BK17))
  go_at_call 48;(with_reducible refine (laws_eqElementS.calls k _ _ l0_1 _ _ l1_1 t18 _ (Kd.C_below HR0_1.out (bs HB)) HC0_1.out (Kd.C_below HR1_1.out (bs HB)) HC1_1.out A4.out).mono ?_);rintro e w10 ⟨rfl,hb⟩;replace BK11:=bb BK11 hb;replace BK17:=bb BK17 hb;replace HB:=bq HB hb;(try clear hb);(try clear hb2);(try clear hk);(try clear hi)
  obtain rfl|rfl:=bt t18
  ·replace H:=itT H;obtain rfl:=si H
   go_wp2
   go_ret
   exact ⟨ff,bs HB⟩
  ·replace H:=itF H;obtain rfl:=si H
   go_wp2
   go_ret
   exact ⟨ff,bs HB⟩
 ·intro c3 c3b0 c3b1 H;obtain rfl:=si H
  go_in
  go_wp2_with (first|((with_reducible refine gate_dst (N:=2) rfl ?_);refine bz 2 (cs:=#[.string a0_0,.slice A0_1 l0_1.length c0_1]) (t:=46) HB ?_;clear HB;intro gb11 hg w12 BK11 GW11 hb HB;clear hb hg)|((with_reducible refine gate_dst (N:=3) rfl ?_);refine bz 3 (cs:=#[.string a1_0,.slice A1_1 l1_1.length c1_1]) (t:=46) HB ?_;clear HB;intro gb17 hg w13 BK17 GW17 hb HB;have NB11_17:=na hg BK11;have NB17_11:=nc hg BK11;replace BK11:=bb BK11 hb;clear hb hg;have hnb14:=NB11_17.out;have hnc14:=NB17_11.out;have hcz15:=cf2 BK11;have hcz16:=cf2 BK17))
  go_ret
  exact ⟨ff,bs HB⟩
def laws_eqSegmentS.T6:Bool × List (List Nat × List Nat):=(true,[([],[]),([],[]),([0,1],[0,1]),([2],[2]),([],[]),([],[]),([4,5],[4,5]),([6],[6]),([3,7],[3,7]),([8],[8])])
def laws_eqSegmentS.B6:List Nat:=[0,0,3,7,0,0,48,112,255,511]
theorem laws_eqSegmentS.tab6:rtab .any (opsOf Tryz.f8 6)=laws_eqSegmentS.T6:=by kernel_rfl
theorem laws_eqSegmentS.bits6:waitsOk laws_eqSegmentS.T6.2 laws_eqSegmentS.B6=true:=by kernel_rfl
theorem laws_eqSegmentS.calls (k:Nat) (A0:Option Addr) (c0:Nat) (l0:List (S46)) (A1:Option Addr) (c1:Nat) (l1:List (S46)) (r:Bool) (w:World) (hr0:Kd.C k46 w A0 l0.length l0) (hc0:l0.length≤c0) (hr1:Kd.C k46 w A1 l1.length l1) (hc1:l1.length≤c1) (H:laws_eqSegmentS.f k l0 l1=some r) :
  Calls Tryz.prog 8 #[.slice A0 l0.length c0,.slice A1 l1.length c1] w fun e w'=>e=.returned (.bool r)∧Below w.heap.size w w':=by
 have hu46:=Tryz.underlying46;have HR0:=am hr0;have HC0:=am hc0;clear hr0 hc0;have HR1:=am hr1;have HC1:=am hc1;clear hr1 hc1;have HB:=am (Below.refl w.heap.size w);unfold laws_eqSegmentS.f at H
 revert H;refine ie2k ?_ ?_
 ·intro c3 c3b0 c3b1 H
  have c3b2:(l0.length == l1.length)=true:=by first|simpa using c3|(simp at c3 ⊢;omega)
  clear c3;have H':=am H;clear H
  go_in
  go_wp2
  go_loopg [5] k (fun kq v5 w'=>∃ (x5_1:Int),v5=.int .i64 x5_1∧Aside0 (laws_eqSegmentS.l0 kq l0 l1 x5_1=some r)∧Aside0 (kq≤k)∧Aside0 (Below w.heap.size w w'))
  case atStart=>exact ⟨(0),fg,H',⟨Nat.le_refl _⟩,⟨bs HB⟩⟩
  case round =>
   clear H'
   try clear c1
   try clear c3
   try clear c3b0
   try clear c3b1
   try clear c3b2
   obtain ⟨x5_1,rfl,HA,HK1,HB⟩:=hrel
   cases gk with
   | zero=>exact absurd HA.out (by simp [laws_eqSegmentS.l0])
   | succ k1 =>
    have H:=HA.out;clear HA;simp only [laws_eqSegmentS.l0] at H
    revert H;refine id2 ?_ ?_
    ·intro c4b0 H
     revert H;refine id1 ?_
     intro c5b0 H
     revert H;refine id1 ?_
     intro c6b0 H;replace H:=bo H;obtain ⟨t15,A7,H⟩:=H
     obtain rfl|rfl:=bt t15
     ·replace H:=itT H;have H':=am H;clear H
      try go_wp2
      replace HB:=am (below_drew1 HB.out);have p13:0≤(x5_1:Int):=oa;have q13:x5_1<(l0.length:Int):=oa;obtain ⟨ad13,A13_1,c13_1,e13,hx13_0,hx13_1,hl13_1,hi13_1⟩:=at_T46 HR0.out x5_1 p13 q13;have hw13_1:=hx13_1;have hw13_0:=hx13_0
      cases e13
      replace hx13_0:=cb HB hx13_0;replace hx13_1:=cb HB hx13_1;have HR13_1:=am hi13_1;have HC13_1:=am hl13_1;clear hi13_1 hl13_1;replace p13:=eq_true p13;replace q13:=eq_true q13;have p14:0≤(x5_1:Int):=oa;have q14:x5_1<(l1.length:Int):=oa;obtain ⟨ad14,A14_1,c14_1,e14,hx14_0,hx14_1,hl14_1,hi14_1⟩:=at_T46 HR1.out x5_1 p14 q14;have hw14_1:=hx14_1;have hw14_0:=hx14_0
      cases e14
      replace hx14_0:=cb HB hx14_0;replace hx14_1:=cb HB hx14_1;have HR14_1:=am hi14_1;have HC14_1:=am hl14_1;clear hi14_1 hl14_1;replace p14:=eq_true p14;replace q14:=eq_true q14;refine sta 10 (hca (cb HB hw13_0) (hca (cb HB hw13_1) (hca (cb HB hw14_0) (hc (cb HB hw14_1))))) (fun hHeld=>?_);refine with_tabW laws_eqSegmentS.tab6 laws_eqSegmentS.bits6 (fun HT_ HW_=>?_)
      generalize wr.drew=w9 at HB HR13_1 HR14_1 hx13_0 hx13_1 hx14_0 hx14_1 hHeld ⊢
      refine pz3 0 ?_;refine pz3 4 ?_;refine ta 3 ?_;refine ta 7 ?_;refine oA 8 25 HT_ (fun K hK=>?_);refine gA Tryz.func21 #[.agg #[.string ((rd_T46 l0 x5_1).f0),.slice A13_1 ((rd_T46 l0 x5_1).f1).length c13_1],.agg #[.string ((rd_T46 l1 x5_1).f0),.slice A14_1 ((rd_T46 l1 x5_1).f1).length c14_1]] ?_;(with_reducible refine (laws_eqSegment.calls k1 ((rd_T46 l0 x5_1).f0) _ _ ((rd_T46 l0 x5_1).f1) ((rd_T46 l1 x5_1).f0) _ _ ((rd_T46 l1 x5_1).f1) true _ ?side1 ?side2 ?side3 ?side4 A7.out).mono ?_)
      (case side1=>exact sd (Kd.C_below HR13_1.out HB.out))
      (case side2=>exact HC13_1.out)
      (case side3=>exact sd (Kd.C_below HR14_1.out HB.out))
      (case side4=>exact HC14_1.out)
      rintro e w10 ⟨rfl,hb⟩;refine ⟨_,rfl,?_⟩;replace HB:=bq HB hb;(try clear hb);(try clear hb2);(try clear hk);(try clear hi);refine hK.out _ _ (hca (cb HB hw13_0) (hca (cb HB hw13_1) (hca (cb HB hw14_0) (hc (cb HB hw14_1))))).out (fun hHeld=>?_);clear hK K;refine nA 25 ?_;refine pz1 9 ?_;refine done_ (done_of HT_.out (by kernel_rfl)) ?_
      try go_wp2
      go_roundg k1
      case measure=>have:=HK1.out;omega
      case rel=>exact ⟨(wrap64 (x5_1+1)),fg,H',⟨by have:=HK1.out;omega⟩,⟨bs HB⟩⟩
     ·replace H:=itF H;obtain rfl:=si H
      try go_wp2
      replace HB:=am (below_drew1 HB.out);have p13:0≤(x5_1:Int):=oa;have q13:x5_1<(l0.length:Int):=oa;obtain ⟨ad13,A13_1,c13_1,e13,hx13_0,hx13_1,hl13_1,hi13_1⟩:=at_T46 HR0.out x5_1 p13 q13;have hw13_1:=hx13_1;have hw13_0:=hx13_0
      cases e13
      replace hx13_0:=cb HB hx13_0;replace hx13_1:=cb HB hx13_1;have HR13_1:=am hi13_1;have HC13_1:=am hl13_1;clear hi13_1 hl13_1;replace p13:=eq_true p13;replace q13:=eq_true q13;have p14:0≤(x5_1:Int):=oa;have q14:x5_1<(l1.length:Int):=oa;obtain ⟨ad14,A14_1,c14_1,e14,hx14_0,hx14_1,hl14_1,hi14_1⟩:=at_T46 HR1.out x5_1 p14 q14;have hw14_1:=hx14_1;have hw14_0:=hx14_0
      cases e14
      replace hx14_0:=cb HB hx14_0;replace hx14_1:=cb HB hx14_1;have HR14_1:=am hi14_1;have HC14_1:=am hl14_1;clear hi14_1 hl14_1;replace p14:=eq_true p14;replace q14:=eq_true q14;refine sta 10 (hca (cb HB hw13_0) (hca (cb HB hw13_1) (hca (cb HB hw14_0) (hc (cb HB hw14_1))))) (fun hHeld=>?_);refine with_tabW laws_eqSegmentS.tab6 laws_eqSegmentS.bits6 (fun HT_ HW_=>?_)
      generalize wr.drew=w11 at HB HR13_1 HR14_1 hx13_0 hx13_1 hx14_0 hx14_1 hHeld ⊢
      refine pz3 0 ?_;refine pz3 4 ?_;refine ta 3 ?_;refine ta 7 ?_;refine oA 8 25 HT_ (fun K hK=>?_);refine gA Tryz.func21 #[.agg #[.string ((rd_T46 l0 x5_1).f0),.slice A13_1 ((rd_T46 l0 x5_1).f1).length c13_1],.agg #[.string ((rd_T46 l1 x5_1).f0),.slice A14_1 ((rd_T46 l1 x5_1).f1).length c14_1]] ?_;(with_reducible refine (laws_eqSegment.calls k1 ((rd_T46 l0 x5_1).f0) _ _ ((rd_T46 l0 x5_1).f1) ((rd_T46 l1 x5_1).f0) _ _ ((rd_T46 l1 x5_1).f1) false _ ?side1 ?side2 ?side3 ?side4 A7.out).mono ?_)
      (case side1=>exact sd (Kd.C_below HR13_1.out HB.out))
      (case side2=>exact HC13_1.out)
      (case side3=>exact sd (Kd.C_below HR14_1.out HB.out))
      (case side4=>exact HC14_1.out)
      rintro e w12 ⟨rfl,hb⟩;refine ⟨_,rfl,?_⟩;replace HB:=bq HB hb;(try clear hb);(try clear hb2);(try clear hk);(try clear hi);refine hK.out _ _ (hca (cb HB hw13_0) (hca (cb HB hw13_1) (hca (cb HB hw14_0) (hc (cb HB hw14_1))))).out (fun hHeld=>?_);clear hK K;refine nA 25 ?_;refine pz1 9 ?_;refine done_ (done_of HT_.out (by kernel_rfl)) ?_
      try go_wp2
      go_ret
      exact ⟨ff,bs HB⟩
    ·intro c4b0 H;obtain rfl:=si H
     go_wp2
     go_ret
     exact ⟨ff,bs HB⟩
 ·intro c3 c3b0 c3b1 H
  have c3b2:(l0.length == l1.length)=false:=by first|simpa using c3|(simp at c3 ⊢;omega)
  obtain rfl:=si H
  go_in
  go_wp2
  go_ret
  exact ⟨ff,bs HB⟩
theorem laws_eqLine.calls (a0_0:Int) (a0_1:ByteArray) (a0_2:Int) (a0_3:Int) (a0_4:ByteArray) (a1_0:Int) (a1_1:ByteArray) (a1_2:Int) (a1_3:Int) (a1_4:ByteArray) (r:Bool) (w:World) (H:laws_eqLine.f a0_0 a0_1 a0_2 a0_3 a0_4 a1_0 a1_1 a1_2 a1_3 a1_4=some r) :
  Calls Tryz.prog 49 #[.agg #[.int .i64 a0_0,.string a0_1,.int .i64 a0_2,.int .i64 a0_3,.string a0_4],.agg #[.int .i64 a1_0,.string a1_1,.int .i64 a1_2,.int .i64 a1_3,.string a1_4]] w fun e w'=>e=.returned (.bool r)∧Below w.heap.size w w':=by
 have hu:=Tryz.underlying63;have HB:=am (Below.refl w.heap.size w);unfold laws_eqLine.f at H
 go_in
 go_upto_region 1 with (first|((with_reducible refine gate_dst (N:=2) rfl ?_);refine bx 2 (cs:=#[.int .i64 a0_0,.string a0_1,.int .i64 a0_2,.int .i64 a0_3,.string a0_4]) (t:=63) ?_;intro g0 hg wa hbox hb;have B0:=am hbox;replace HB:=bq HB hb;clear hb hbox hg)|((with_reducible refine gate_dst (N:=3) rfl ?_);refine bx 3 (cs:=#[.int .i64 a1_0,.string a1_1,.int .i64 a1_2,.int .i64 a1_3,.string a1_4]) (t:=63) ?_;intro g1 hg wb hbox hb;have B1:=am hbox;replace HB:=bq HB hb;replace B0:=am (blk_below (ks B0) hb);clear hb hbox hg;have z0:=cf5 B0;have z1:=cf5 B1))
 revert H;refine ie1 ?_
 intro c0b0 c0b1 H
 go_upto_region 3 with (fail)
 revert H;refine ie1 ?_
 intro c1b0 c1b1 H
 go_upto_region 5 with (fail)
 revert H;refine ie1 ?_
 intro c2b0 c2b1 H
 go_upto_region 7 with (fail)
 revert H;refine ie1 ?_
 intro c3b0 c3b1 H
 go_upto_region 9 with (fail)
 revert H;refine ie1 ?_
 intro c4b0 c4b1 H;obtain rfl:=si H
 go_wp2
 go_ret
 exact ⟨ff,bs HB⟩
def laws_eqT:Bool × List (List Nat × List Nat):=(true,[([],[]),([],[]),([0,1],[0,1]),([2],[2]),([],[]),([],[]),([4,5],[4,5]),([6],[6]),([3,7],[3,7]),([8],[8])])
def laws_eqB:List Nat:=[0,0,3,7,0,0,48,112,255,511]
theorem laws_eqLineS.calls (k:Nat) (A0:Option Addr) (c0:Nat) (l0:List (S63)) (A1:Option Addr) (c1:Nat) (l1:List (S63)) (r:Bool) (w:World) (hr0:Kd.C k63 w A0 l0.length l0) (hc0:l0.length≤c0) (hr1:Kd.C k63 w A1 l1.length l1) (hc1:l1.length≤c1) (H:laws_eqLineS.f k l0 l1=some r) :
  Calls Tryz.prog 23 #[.slice A0 l0.length c0,.slice A1 l1.length c1] w fun e w'=>e=.returned (.bool r)∧Below w.heap.size w w':=by
 have hu:=Tryz.underlying63;have HR0:=am hr0;have HR1:=am hr1;clear hr0 hc0 hr1 hc1;have HB:=am (Below.refl w.heap.size w);unfold laws_eqLineS.f at H
 go_in
 revert H;refine ie1k ?_
 intro c3 c3b0 c3b1 H
 have c3b2:(l0.length == l1.length)=true:=by first|simpa using c3|(simp at c3 ⊢;omega)
 clear c3;have H':=am H;clear H
 go_wp2
 go_loopg [5] k (fun kq v5 w'=>∃ (x5:Int),v5=.int .i64 x5∧Aside0 (laws_eqLineS.l0 kq l0 l1 x5=some r)∧Aside0 (kq≤k)∧Aside0 (Below w.heap.size w w'))
 case atStart=>exact ⟨0,fg,H',⟨Nat.le_refl _⟩,⟨bs HB⟩⟩
 case round =>
  clear H';(try clear c3b0);(try clear c3b1);(try clear c3b2);obtain ⟨x5,rfl,HA,HK1,HB⟩:=hrel
  cases gk with
  | zero=>exact absurd HA.out (by simp [laws_eqLineS.l0])
  | succ k1 =>
   have H:=HA.out;clear HA;simp only [laws_eqLineS.l0] at H
   revert H;refine id2 ?_ ?_
   ·intro c4b0 H;revert H;refine id1 ?_;intro c5b0 H;revert H;refine id1 ?_;intro c6b0 H;replace H:=bo H;obtain ⟨t,A7,H⟩:=H;have p1:0≤(x5:Int):=oa;have q1:x5<(l0.length:Int):=oa;have q2:x5<(l1.length:Int):=oa;obtain ⟨ad,ea,g0,g1,g2,g3,g4⟩:=at_T63 HR0.out x5 p1 q1;obtain ⟨ae,ee,j0,j1,j2,j3,j4⟩:=at_T63 HR1.out x5 p1 q2;cases ea;cases ee;replace p1:=eq_true p1;replace q1:=eq_true q1;replace q2:=eq_true q2;have G0:=am g0;have J0:=am j0;clear g0 j0;have G1:=am g1;have J1:=am j1;clear g1 j1;have G2:=am g2;have J2:=am j2;clear g2 j2;have G3:=am g3;have J3:=am j3;clear g3 j3;have G4:=am g4;have J4:=am j4;clear g4 j4
    try go_wp2
    replace HB:=am (below_drew1 HB.out);refine sta 10 (hca (cb HB G0.out) (hca (cb HB G1.out) (hca (cb HB G2.out) (hca (cb HB G3.out) (hca (cb HB G4.out) (hca (cb HB J0.out) (hca (cb HB J1.out) (hca (cb HB J2.out) (hca (cb HB J3.out) (hc (cb HB J4.out))))))))))) (fun hHeld=>?_);refine with_tabW (show rtab .any (opsOf Tryz.f23 6)=laws_eqT from by kernel_rfl) (show waitsOk laws_eqT.2 laws_eqB=true from by kernel_rfl) (fun HT_ HW_=>?_)
    generalize wr.drew=wa at HB hHeld ⊢
    refine pz3 0 ?_;refine pz3 4 ?_;refine ta 3 ?_;refine ta 7 ?_;refine oA 8 25 HT_ (fun K hK=>?_);refine gA Tryz.func49 #[.agg #[.int .i64 (rd_T63 l0 x5).f0,.string (rd_T63 l0 x5).f1,.int .i64 (rd_T63 l0 x5).f2,.int .i64 (rd_T63 l0 x5).f3,.string (rd_T63 l0 x5).f4],.agg #[.int .i64 (rd_T63 l1 x5).f0,.string (rd_T63 l1 x5).f1,.int .i64 (rd_T63 l1 x5).f2,.int .i64 (rd_T63 l1 x5).f3,.string (rd_T63 l1 x5).f4]] ?_;(with_reducible refine (laws_eqLine.calls ((rd_T63 l0 x5).f0) ((rd_T63 l0 x5).f1) ((rd_T63 l0 x5).f2) ((rd_T63 l0 x5).f3) ((rd_T63 l0 x5).f4) ((rd_T63 l1 x5).f0) ((rd_T63 l1 x5).f1) ((rd_T63 l1 x5).f2) ((rd_T63 l1 x5).f3) ((rd_T63 l1 x5).f4) t _ A7.out).mono ?_);rintro e wb ⟨rfl,hb⟩;refine ⟨_,rfl,?_⟩;replace HB:=bq HB hb;clear hb;refine hK.out _ _ (hca (cb HB G0.out) (hca (cb HB G1.out) (hca (cb HB G2.out) (hca (cb HB G3.out) (hca (cb HB G4.out) (hca (cb HB J0.out) (hca (cb HB J1.out) (hca (cb HB J2.out) (hca (cb HB J3.out) (hc (cb HB J4.out))))))))))).out (fun hHeld=>?_);clear hK K;refine nA 25 ?_;refine pz1 9 ?_;refine done_ (done_of HT_.out (by kernel_rfl)) ?_;clear HT_ HW_ hHeld
    obtain rfl|rfl:=bt t;rotate_left
    ·replace H:=itF H;cases H
    replace H:=itT H;have H':=am H;clear H
    try go_wp2
    go_roundg k1
    case measure=>have:=HK1.out;omega
    case rel=>exact ⟨wrap64 (x5+1),fg,H',⟨by have:=HK1.out;omega⟩,⟨bs HB⟩⟩
   ·intro c4b0 H;obtain rfl:=si H
    go_wp2
    go_ret
    exact ⟨ff,bs HB⟩
theorem laws_eqPaper.calls (k:Nat) (a0_0:Int) (a0_1:ByteArray) (a0_2:ByteArray) (a0_3:Int) (A0_4:Option Addr) (c0_4:Nat) (l0_4:List ByteArray) (A0_5:Option Addr) (c0_5:Nat) (l0_5:List (S63)) (a1_0:Int) (a1_1:ByteArray) (a1_2:ByteArray) (a1_3:Int) (A1_4:Option Addr) (c1_4:Nat) (l1_4:List ByteArray) (A1_5:Option Addr) (c1_5:Nat) (l1_5:List (S63)) (r:Bool) (w:World) (hr0_4:Kd.C Kd.string w A0_4 l0_4.length l0_4) (hc0_4:l0_4.length≤c0_4) (hr0_5:Kd.C k63 w A0_5 l0_5.length l0_5) (hc0_5:l0_5.length≤c0_5) (hr1_4:Kd.C Kd.string w A1_4 l1_4.length l1_4) (hc1_4:l1_4.length≤c1_4) (hr1_5:Kd.C k63 w A1_5 l1_5.length l1_5) (hc1_5:l1_5.length≤c1_5) (H:laws_eqPaper.f k a0_0 a0_1 a0_2 a0_3 l0_4 l0_5 a1_0 a1_1 a1_2 a1_3 l1_4 l1_5=some r) :
  Calls Tryz.prog 9 #[.agg #[.int .i64 a0_0,.string a0_1,.string a0_2,.int .i64 a0_3,.slice A0_4 l0_4.length c0_4,.slice A0_5 l0_5.length c0_5],.agg #[.int .i64 a1_0,.string a1_1,.string a1_2,.int .i64 a1_3,.slice A1_4 l1_4.length c1_4,.slice A1_5 l1_5.length c1_5]] w fun e w'=>e=.returned (.bool r)∧Below w.heap.size w w':=by
 have hu31:=Tryz.underlying31;have HR0_4:=am hr0_4;have HC0_4:=am hc0_4;clear hr0_4 hc0_4;have HR0_5:=am hr0_5;have HC0_5:=am hc0_5;clear hr0_5 hc0_5;have HR1_4:=am hr1_4;have HC1_4:=am hc1_4;clear hr1_4 hc1_4;have HR1_5:=am hr1_5;have HC1_5:=am hc1_5;clear hr1_5 hc1_5;have HB:=am (Below.refl w.heap.size w);unfold laws_eqPaper.f at H
 revert H;refine ie2 ?_ ?_
 ·intro c3b0 c3b1 H
  revert H;refine ie2 ?_ ?_
  ·intro c4b0 c4b1 H
   revert H;refine ie2 ?_ ?_
   ·intro c5b0 c5b1 H
    revert H;refine ie2 ?_ ?_
    ·intro c6b0 c6b1 H;replace H:=bo H;obtain ⟨t40,A7,H⟩:=H
     go_in
     try go_wp2_with (first|((with_reducible refine gate_dst (N:=2) rfl ?_);refine bz 2 (cs:=#[.int .i64 a0_0,.string a0_1,.string a0_2,.int .i64 a0_3,.slice A0_4 l0_4.length c0_4,.slice A0_5 l0_5.length c0_5]) (t:=31) HB ?_;clear HB;intro gb13 hg w8 BK13 GW13 hb HB;clear hb hg)|((with_reducible refine gate_dst (N:=3) rfl ?_);refine bz 3 (cs:=#[.int .i64 a1_0,.string a1_1,.string a1_2,.int .i64 a1_3,.slice A1_4 l1_4.length c1_4,.slice A1_5 l1_5.length c1_5]) (t:=31) HB ?_;clear HB;intro gb19 hg w9 BK19 GW19 hb HB;have NB13_19:=na hg BK13;have NB19_13:=nc hg BK13;replace BK13:=bb BK13 hb;clear hb hg;have hnb10:=NB13_19.out;have hnc10:=NB19_13.out;have hcz11:=cf6 BK13;have hcz12:=cf6 BK19))
     go_at_call 22;(with_reducible refine (laws_eqStringS.calls k _ _ l0_4 _ _ l1_4 t40 _ (Kd.C_below HR0_4.out (bs HB)) HC0_4.out (Kd.C_below HR1_4.out (bs HB)) HC1_4.out A7.out).mono ?_);rintro e w' ⟨rfl,⟨nd,rfl⟩⟩
     obtain rfl|rfl:=bt t40
     ·replace H:=itT H;replace H:=bo H;obtain ⟨t41,A14,H⟩:=H;have hnb15:=NB13_19.out;have hnc15:=NB19_13.out;have hcz16:=cf6 BK13;have hcz17:=cf6 BK19
      try go_wp2_with (fail)
      go_at_call 23;(with_reducible refine (laws_eqLineS.calls k _ _ l0_5 _ _ l1_5 t41 _ ?side1 HC0_5.out ?side3 HC1_5.out A14.out).mono ?_);(case side1=>repeat (first|exact (Kd.C_below HR0_5.out (bs HB))|(with_reducible refine Kd.C_alloc ?_ _)|(with_reducible refine Kd.C_drewN ?_ _)|(with_reducible refine Kd.C_drew ?_)));(case side3=>repeat (first|exact (Kd.C_below HR1_5.out (bs HB))|(with_reducible refine Kd.C_alloc ?_ _)|(with_reducible refine Kd.C_drewN ?_ _)|(with_reducible refine Kd.C_drew ?_)));rintro e w18 ⟨rfl,hb⟩;replace BK13:=bb BK13 hb;replace BK19:=bb BK19 hb;replace HB:=bq HB hb;(try clear hb);(try clear hb2);(try clear hk);(try clear hi)
      obtain rfl|rfl:=bt t41
      ·replace H:=itT H;obtain rfl:=si H
       go_wp2
       go_ret
       exact ⟨ff,bs HB⟩
      ·replace H:=itF H;obtain rfl:=si H
       go_wp2
       go_ret
       exact ⟨ff,bs HB⟩
     ·replace H:=itF H;obtain rfl:=si H
      go_wp2
      go_ret
      exact ⟨ff,bs HB⟩
    ·intro c6 c6b0 c6b1 H;obtain rfl:=si H
     go_in
     go_wp2_with (first|((with_reducible refine gate_dst (N:=2) rfl ?_);refine bz 2 (cs:=#[.int .i64 a0_0,.string a0_1,.string a0_2,.int .i64 a0_3,.slice A0_4 l0_4.length c0_4,.slice A0_5 l0_5.length c0_5]) (t:=31) HB ?_;clear HB;intro gb13 hg w20 BK13 GW13 hb HB;clear hb hg)|((with_reducible refine gate_dst (N:=3) rfl ?_);refine bz 3 (cs:=#[.int .i64 a1_0,.string a1_1,.string a1_2,.int .i64 a1_3,.slice A1_4 l1_4.length c1_4,.slice A1_5 l1_5.length c1_5]) (t:=31) HB ?_;clear HB;intro gb19 hg w21 BK19 GW19 hb HB;have NB13_19:=na hg BK13;have NB19_13:=nc hg BK13;replace BK13:=bb BK13 hb;clear hb hg;have hnb22:=NB13_19.out;have hnc22:=NB19_13.out;have hcz23:=cf6 BK13;have hcz24:=cf6 BK19))
     go_ret
     exact ⟨ff,bs HB⟩
   ·intro c5 c5b0 c5b1 H;obtain rfl:=si H
    go_in
    go_wp2_with (first|((with_reducible refine gate_dst (N:=2) rfl ?_);refine bz 2 (cs:=#[.int .i64 a0_0,.string a0_1,.string a0_2,.int .i64 a0_3,.slice A0_4 l0_4.length c0_4,.slice A0_5 l0_5.length c0_5]) (t:=31) HB ?_;clear HB;intro gb13 hg w25 BK13 GW13 hb HB;clear hb hg)|((with_reducible refine gate_dst (N:=3) rfl ?_);refine bz 3 (cs:=#[.int .i64 a1_0,.string a1_1,.string a1_2,.int .i64 a1_3,.slice A1_4 l1_4.length c1_4,.slice A1_5 l1_5.length c1_5]) (t:=31) HB ?_;clear HB;intro gb19 hg w26 BK19 GW19 hb HB;have NB13_19:=na hg BK13;have NB19_13:=nc hg BK13;replace BK13:=bb BK13 hb;clear hb hg;have hnb27:=NB13_19.out;have hnc27:=NB19_13.out;have hcz28:=cf6 BK13;have hcz29:=cf6 BK19))
    go_ret
    exact ⟨ff,bs HB⟩
  ·intro c4 c4b0 c4b1 H;obtain rfl:=si H
   go_in
   go_wp2_with (first|((with_reducible refine gate_dst (N:=2) rfl ?_);refine bz 2 (cs:=#[.int .i64 a0_0,.string a0_1,.string a0_2,.int .i64 a0_3,.slice A0_4 l0_4.length c0_4,.slice A0_5 l0_5.length c0_5]) (t:=31) HB ?_;clear HB;intro gb13 hg w30 BK13 GW13 hb HB;clear hb hg)|((with_reducible refine gate_dst (N:=3) rfl ?_);refine bz 3 (cs:=#[.int .i64 a1_0,.string a1_1,.string a1_2,.int .i64 a1_3,.slice A1_4 l1_4.length c1_4,.slice A1_5 l1_5.length c1_5]) (t:=31) HB ?_;clear HB;intro gb19 hg w31 BK19 GW19 hb HB;have NB13_19:=na hg BK13;have NB19_13:=nc hg BK13;replace BK13:=bb BK13 hb;clear hb hg;have hnb32:=NB13_19.out;have hnc32:=NB19_13.out;have hcz33:=cf6 BK13;have hcz34:=cf6 BK19))
   go_ret
   exact ⟨ff,bs HB⟩
 ·intro c3 c3b0 c3b1 H;obtain rfl:=si H
  go_in
  go_wp2_with (first|((with_reducible refine gate_dst (N:=2) rfl ?_);refine bz 2 (cs:=#[.int .i64 a0_0,.string a0_1,.string a0_2,.int .i64 a0_3,.slice A0_4 l0_4.length c0_4,.slice A0_5 l0_5.length c0_5]) (t:=31) HB ?_;clear HB;intro gb13 hg w35 BK13 GW13 hb HB;clear hb hg)|((with_reducible refine gate_dst (N:=3) rfl ?_);refine bz 3 (cs:=#[.int .i64 a1_0,.string a1_1,.string a1_2,.int .i64 a1_3,.slice A1_4 l1_4.length c1_4,.slice A1_5 l1_5.length c1_5]) (t:=31) HB ?_;clear HB;intro gb19 hg w36 BK19 GW19 hb HB;have NB13_19:=na hg BK13;have NB19_13:=nc hg BK13;replace BK13:=bb BK13 hb;clear hb hg;have hnb37:=NB13_19.out;have hnc37:=NB19_13.out;have hcz38:=cf6 BK13;have hcz39:=cf6 BK19))
  go_ret
  exact ⟨ff,bs HB⟩
end Go.Proofs.YtaememmnhmebcaaGreatDoor.QB
