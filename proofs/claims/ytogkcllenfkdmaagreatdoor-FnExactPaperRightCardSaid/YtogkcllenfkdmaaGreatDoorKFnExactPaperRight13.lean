-- Merged by a program of this session (wip/tool/pack.py) out of its own texts for this claim.
import Derived.Test.YtogkcllenfkdmaaGreatDoorKFnExactPaperRight0
import Derived.Test.YtogkcllenfkdmaaGreatDoorKFnExactPaperRight1
import Derived.Test.YtogkcllenfkdmaaGreatDoorKFnExactPaperRight2
import Derived.Test.YtogkcllenfkdmaaGreatDoorKFnExactPaperRight3
import Derived.Test.YtogkcllenfkdmaaGreatDoorKFnExactPaperRight4
import Derived.Test.YtogkcllenfkdmaaGreatDoorKFnExactPaperRight12
namespace Go.Proofs.YtogkcllenfkdmaaGreatDoor.QR
open Go.RowKit Go.Proofs.YtogkcllenfkdmaaGreatDoorW.PrintWords Go.Proofs.YtogkcllenfkdmaaGreatDoorW.PrintLast Go.Proofs.YtogkcllenfkdmaaGreatDoorW.PrintMore
attribute [local go_sem] max2_int min2_int max_two min_two max_three min_three max_four min_four   -- for this text's walks alone
set_option linter.unusedVariables false
set_option linter.unusedSimpArgs false
set_option maxHeartbeats 8000000 in
set_option maxRecDepth 100000 in
theorem impl_tableOf.calls (k:Nat) (a0:Int) (r:List (S94)) (w:World) (H:impl_tableOf.f k a0=some r) :
  Calls Tryz.prog 69 #[.int .i64 a0] w fun e w'=>∃ v0_:Value,e=.returned (v0_)∧Kd.R k94 94 w' w.heap.size (fun _=>True) v0_ r∧Below w.heap.size w w':=by
 have hu94:=Tryz.underlying94;have HB:=am (Below.refl w.heap.size w);unfold impl_tableOf.f at H
 revert H;refine ie2 ?_ ?_
 ·intro c2b0 c2b1 H;replace H:=bo H;obtain ⟨⟨t450,t451,t452,t453⟩,A3,H⟩:=H;(try dsimp only at H);replace H:=bo H;obtain ⟨⟨t454,t455,t456,t457⟩,A4,H⟩:=H;(try dsimp only at H);obtain ⟨y458,hy458⟩:∃ y_:List (S94),y_=(([(⟨t450,t451,t452,t453⟩:S94),(⟨(⟨#[78,79,84]⟩:ByteArray),0,2,(⟨#[116]⟩:ByteArray)⟩:S94),(⟨t454,t455,t456,t457⟩:S94)]:List (S94))):=⟨_,rfl⟩
  replace H:(some y458)=some r:=ye hy458 H
  have Ny458:=am hy458;clear hy458;obtain rfl:=si H
  go_in
  try go_wp2_with (first|((with_reducible refine gate_dst (N:=4) rfl ?_);refine bx 4 (cs:=#[.string (⟨#[]⟩:ByteArray),.int .i64 0,.int .i64 0,.string (⟨#[]⟩:ByteArray)]) (t:=94) ?_;intro gb449 hg w5 hbox hb;have BK449:=am (hbox);have GW449:=am ((gs hg (bs HB)));have GE449:=am ((gs hg (bs HB)));replace HB:=am (below_step (bs HB) hb);clear hb hbox hg;have hcz6:=cf4 BK449))
  have n0_:Aside0 (((((w5.setCell ⟨gb449,0,none⟩ (.string (⟨#[78,79,84]⟩:ByteArray))).setCell ⟨gb449,1,none⟩ (.int .i64 0)).setCell ⟨gb449,2,none⟩ (.int .i64 2)).setCell ⟨gb449,3,none⟩ (.string (⟨#[116]⟩:ByteArray))).heap[gb449]? = some (.cells #[.string (⟨#[78,79,84]⟩:ByteArray),.int .i64 0,.int .i64 2,.string (⟨#[116]⟩:ByteArray)] 94 (0,0))):=⟨kp BK449⟩;have n1_:Aside0 (Below w.heap.size w ((((w5.setCell ⟨gb449,0,none⟩ (.string (⟨#[78,79,84]⟩:ByteArray))).setCell ⟨gb449,1,none⟩ (.int .i64 0)).setCell ⟨gb449,2,none⟩ (.int .i64 2)).setCell ⟨gb449,3,none⟩ (.string (⟨#[116]⟩:ByteArray)))):=⟨bs HB⟩;(try clear BK449);(try clear HB)
  generalize ((((w5.setCell ⟨gb449,0,none⟩ (.string (⟨#[78,79,84]⟩:ByteArray))).setCell ⟨gb449,1,none⟩ (.int .i64 0)).setCell ⟨gb449,2,none⟩ (.int .i64 2)).setCell ⟨gb449,3,none⟩ (.string (⟨#[116]⟩:ByteArray)))=w7 at n0_ n1_ ⊢
  have BK449:=n0_;have HB:=n1_;clear n0_ n1_;replace BK449:=am (blk_drew BK449.out);replace HB:=am (below_drew1 HB.out);refine sta 7 (hb4 BK449) (fun hHeld=>?_)
  generalize w7.drew=w8 at BK449 HB hHeld ⊢
  refine pure_ (i:=0) (N:=some 10) (v:=?_) (a':=?_) #[true,false,false,false,false,false,false] rfl rfl (by kernel_rfl) (fun _ _ _ h=>h) (Or.inl ⟨by rfl,?_⟩) ?_ ?_
  rotate_left
  ·intro w'
   go_simp
   (with_reducible rfl)
  rotate_left
  ·simp only [Act.put,List.setIfInBounds_toArray,List.set_cons_zero,List.set_cons_succ,i64_w,i32_w]
   rfl
  refine pure_ (i:=3) (N:=some 13) (v:=?_) (a':=?_) #[true,false,false,true,false,false,false] rfl rfl (by kernel_rfl) (fun _ _ _ h=>h) (Or.inl ⟨by rfl,?_⟩) ?_ ?_
  rotate_left
  ·intro w'
   go_simp
   (with_reducible rfl)
  rotate_left
  ·simp only [Act.put,List.setIfInBounds_toArray,List.set_cons_zero,List.set_cons_succ,i64_w,i32_w]
   rfl
  refine take_ (i:=2) (N:=some 12) (v:=?_) (a':=?_) #[true,false,true,true,false,false,false] rfl rfl (by kernel_rfl) (fun _ _ _ h=>h) (Or.inl ⟨by rfl,?_⟩) hHeld ?_ ?_
  rotate_left
  ·rintro w' ⟨s0,s1,s2,s3⟩
   go_simp
   (with_reducible rfl)
  rotate_left
  ·simp only [Act.put,List.setIfInBounds_toArray,List.set_cons_zero,List.set_cons_succ,i64_w,i32_w]
   rfl
  refine one_ (i:=1) (N:=some 11) #[true,true,true,true,false,false,false] rfl rfl (by kernel_rfl) (by decide) (fun K hK=>?_);refine goesV_ Tryz.func110 (by kernel_rfl) rfl #[.string (⟨#[114,100]⟩:ByteArray)] (by rfl) rfl rfl (by rfl) (by (try simp only [List.map_toArray,List.map_cons,List.map_nil]);first|done|rfl|(simp only [List.length_drop,List.length_take];rfl)) ?_;(with_reducible refine (impl_tableOf_1.calls (⟨#[114,100]⟩:ByteArray) t450 t451 t452 t453 _ A3.out).mono ?_);rintro e w9 ⟨rfl,hb⟩;refine ⟨_,rfl,?_⟩;replace BK449:=am (blk_below (g:=gb449) (o:=.cells #[.string (⟨#[78,79,84]⟩:ByteArray),.int .i64 0,.int .i64 2,.string (⟨#[116]⟩:ByteArray)] 94 (0,0)) (ks BK449) hb);replace HB:=am (below_step (bs HB) hb);(try clear hb);(try clear hb2);(try clear hk);(try clear hi);refine hK.out _ _ (hb4 BK449).out (fun hHeld=>?_);clear hK K;refine nA 11 ?_;refine one_ (i:=4) (N:=some 14) #[true,true,true,true,true,false,false] rfl rfl (by kernel_rfl) (by decide) (fun K hK=>?_);refine goesV_ Tryz.func111 (by kernel_rfl) rfl #[.string (⟨#[76,73,78]⟩:ByteArray),.string (⟨#[110,114,113,63,110]⟩:ByteArray)] (by rfl) rfl rfl (by rfl) (by (try simp only [List.map_toArray,List.map_cons,List.map_nil]);first|done|rfl|(simp only [List.length_drop,List.length_take];rfl)) ?_;(with_reducible refine (impl_tableOf_2.calls (⟨#[76,73,78]⟩:ByteArray) (⟨#[110,114,113,63,110]⟩:ByteArray) t454 t455 t456 t457 _ A4.out).mono ?_);rintro e w10 ⟨rfl,hb⟩;refine ⟨_,rfl,?_⟩;replace BK449:=am (blk_below (g:=gb449) (o:=.cells #[.string (⟨#[78,79,84]⟩:ByteArray),.int .i64 0,.int .i64 2,.string (⟨#[116]⟩:ByteArray)] 94 (0,0)) (ks BK449) hb);replace HB:=am (below_step (bs HB) hb);(try clear hb);(try clear hb2);(try clear hk);(try clear hi);refine hK.out _ _ (hb4 BK449).out (fun hHeld=>?_);clear hK K;refine nA 14 ?_;refine one_ (i:=5) (N:=some 15) #[true,true,true,true,true,true,false] rfl rfl (by kernel_rfl) (by decide) (fun K hK=>?_);refine Kd.R_lit_step k94 _ 94 ?hg (N:=15) ?hd (xs:=([(⟨t450,t451,t452,t453⟩:S94),(⟨(⟨#[78,79,84]⟩:ByteArray),0,2,(⟨#[116]⟩:ByteArray)⟩:S94),(⟨t454,t455,t456,t457⟩:S94)]:List (S94))) (inner:=[.string t450,.int .i64 t451,.int .i64 t452,.string t453,.string (⟨#[78,79,84]⟩:ByteArray),.int .i64 0,.int .i64 2,.string (⟨#[116]⟩:ByteArray),.string t454,.int .i64 t455,.int .i64 t456,.string t457]) (ok:=fun _=>True) (okp:=fun _=>True) ?hr ?hp (fun _ hk=>hk) trivial (Below.refl _ _) (Nat.le_refl _) (by simp) ?_;(case hd=>rfl);(case hg=>rfl);(case hr=>first|(go_simp;done)|(go_simp;rfl));(case hp=>exact (Reps.c4 (show Kd.M k94 _ _ _ (⟨t450,t451,t452,t453⟩:S94) [.string t450,.int .i64 t451,.int .i64 t452,.string t453] from (k94_mkM _ _ _ (⟨t450,t451,t452,t453⟩:S94) )) (Reps.c4 (show Kd.M k94 _ _ _ (⟨(⟨#[78,79,84]⟩:ByteArray),0,2,(⟨#[116]⟩:ByteArray)⟩:S94) [.string (⟨#[78,79,84]⟩:ByteArray),.int .i64 0,.int .i64 2,.string (⟨#[116]⟩:ByteArray)] from (k94_mkM _ _ _ (⟨(⟨#[78,79,84]⟩:ByteArray),0,2,(⟨#[116]⟩:ByteArray)⟩:S94) )) (Reps.c4 (show Kd.M k94 _ _ _ (⟨t454,t455,t456,t457⟩:S94) [.string t454,.int .i64 t455,.int .i64 t456,.string t457] from (k94_mkM _ _ _ (⟨t454,t455,t456,t457⟩:S94) )) (Reps.none _ _)))));intro v459 w11 ho12 hb hg_ hnew_;clear hg_ hnew_
  (first|rw [← Ny458.out] at ho12|(simp only [Int.reduceToNat] at ho12;rw [← Ny458.out] at ho12))
  have HO460:=am (Kd.R_lower (Kd.R_newB ho12 (g:=gb449) (o:=.cells #[.string (⟨#[78,79,84]⟩:ByteArray),.int .i64 0,.int .i64 2,.string (⟨#[116]⟩:ByteArray)] 94 (0,0)) (ks BK449)) (below_size (bs HB)));replace BK449:=am (blk_below (g:=gb449) (o:=.cells #[.string (⟨#[78,79,84]⟩:ByteArray),.int .i64 0,.int .i64 2,.string (⟨#[116]⟩:ByteArray)] 94 (0,0)) (ks BK449) hb);replace HB:=am (below_step (bs HB) hb);clear hb ho12;refine hK.out _ _ (hb4 BK449).out (fun hHeld=>?_);clear hK K;refine nA 15 ?_;refine pure_ (i:=6) (N:=some 2) (v:=?_) (a':=?_) #[true,true,true,true,true,true,true] rfl rfl (by kernel_rfl) (fun _ _ _ h=>h) (Or.inl ⟨by rfl,?_⟩) ?_ ?_
  rotate_left
  ·intro w'
   go_simp
   (with_reducible rfl)
  rotate_left
  ·simp only [Act.put,List.setIfInBounds_toArray,List.set_cons_zero,List.set_cons_succ,i64_w,i32_w]
   rfl
  refine done_ (by kernel_rfl) ?_
  try go_wp2
  go_ret
  exact ⟨_,ff,by (with_reducible repeat (first|apply Kd.R_alloc|apply Kd.R_drewN|apply Kd.R_drew));exact Kd.R_mono HO460.out (fun _ hk=>trivial),bs HB⟩
 ·intro c2 c2b0 c2b1 H;have HC13:=am H;clear H
  go_in
  go_upto_if 16 with (first|((with_reducible refine gate_dst (N:=4) rfl ?_);refine bx 4 (cs:=#[.string (⟨#[]⟩:ByteArray),.int .i64 0,.int .i64 0,.string (⟨#[]⟩:ByteArray)]) (t:=94) ?_;intro gb449 hg w14 hbox hb;have BK449:=am (hbox);have GW449:=am ((gs hg (bs HB)));have GE449:=am ((gs hg (bs HB)));replace HB:=am (below_step (bs HB) hb);clear hb hbox hg;have hcz15:=cf4 BK449))
  (try simp only [Act.put,List.setIfInBounds_toArray,List.set_cons_zero,List.set_cons_succ])
  go_cut [16] (fun v16 wc=>∃ (kq:Nat) (x16_12:Bool),v16=.bool x16_12∧Aside0 (impl_tableOf.j0 kq a0 x16_12 (⟨#[78,79,84]⟩:ByteArray) 0 2 (⟨#[116]⟩:ByteArray)=some r)∧Aside0 (kq≤k)∧Aside0 (wc.heap[gb449]? = some (.cells #[.string (⟨#[78,79,84]⟩:ByteArray),.int .i64 0,.int .i64 2,.string (⟨#[116]⟩:ByteArray)] 94 (0,0)))∧Aside0 (Below w.heap.size w wc))
  case first =>
   have H:=HC13.out;clear HC13
   revert H;refine ie2 ?_ ?_
   ·intro c16b0 c16b1 H
    (first|rw [c16b0]|(simp only [i64_w,i32_w];rw [c16b0])|rw [c16b1]|skip)
    have H':=am H;clear H
    go_wp2
    go_meet
    case rel=>exact ⟨_,((a0 == 2)),fg,H',⟨fl⟩,⟨kp BK449⟩,⟨bs HB⟩⟩
   ·intro c16 c16b0 c16b1 H
    (first|rw [c16b0]|(simp only [i64_w,i32_w];rw [c16b0])|rw [c16b1]|skip)
    have H':=am H;clear H
    go_wp2
    go_meet
    case rel=>exact ⟨_,((a0 == 4)),fg,H',⟨fl⟩,⟨kp BK449⟩,⟨bs HB⟩⟩
  case rest =>
   clear HC13
   try clear c2
   try clear c2b0
   try clear c2b1
   try clear hcz15
   obtain ⟨kq,x16_12,rfl,HA,HJ12,BK449,HB⟩:=hcut
   cases kq with
   | zero=>exact absurd HA.out (by simp [impl_tableOf.j0])
   | succ kj12 =>
    have H:=HA.out;clear HA;simp only [impl_tableOf.j0] at H
    obtain rfl|rfl:=bt x16_12
    ·replace H:=itT H;replace H:=bo H;obtain ⟨⟨t461,t462,t463,t464⟩,A18,H⟩:=H;(try dsimp only at H);replace H:=bo H;obtain ⟨⟨t465,t466,t467,t468⟩,A19,H⟩:=H;(try dsimp only at H);obtain ⟨y469,hy469⟩:∃ y_:List (S94),y_=(([(⟨t461,t462,t463,t464⟩:S94),(⟨t465,t466,t467,t468⟩:S94)]:List (S94))):=⟨_,rfl⟩
     replace H:(some y469)=some r:=ye hy469 H
     have Ny469:=am hy469;clear hy469;obtain rfl:=si H
     go_wp2_with (first|(go_at_call 110;(with_reducible refine (impl_tableOf_1.calls (⟨#[114,114,100]⟩:ByteArray) t461 t462 t463 t464 _ A18.out).mono ?_);rintro e w20 ⟨rfl,hb⟩;replace BK449:=am (blk_below (g:=gb449) (o:=.cells #[.string (⟨#[78,79,84]⟩:ByteArray),.int .i64 0,.int .i64 2,.string (⟨#[116]⟩:ByteArray)] 94 (0,0)) (ks BK449) hb);replace HB:=am (below_step (bs HB) hb);(try clear hb);(try clear hb2);(try clear hk);(try clear hi))|(go_at_call 111;(with_reducible refine (impl_tableOf_2.calls (⟨#[76,73,78]⟩:ByteArray) (⟨#[110,113,63,116]⟩:ByteArray) t465 t466 t467 t468 _ A19.out).mono ?_);rintro e w21 ⟨rfl,hb⟩;replace BK449:=am (blk_below (g:=gb449) (o:=.cells #[.string (⟨#[78,79,84]⟩:ByteArray),.int .i64 0,.int .i64 2,.string (⟨#[116]⟩:ByteArray)] 94 (0,0)) (ks BK449) hb);replace HB:=am (below_step (bs HB) hb);(try clear hb);(try clear hb2);(try clear hk);(try clear hi))|((with_reducible refine gate_dst (N:=23) rfl ?_);refine Kd.R_lit k94 _ 94 ?hg (N:=23) ?hd (xs:=([(⟨t461,t462,t463,t464⟩:S94),(⟨t465,t466,t467,t468⟩:S94)]:List (S94))) (inner:=[.string t461,.int .i64 t462,.int .i64 t463,.string t464,.string t465,.int .i64 t466,.int .i64 t467,.string t468]) (ok:=fun _=>True) (okp:=fun _=>True) ?hr ?hp (fun _ hk=>hk) trivial (Below.refl _ _) (Nat.le_refl _) (by simp) ?_;(case hd=>rfl);(case hg=>rfl);(case hr=>first|(go_simp;done)|(go_simp;rfl));(case hp=>exact (Reps.c4 (show Kd.M k94 _ _ _ (⟨t461,t462,t463,t464⟩:S94) [.string t461,.int .i64 t462,.int .i64 t463,.string t464] from (k94_mkM _ _ _ (⟨t461,t462,t463,t464⟩:S94) )) (Reps.c4 (show Kd.M k94 _ _ _ (⟨t465,t466,t467,t468⟩:S94) [.string t465,.int .i64 t466,.int .i64 t467,.string t468] from (k94_mkM _ _ _ (⟨t465,t466,t467,t468⟩:S94) )) (Reps.none _ _))));intro v470 w22 ho23 hb hg_ hnew_;clear hg_ hnew_;(first|rw [← Ny469.out] at ho23|(simp only [Int.reduceToNat] at ho23;rw [← Ny469.out] at ho23));have HO471:=am (Kd.R_lower (Kd.R_newB ho23 (g:=gb449) (o:=.cells #[.string (⟨#[78,79,84]⟩:ByteArray),.int .i64 0,.int .i64 2,.string (⟨#[116]⟩:ByteArray)] 94 (0,0)) (ks BK449)) (below_size (bs HB)));replace BK449:=am (blk_below (g:=gb449) (o:=.cells #[.string (⟨#[78,79,84]⟩:ByteArray),.int .i64 0,.int .i64 2,.string (⟨#[116]⟩:ByteArray)] 94 (0,0)) (ks BK449) hb);replace HB:=am (below_step (bs HB) hb);clear hb ho23))
     go_ret
     exact ⟨_,ff,by (with_reducible repeat (first|apply Kd.R_alloc|apply Kd.R_drewN|apply Kd.R_drew));exact Kd.R_mono HO471.out (fun _ hk=>trivial),bs HB⟩
    ·replace H:=itF H
     revert H;refine ie2 ?_ ?_
     ·intro c24b0 c24b1 H;replace H:=bo H;obtain ⟨⟨t472,t473,t474,t475⟩,A25,H⟩:=H;(try dsimp only at H);replace H:=bo H;obtain ⟨⟨t476,t477,t478,t479⟩,A26,H⟩:=H;(try dsimp only at H);obtain ⟨y480,hy480⟩:∃ y_:List (S94),y_=(([(⟨t472,t473,t474,t475⟩:S94),(⟨(⟨#[78,79,84]⟩:ByteArray),0,2,(⟨#[116]⟩:ByteArray)⟩:S94),(⟨t476,t477,t478,t479⟩:S94)]:List (S94))):=⟨_,rfl⟩
      replace H:(some y480)=some r:=ye hy480 H
      have Ny480:=am hy480;clear hy480;obtain rfl:=si H
      try go_wp2
      replace BK449:=am (blk_drew BK449.out);replace HB:=am (below_drew1 HB.out);refine sta 7 (hb4 BK449) (fun hHeld=>?_)
      generalize wc.drew=w27 at BK449 HB hHeld ⊢
      refine pure_ (i:=0) (N:=some 26) (v:=?_) (a':=?_) #[true,false,false,false,false,false,false] rfl rfl (by kernel_rfl) (fun _ _ _ h=>h) (Or.inl ⟨by rfl,?_⟩) ?_ ?_
      rotate_left
      ·intro w'
       go_simp
       (with_reducible rfl)
      rotate_left
      ·simp only [Act.put,List.setIfInBounds_toArray,List.set_cons_zero,List.set_cons_succ,i64_w,i32_w]
       rfl
      refine pure_ (i:=3) (N:=some 29) (v:=?_) (a':=?_) #[true,false,false,true,false,false,false] rfl rfl (by kernel_rfl) (fun _ _ _ h=>h) (Or.inl ⟨by rfl,?_⟩) ?_ ?_
      rotate_left
      ·intro w'
       go_simp
       (with_reducible rfl)
      rotate_left
      ·simp only [Act.put,List.setIfInBounds_toArray,List.set_cons_zero,List.set_cons_succ,i64_w,i32_w]
       rfl
      refine take_ (i:=2) (N:=some 28) (v:=?_) (a':=?_) #[true,false,true,true,false,false,false] rfl rfl (by kernel_rfl) (fun _ _ _ h=>h) (Or.inl ⟨by rfl,?_⟩) hHeld ?_ ?_
      rotate_left
      ·rintro w' ⟨s0,s1,s2,s3⟩
       go_simp
       (with_reducible rfl)
      rotate_left
      ·simp only [Act.put,List.setIfInBounds_toArray,List.set_cons_zero,List.set_cons_succ,i64_w,i32_w]
       rfl
      refine one_ (i:=1) (N:=some 27) #[true,true,true,true,false,false,false] rfl rfl (by kernel_rfl) (by decide) (fun K hK=>?_);refine goesV_ Tryz.func110 (by kernel_rfl) rfl #[.string (⟨#[114,114,100]⟩:ByteArray)] (by rfl) rfl rfl (by rfl) (by (try simp only [List.map_toArray,List.map_cons,List.map_nil]);first|done|rfl|(simp only [List.length_drop,List.length_take];rfl)) ?_;(with_reducible refine (impl_tableOf_1.calls (⟨#[114,114,100]⟩:ByteArray) t472 t473 t474 t475 _ A25.out).mono ?_);rintro e w28 ⟨rfl,hb⟩;refine ⟨_,rfl,?_⟩;replace BK449:=am (blk_below (g:=gb449) (o:=.cells #[.string (⟨#[78,79,84]⟩:ByteArray),.int .i64 0,.int .i64 2,.string (⟨#[116]⟩:ByteArray)] 94 (0,0)) (ks BK449) hb);replace HB:=am (below_step (bs HB) hb);(try clear hb);(try clear hb2);(try clear hk);(try clear hi);refine hK.out _ _ (hb4 BK449).out (fun hHeld=>?_);clear hK K;refine nA 27 ?_;refine one_ (i:=4) (N:=some 30) #[true,true,true,true,true,false,false] rfl rfl (by kernel_rfl) (by decide) (fun K hK=>?_);refine goesV_ Tryz.func111 (by kernel_rfl) rfl #[.string (⟨#[76,73,78]⟩:ByteArray),.string (⟨#[110,113]⟩:ByteArray)] (by rfl) rfl rfl (by rfl) (by (try simp only [List.map_toArray,List.map_cons,List.map_nil]);first|done|rfl|(simp only [List.length_drop,List.length_take];rfl)) ?_;(with_reducible refine (impl_tableOf_2.calls (⟨#[76,73,78]⟩:ByteArray) (⟨#[110,113]⟩:ByteArray) t476 t477 t478 t479 _ A26.out).mono ?_);rintro e w29 ⟨rfl,hb⟩;refine ⟨_,rfl,?_⟩;replace BK449:=am (blk_below (g:=gb449) (o:=.cells #[.string (⟨#[78,79,84]⟩:ByteArray),.int .i64 0,.int .i64 2,.string (⟨#[116]⟩:ByteArray)] 94 (0,0)) (ks BK449) hb);replace HB:=am (below_step (bs HB) hb);(try clear hb);(try clear hb2);(try clear hk);(try clear hi);refine hK.out _ _ (hb4 BK449).out (fun hHeld=>?_);clear hK K;refine nA 30 ?_;refine one_ (i:=5) (N:=some 31) #[true,true,true,true,true,true,false] rfl rfl (by kernel_rfl) (by decide) (fun K hK=>?_);refine Kd.R_lit_step k94 _ 94 ?hg (N:=31) ?hd (xs:=([(⟨t472,t473,t474,t475⟩:S94),(⟨(⟨#[78,79,84]⟩:ByteArray),0,2,(⟨#[116]⟩:ByteArray)⟩:S94),(⟨t476,t477,t478,t479⟩:S94)]:List (S94))) (inner:=[.string t472,.int .i64 t473,.int .i64 t474,.string t475,.string (⟨#[78,79,84]⟩:ByteArray),.int .i64 0,.int .i64 2,.string (⟨#[116]⟩:ByteArray),.string t476,.int .i64 t477,.int .i64 t478,.string t479]) (ok:=fun _=>True) (okp:=fun _=>True) ?hr ?hp (fun _ hk=>hk) trivial (Below.refl _ _) (Nat.le_refl _) (by simp) ?_;(case hd=>rfl);(case hg=>rfl);(case hr=>first|(go_simp;done)|(go_simp;rfl));(case hp=>exact (Reps.c4 (show Kd.M k94 _ _ _ (⟨t472,t473,t474,t475⟩:S94) [.string t472,.int .i64 t473,.int .i64 t474,.string t475] from (k94_mkM _ _ _ (⟨t472,t473,t474,t475⟩:S94) )) (Reps.c4 (show Kd.M k94 _ _ _ (⟨(⟨#[78,79,84]⟩:ByteArray),0,2,(⟨#[116]⟩:ByteArray)⟩:S94) [.string (⟨#[78,79,84]⟩:ByteArray),.int .i64 0,.int .i64 2,.string (⟨#[116]⟩:ByteArray)] from (k94_mkM _ _ _ (⟨(⟨#[78,79,84]⟩:ByteArray),0,2,(⟨#[116]⟩:ByteArray)⟩:S94) )) (Reps.c4 (show Kd.M k94 _ _ _ (⟨t476,t477,t478,t479⟩:S94) [.string t476,.int .i64 t477,.int .i64 t478,.string t479] from (k94_mkM _ _ _ (⟨t476,t477,t478,t479⟩:S94) )) (Reps.none _ _)))));intro v481 w30 ho31 hb hg_ hnew_;clear hg_ hnew_
      (first|rw [← Ny480.out] at ho31|(simp only [Int.reduceToNat] at ho31;rw [← Ny480.out] at ho31))
      have HO482:=am (Kd.R_lower (Kd.R_newB ho31 (g:=gb449) (o:=.cells #[.string (⟨#[78,79,84]⟩:ByteArray),.int .i64 0,.int .i64 2,.string (⟨#[116]⟩:ByteArray)] 94 (0,0)) (ks BK449)) (below_size (bs HB)));replace BK449:=am (blk_below (g:=gb449) (o:=.cells #[.string (⟨#[78,79,84]⟩:ByteArray),.int .i64 0,.int .i64 2,.string (⟨#[116]⟩:ByteArray)] 94 (0,0)) (ks BK449) hb);replace HB:=am (below_step (bs HB) hb);clear hb ho31;refine hK.out _ _ (hb4 BK449).out (fun hHeld=>?_);clear hK K;refine nA 31 ?_;refine pure_ (i:=6) (N:=some 2) (v:=?_) (a':=?_) #[true,true,true,true,true,true,true] rfl rfl (by kernel_rfl) (fun _ _ _ h=>h) (Or.inl ⟨by rfl,?_⟩) ?_ ?_
      rotate_left
      ·intro w'
       go_simp
       (with_reducible rfl)
      rotate_left
      ·simp only [Act.put,List.setIfInBounds_toArray,List.set_cons_zero,List.set_cons_succ,i64_w,i32_w]
       rfl
      refine done_ (by kernel_rfl) ?_
      try go_wp2
      go_ret
      exact ⟨_,ff,by (with_reducible repeat (first|apply Kd.R_alloc|apply Kd.R_drewN|apply Kd.R_drew));exact Kd.R_mono HO482.out (fun _ hk=>trivial),bs HB⟩
     ·intro c24 c24b0 c24b1 H
      revert H;refine ie2 ?_ ?_
      ·intro c32b0 c32b1 H;replace H:=bo H;obtain ⟨⟨t483,t484,t485,t486⟩,A33,H⟩:=H;(try dsimp only at H);replace H:=bo H;obtain ⟨⟨t487,t488,t489,t490⟩,A34,H⟩:=H;(try dsimp only at H);obtain ⟨y491,hy491⟩:∃ y_:List (S94),y_=(([(⟨t483,t484,t485,t486⟩:S94),(⟨t487,t488,t489,t490⟩:S94)]:List (S94))):=⟨_,rfl⟩
       replace H:(some y491)=some r:=ye hy491 H
       have Ny491:=am hy491;clear hy491;obtain rfl:=si H
       go_wp2_with (first|(go_at_call 110;(with_reducible refine (impl_tableOf_1.calls (⟨#[114,100]⟩:ByteArray) t483 t484 t485 t486 _ A33.out).mono ?_);rintro e w35 ⟨rfl,hb⟩;replace BK449:=am (blk_below (g:=gb449) (o:=.cells #[.string (⟨#[78,79,84]⟩:ByteArray),.int .i64 0,.int .i64 2,.string (⟨#[116]⟩:ByteArray)] 94 (0,0)) (ks BK449) hb);replace HB:=am (below_step (bs HB) hb);(try clear hb);(try clear hb2);(try clear hk);(try clear hi))|(go_at_call 111;(with_reducible refine (impl_tableOf_2.calls (⟨#[73,84,77]⟩:ByteArray) (⟨#[114,110]⟩:ByteArray) t487 t488 t489 t490 _ A34.out).mono ?_);rintro e w36 ⟨rfl,hb⟩;replace BK449:=am (blk_below (g:=gb449) (o:=.cells #[.string (⟨#[78,79,84]⟩:ByteArray),.int .i64 0,.int .i64 2,.string (⟨#[116]⟩:ByteArray)] 94 (0,0)) (ks BK449) hb);replace HB:=am (below_step (bs HB) hb);(try clear hb);(try clear hb2);(try clear hk);(try clear hi))|((with_reducible refine gate_dst (N:=38) rfl ?_);refine Kd.R_lit k94 _ 94 ?hg (N:=38) ?hd (xs:=([(⟨t483,t484,t485,t486⟩:S94),(⟨t487,t488,t489,t490⟩:S94)]:List (S94))) (inner:=[.string t483,.int .i64 t484,.int .i64 t485,.string t486,.string t487,.int .i64 t488,.int .i64 t489,.string t490]) (ok:=fun _=>True) (okp:=fun _=>True) ?hr ?hp (fun _ hk=>hk) trivial (Below.refl _ _) (Nat.le_refl _) (by simp) ?_;(case hd=>rfl);(case hg=>rfl);(case hr=>first|(go_simp;done)|(go_simp;rfl));(case hp=>exact (Reps.c4 (show Kd.M k94 _ _ _ (⟨t483,t484,t485,t486⟩:S94) [.string t483,.int .i64 t484,.int .i64 t485,.string t486] from (k94_mkM _ _ _ (⟨t483,t484,t485,t486⟩:S94) )) (Reps.c4 (show Kd.M k94 _ _ _ (⟨t487,t488,t489,t490⟩:S94) [.string t487,.int .i64 t488,.int .i64 t489,.string t490] from (k94_mkM _ _ _ (⟨t487,t488,t489,t490⟩:S94) )) (Reps.none _ _))));intro v492 w37 ho38 hb hg_ hnew_;clear hg_ hnew_;(first|rw [← Ny491.out] at ho38|(simp only [Int.reduceToNat] at ho38;rw [← Ny491.out] at ho38));have HO493:=am (Kd.R_lower (Kd.R_newB ho38 (g:=gb449) (o:=.cells #[.string (⟨#[78,79,84]⟩:ByteArray),.int .i64 0,.int .i64 2,.string (⟨#[116]⟩:ByteArray)] 94 (0,0)) (ks BK449)) (below_size (bs HB)));replace BK449:=am (blk_below (g:=gb449) (o:=.cells #[.string (⟨#[78,79,84]⟩:ByteArray),.int .i64 0,.int .i64 2,.string (⟨#[116]⟩:ByteArray)] 94 (0,0)) (ks BK449) hb);replace HB:=am (below_step (bs HB) hb);clear hb ho38))
       go_ret
       exact ⟨_,ff,by (with_reducible repeat (first|apply Kd.R_alloc|apply Kd.R_drewN|apply Kd.R_drew));exact Kd.R_mono HO493.out (fun _ hk=>trivial),bs HB⟩
      ·intro c32 c32b0 c32b1 H
       revert H;refine ie2 ?_ ?_
       ·intro c39b0 c39b1 H;replace H:=bo H;obtain ⟨⟨t494,t495,t496,t497⟩,A40,H⟩:=H;(try dsimp only at H);replace H:=bo H;obtain ⟨⟨t498,t499,t500,t501⟩,A41,H⟩:=H;(try dsimp only at H);obtain ⟨y502,hy502⟩:∃ y_:List (S94),y_=(([(⟨t494,t495,t496,t497⟩:S94),(⟨t498,t499,t500,t501⟩:S94)]:List (S94))):=⟨_,rfl⟩
        replace H:(some y502)=some r:=ye hy502 H
        have Ny502:=am hy502;clear hy502;obtain rfl:=si H
        go_wp2_with (first|(go_at_call 110;(with_reducible refine (impl_tableOf_1.calls (⟨#[114,100]⟩:ByteArray) t494 t495 t496 t497 _ A40.out).mono ?_);rintro e w42 ⟨rfl,hb⟩;replace BK449:=am (blk_below (g:=gb449) (o:=.cells #[.string (⟨#[78,79,84]⟩:ByteArray),.int .i64 0,.int .i64 2,.string (⟨#[116]⟩:ByteArray)] 94 (0,0)) (ks BK449) hb);replace HB:=am (below_step (bs HB) hb);(try clear hb);(try clear hb2);(try clear hk);(try clear hi))|(go_at_call 111;(with_reducible refine (impl_tableOf_2.calls (⟨#[73,84,77]⟩:ByteArray) (⟨#[114,122,63,116]⟩:ByteArray) t498 t499 t500 t501 _ A41.out).mono ?_);rintro e w43 ⟨rfl,hb⟩;replace BK449:=am (blk_below (g:=gb449) (o:=.cells #[.string (⟨#[78,79,84]⟩:ByteArray),.int .i64 0,.int .i64 2,.string (⟨#[116]⟩:ByteArray)] 94 (0,0)) (ks BK449) hb);replace HB:=am (below_step (bs HB) hb);(try clear hb);(try clear hb2);(try clear hk);(try clear hi))|((with_reducible refine gate_dst (N:=45) rfl ?_);refine Kd.R_lit k94 _ 94 ?hg (N:=45) ?hd (xs:=([(⟨t494,t495,t496,t497⟩:S94),(⟨t498,t499,t500,t501⟩:S94)]:List (S94))) (inner:=[.string t494,.int .i64 t495,.int .i64 t496,.string t497,.string t498,.int .i64 t499,.int .i64 t500,.string t501]) (ok:=fun _=>True) (okp:=fun _=>True) ?hr ?hp (fun _ hk=>hk) trivial (Below.refl _ _) (Nat.le_refl _) (by simp) ?_;(case hd=>rfl);(case hg=>rfl);(case hr=>first|(go_simp;done)|(go_simp;rfl));(case hp=>exact (Reps.c4 (show Kd.M k94 _ _ _ (⟨t494,t495,t496,t497⟩:S94) [.string t494,.int .i64 t495,.int .i64 t496,.string t497] from (k94_mkM _ _ _ (⟨t494,t495,t496,t497⟩:S94) )) (Reps.c4 (show Kd.M k94 _ _ _ (⟨t498,t499,t500,t501⟩:S94) [.string t498,.int .i64 t499,.int .i64 t500,.string t501] from (k94_mkM _ _ _ (⟨t498,t499,t500,t501⟩:S94) )) (Reps.none _ _))));intro v503 w44 ho45 hb hg_ hnew_;clear hg_ hnew_;(first|rw [← Ny502.out] at ho45|(simp only [Int.reduceToNat] at ho45;rw [← Ny502.out] at ho45));have HO504:=am (Kd.R_lower (Kd.R_newB ho45 (g:=gb449) (o:=.cells #[.string (⟨#[78,79,84]⟩:ByteArray),.int .i64 0,.int .i64 2,.string (⟨#[116]⟩:ByteArray)] 94 (0,0)) (ks BK449)) (below_size (bs HB)));replace BK449:=am (blk_below (g:=gb449) (o:=.cells #[.string (⟨#[78,79,84]⟩:ByteArray),.int .i64 0,.int .i64 2,.string (⟨#[116]⟩:ByteArray)] 94 (0,0)) (ks BK449) hb);replace HB:=am (below_step (bs HB) hb);clear hb ho45))
        go_ret
        exact ⟨_,ff,by (with_reducible repeat (first|apply Kd.R_alloc|apply Kd.R_drewN|apply Kd.R_drew));exact Kd.R_mono HO504.out (fun _ hk=>trivial),bs HB⟩
       ·intro c39 c39b0 c39b1 H
        revert H;refine ie2 ?_ ?_
        ·intro c46b0 c46b1 H;replace H:=bo H;obtain ⟨⟨t505,t506,t507,t508⟩,A47,H⟩:=H;(try dsimp only at H);obtain ⟨y509,hy509⟩:∃ y_:List (S94),y_=(([(⟨t505,t506,t507,t508⟩:S94),(⟨(⟨#[65,67,75]⟩:ByteArray),1,1,(⟨#[110,110,63,110]⟩:ByteArray)⟩:S94)]:List (S94))):=⟨_,rfl⟩
         replace H:(some y509)=some r:=ye hy509 H
         have Ny509:=am hy509;clear hy509;obtain rfl:=si H
         go_wp2_with (first|(go_at_call 110;(with_reducible refine (impl_tableOf_1.calls (⟨#[114,100]⟩:ByteArray) t505 t506 t507 t508 _ A47.out).mono ?_);rintro e w48 ⟨rfl,hb⟩;replace BK449:=am (blk_below (g:=gb449) (o:=.cells #[.string (⟨#[78,79,84]⟩:ByteArray),.int .i64 0,.int .i64 2,.string (⟨#[116]⟩:ByteArray)] 94 (0,0)) (ks BK449) hb);replace HB:=am (below_step (bs HB) hb);(try clear hb);(try clear hb2);(try clear hk);(try clear hi))|((with_reducible refine gate_dst (N:=51) rfl ?_);refine Kd.R_lit k94 _ 94 ?hg (N:=51) ?hd (xs:=([(⟨t505,t506,t507,t508⟩:S94),(⟨(⟨#[65,67,75]⟩:ByteArray),1,1,(⟨#[110,110,63,110]⟩:ByteArray)⟩:S94)]:List (S94))) (inner:=[.string t505,.int .i64 t506,.int .i64 t507,.string t508,.string (⟨#[65,67,75]⟩:ByteArray),.int .i64 1,.int .i64 1,.string (⟨#[110,110,63,110]⟩:ByteArray)]) (ok:=fun _=>True) (okp:=fun _=>True) ?hr ?hp (fun _ hk=>hk) trivial (Below.refl _ _) (Nat.le_refl _) (by simp) ?_;(case hd=>rfl);(case hg=>rfl);(case hr=>first|(go_simp;done)|(go_simp;rfl));(case hp=>exact (Reps.c4 (show Kd.M k94 _ _ _ (⟨t505,t506,t507,t508⟩:S94) [.string t505,.int .i64 t506,.int .i64 t507,.string t508] from (k94_mkM _ _ _ (⟨t505,t506,t507,t508⟩:S94) )) (Reps.c4 (show Kd.M k94 _ _ _ (⟨(⟨#[65,67,75]⟩:ByteArray),1,1,(⟨#[110,110,63,110]⟩:ByteArray)⟩:S94) [.string (⟨#[65,67,75]⟩:ByteArray),.int .i64 1,.int .i64 1,.string (⟨#[110,110,63,110]⟩:ByteArray)] from (k94_mkM _ _ _ (⟨(⟨#[65,67,75]⟩:ByteArray),1,1,(⟨#[110,110,63,110]⟩:ByteArray)⟩:S94) )) (Reps.none _ _))));intro v510 w49 ho50 hb hg_ hnew_;clear hg_ hnew_;(first|rw [← Ny509.out] at ho50|(simp only [Int.reduceToNat] at ho50;rw [← Ny509.out] at ho50));have HO511:=am (Kd.R_lower (Kd.R_newB ho50 (g:=gb449) (o:=.cells #[.string (⟨#[78,79,84]⟩:ByteArray),.int .i64 0,.int .i64 2,.string (⟨#[116]⟩:ByteArray)] 94 (0,0)) (ks BK449)) (below_size (bs HB)));replace BK449:=am (blk_below (g:=gb449) (o:=.cells #[.string (⟨#[78,79,84]⟩:ByteArray),.int .i64 0,.int .i64 2,.string (⟨#[116]⟩:ByteArray)] 94 (0,0)) (ks BK449) hb);replace HB:=am (below_step (bs HB) hb);clear hb ho50))
         go_ret
         exact ⟨_,ff,by (with_reducible repeat (first|apply Kd.R_alloc|apply Kd.R_drewN|apply Kd.R_drew));exact Kd.R_mono HO511.out (fun _ hk=>trivial),bs HB⟩
        ·intro c46 c46b0 c46b1 H;obtain rfl:=si H
         go_wp2
         go_ret
         exact ⟨_,ff,by first|exact Kd.R_nil _ _ _ _ _|exact Kd.N_nil _ _ _ _ _|exact Kd.V_nil _ _ _ _ _|exact Kd.Q_nil _ _ _ _ _|exact Kd.S_nil _ _ _ _ _,bs HB⟩
set_option maxHeartbeats 8000000 in
set_option maxRecDepth 100000 in
theorem impl_lineTag.calls (k:Nat) (a0:Int) (r:ByteArray) (w:World) (H:impl_lineTag.f k a0=some r) :
  Calls Tryz.prog 84 #[.int .i64 a0] w fun e w'=>e=.returned (.string r)∧Below w.heap.size w w':=by
 have HB:=am (Below.refl w.heap.size w);unfold impl_lineTag.f at H;replace H:=bo H;obtain ⟨t512,A2,H⟩:=H;obtain ⟨ji3,hji3⟩:∃ j_:Int,(wrap64 ((t512.length:Int) - 1))=j_:=⟨_,rfl⟩
 replace H:(if 0≤(ji3) then (if (ji3)<(t512.length:Int) then (some ((rd_T94 t512 (ji3)).f0)) else (none)) else (none))=some r:=by first|(rw [hji3] at H;exact H)|(simp only [hji3] at H ⊢;exact H)
 (try rw [hji3] at A2)
 have hji3w:(IntKind.i64.wrap ((t512.length:Int) - 1))=ji3:=(i64_w _).trans hji3
 by_cases c4:0≤(ji3)
 ·rw [if_pos c4] at H;have c4b0:decide (0≤(ji3))=true:=decide_eq_true c4;clear c4
  revert H;refine id1 ?_
  intro c5b0 H;obtain rfl:=si H
  go_in
  go_wp2_with (first|((first|((with_reducible refine gate_callee (f:=69) rfl ?_);refine goesL_ (some 5) rfl rfl Tryz.func69 (by kernel_rfl) rfl #[.int .i64 a0] rfl (by (try simp only [List.map_toArray,List.map_cons,List.map_nil]);first|done|rfl|(simp only [List.length_drop,List.length_take];rfl)) ?_;(with_reducible refine (impl_tableOf.calls k a0 t512 _ A2.out).mono ?_);rintro e w6 ⟨v513,rfl,ho0,hb⟩;refine ⟨_,rfl,?_⟩)|(go_at_call 69;(with_reducible refine (impl_tableOf.calls k a0 t512 _ A2.out).mono ?_);rintro e w6 ⟨v513,rfl,ho0,hb⟩));have HO514:=am (Kd.R_lower ho0 (below_size (bs HB)));replace HB:=am (below_step (bs HB) hb);(try clear hb);(try clear hb2);(try clear hk);(try clear hi);(try clear ho0);obtain ⟨Ao7,co7,eo7⟩:=Kd.R_slice HO514.out;subst eo7;have p515:0≤((ji3):Int):=oa;have q515:(ji3)<(t512.length:Int):=oa;obtain ⟨ad515,e515,hx515_0,hx515_1,hx515_2,hx515_3⟩:=at_T94 (Kd.R_reads' HO514.out).2.2 (ji3) p515 q515;cases e515;replace p515:=eq_true p515;replace q515:=eq_true q515))
  go_ret
  exact ⟨by first|rfl|(simp [errW_none,errW_some] <;> rfl)|(simp only [← hji3];first|rfl|(simp [errW_none,errW_some] <;> rfl))|(simp [*,errW_none,errW_some] <;> rfl),bs HB⟩
 ·rw [if_neg c4] at H
  exact absurd H (by simp)
set_option maxHeartbeats 8000000 in
set_option maxRecDepth 100000 in
theorem impl_fields.calls (k:Nat) (a0:Int) (r:ByteArray) (w:World) (H:impl_fields.f k a0=some r) :
  Calls Tryz.prog 99 #[.int .i64 a0] w fun e w'=>e=.returned (.string r)∧Drawn0 w w':=by
 unfold impl_fields.f at H
 revert H;refine ie2 ?_ ?_
 ·intro c2b0 c2b1 H;obtain rfl:=si H
  go_in
  go_wp2
  go_ret
  exact ⟨fg,by repeat (first|exact Drawn0.refl _|apply Drawn0.step)⟩
 ·intro c2 c2b0 c2b1 H;have HC3:=am H;clear H
  go_in
  go_upto_if 6 with (fail)
  go_cut [6] (fun v6 wc=>∃ (kq:Nat) (x6_2:Bool),v6=.bool x6_2∧Aside0 (impl_fields.j0 kq a0 x6_2=some r)∧Aside0 (kq≤k)∧Drawn0 w wc)
  case first =>
   have H:=HC3.out;clear HC3
   revert H;refine ie2 ?_ ?_
   ·intro c4b0 c4b1 H
    (first|rw [c4b0]|(simp only [i64_w,i32_w];rw [c4b0])|rw [c4b1]|skip)
    have H':=am H;clear H
    go_wp2
    go_meet
    case rel=>exact ⟨_,((a0 == 2)),fg,H',⟨fl⟩,by repeat (first|exact Drawn0.refl _|apply Drawn0.step)⟩
   ·intro c4 c4b0 c4b1 H
    (first|rw [c4b0]|(simp only [i64_w,i32_w];rw [c4b0])|rw [c4b1]|skip)
    have H':=am H;clear H
    go_wp2
    go_meet
    case rel=>exact ⟨_,((a0 == 4)),fg,H',⟨fl⟩,by repeat (first|exact Drawn0.refl _|apply Drawn0.step)⟩
  case rest =>
   clear HC3
   try clear c2
   try clear c2b0
   try clear c2b1
   obtain ⟨kq,x6_2,rfl,HA,HJ2,⟨mc2,rfl⟩⟩:=hcut
   cases kq with
   | zero=>exact absurd HA.out (by simp [impl_fields.j0])
   | succ kj2 =>
    have H:=HA.out;clear HA;simp only [impl_fields.j0] at H
    obtain rfl|rfl:=bt x6_2
    ·replace H:=itT H;obtain rfl:=si H
     go_wp2
     go_ret
     exact ⟨fg,by repeat (first|exact Drawn0.refl _|apply Drawn0.step)⟩
    ·replace H:=itF H
     revert H;refine ie2 ?_ ?_
     ·intro c6b0 c6b1 H;obtain rfl:=si H
      go_wp2
      go_ret
      exact ⟨fg,by repeat (first|exact Drawn0.refl _|apply Drawn0.step)⟩
     ·intro c6 c6b0 c6b1 H
      revert H;refine ie2 ?_ ?_
      ·intro c7b0 c7b1 H;obtain rfl:=si H
       go_wp2
       go_ret
       exact ⟨fg,by repeat (first|exact Drawn0.refl _|apply Drawn0.step)⟩
      ·intro c7 c7b0 c7b1 H
       revert H;refine ie2 ?_ ?_
       ·intro c8b0 c8b1 H;obtain rfl:=si H
        go_wp2
        go_ret
        exact ⟨fg,by repeat (first|exact Drawn0.refl _|apply Drawn0.step)⟩
       ·intro c8 c8b0 c8b1 H
        revert H;refine ie2 ?_ ?_
        ·intro c9b0 c9b1 H;obtain rfl:=si H
         go_wp2
         go_ret
         exact ⟨fg,by repeat (first|exact Drawn0.refl _|apply Drawn0.step)⟩
        ·intro c9 c9b0 c9b1 H;obtain rfl:=si H
         go_wp2
         go_ret
         exact ⟨fg,by repeat (first|exact Drawn0.refl _|apply Drawn0.step)⟩
set_option maxHeartbeats 8000000 in
set_option maxRecDepth 100000 in
theorem impl_isText.calls (a0:Int) (r:Bool) (w:World) (H:impl_isText.f a0=some r) :
  Calls Tryz.prog 100 #[.int .i32 a0] w fun e w'=>e=.returned (.bool r)∧Drawn0 w w':=by
 unfold impl_isText.f at H
 revert H;refine ie2 ?_ ?_
 ·intro c2b0 c2b1 H;obtain rfl:=si H
  go_in
  go_wp2
  go_ret
  exact ⟨fg,by repeat (first|exact Drawn0.refl _|apply Drawn0.step)⟩
 ·intro c2 c2b0 c2b1 H;obtain rfl:=si H
  go_in
  go_wp2
  go_ret
  exact ⟨fg,by repeat (first|exact Drawn0.refl _|apply Drawn0.step)⟩
set_option maxHeartbeats 8000000 in
set_option maxRecDepth 100000 in
theorem impl_lineParts_text (g:Nat) (x:Int) (w:World):Calls Tryz.prog 101 #[.pointer (some ⟨g,0,none⟩),.int .i32 x] w fun e w'=>e=.returned (.pointer (some ⟨g,if x=73 then 1 else 4,none⟩))∧w'=w:=by
 have hu:=Tryz.underlying71
 by_cases c:x=73
 ·subst c
  go_enter Tryz.func101,Tryz.ntmps101
  go_wp2
  go_ret
  exact ⟨rfl,rfl⟩
 ·have c1:(x == 73)=false:=beq_eq_false_iff_ne.mpr c;rw [if_neg c]
  go_enter Tryz.func101,Tryz.ntmps101
  go_wp2
  go_ret
  exact ⟨rfl,rfl⟩
set_option maxHeartbeats 8000000 in
set_option maxRecDepth 100000 in
theorem impl_lineParts_number (g:Nat) (x:Int) (w:World):Calls Tryz.prog 102 #[.pointer (some ⟨g,0,none⟩),.int .i32 x] w fun e w'=>e=.returned (.pointer (some ⟨g,if x=78 then 0 else if x=81 then 2 else 3,none⟩))∧w'=w:=by
 have hu:=Tryz.underlying71
 by_cases c:x=78
 ·subst c
  go_enter Tryz.func102,Tryz.ntmps102
  go_wp2
  go_ret
  exact ⟨rfl,rfl⟩
 ·have c1:(x == 78)=false:=beq_eq_false_iff_ne.mpr c;rw [if_neg c]
  by_cases d:x=81
  ·subst d
   go_enter Tryz.func102,Tryz.ntmps102
   go_wp2
   go_ret
   exact ⟨rfl,rfl⟩
  ·have d1:(x == 81)=false:=beq_eq_false_iff_ne.mpr d;rw [if_neg d]
   go_enter Tryz.func102,Tryz.ntmps102
   go_wp2
   go_ret
   exact ⟨rfl,rfl⟩
theorem impl_lineParts_drop {s:ByteArray} {p:Nat} {c:UInt8} {cs:List UInt8} (h:s.data.toList.drop p=c :: cs):∃ hp:p<s.size,s[p]'hp=c∧s.data.toList.drop (p+1)=cs:=by
 have hl:=congrArg List.length h
 rw [List.length_drop,List.length_cons] at hl
 have hs:s.data.toList.length=s.size:=rfl
 have hp:p<s.size:=by omega
 have e:=List.drop_eq_getElem_cons (l:=s.data.toList) (i:=p) (by omega)
 rw [h] at e
 injection e with e1 e2
 exact ⟨hp,by rw [e1];rfl,e2.symm⟩
theorem impl_lineParts_ne {s:ByteArray} {p k kb:Nat} {W:World} {t:TypeId} {cs:Array Value} {z:Nat × Nat} (hit:W.heap[kb]? = some (.stringIter s p)) (h:W.heap[k]? = some (.cells cs t z)):k≠kb:=by
 rintro rfl
 rw [hit] at h
 cases h
theorem impl_lineParts_R {α:Type} {d:Kd α} {e base:Nat} {ok:Nat→Prop} {W:World} {v:Value} {xs:List α} {s:ByteArray} {p kb:Nat} (q:Nat) (h:d.R e W base ok v xs) (hit:W.heap[kb]? = some (.stringIter s p)):d.R e (W.iterAt kb s q) base ok v xs :=
 Kd.R_mono (Kd.R_step (Kd.R_bound h) (fun k hk _=>by
  obtain ⟨_,_,_,_,_,c,hc⟩:=hk
  exact Lib.iterAt_other W kb k s q (impl_lineParts_ne hit hc))) (fun _ hk=>hk.1)
theorem impl_lineParts_own {α:Type} {d:Kd α} {e base:Nat} {ok:Nat→Prop} {W:World} {v:Value} {xs:List α} {s:ByteArray} {p kb:Nat} (h:d.R e W base ok v xs) (hit:W.heap[kb]? = some (.stringIter s p)):some kb≠v.ownBlock:=fun e_=>by
 obtain ⟨c,hc⟩:=Kd.R_typed h kb e_.symm
 exact impl_lineParts_ne hit hc rfl
theorem impl_lineParts_lt {s:ByteArray} {p kb:Nat} {W:World} (hit:W.heap[kb]? = some (.stringIter s p)):kb<W.heap.size:=by
 obtain ⟨h,_⟩:=Array.getElem?_eq_some_iff.mp hit
 exact h
theorem impl_lineParts_it {s:ByteArray} {p kb:Nat} {W W1:World} (hit:W.heap[kb]? = some (.stringIter s p)) (hb:Below W.heap.size W W1):W1.heap[kb]? = some (.stringIter s p):=(hb.block kb (impl_lineParts_lt hit)).trans hit
theorem impl_lineParts_ig {s:ByteArray} {p kb:Nat} {W W1:World} {row:Option Nat} (hit:W.heap[kb]? = some (.stringIter s p)) (hg:W.grownBy W1 row) (hne:some kb≠row):W1.heap[kb]? = some (.stringIter s p):=(hg.block kb (impl_lineParts_lt hit) hne).trans hit
set_option maxHeartbeats 8000000 in
set_option maxRecDepth 100000 in
theorem impl_lineParts.calls (k:Nat) (a0:Int) (f0:Int) (f1:ByteArray) (f2 f3:Int) (f4:ByteArray) (r:List ByteArray) (w:World) (hTF:TbF w) (h:impl_lineParts.f k a0 f0 f1 f2 f3 f4=some r) :
  Calls Tryz.prog 58 #[.int .i64 a0,.agg #[.int .i64 f0,.string f1,.int .i64 f2,.int .i64 f3,.string f4]] w fun e w'=>∃ v0_:Value,e=.returned (v0_)∧Kd.R Kd.string 9 w' w.heap.size (fun _=>True) v0_ r∧Below w.heap.size w w':=by
 have HTF:=am hTF;clear hTF;have hu:=Tryz.underlying71;have hu9:=Tryz.underlying9;have HB:=am (Below.refl w.heap.size w);obtain ⟨s,A1,H⟩:=Option.bind_eq_some_iff.mp (show (impl_fields.f k a0).bind (fun s=>impl_lineParts.l0 f0 f1 f2 f3 f4 s.data.toList [])=some r from h);clear h;replace A1:=am A1;replace H:=am H
 go_in
 go_wp2_with (first|((with_reducible refine gate_dst (N:=3) rfl ?_);refine bx 3 (cs:=#[.int .i64 f0,.string f1,.int .i64 f2,.int .i64 f3,.string f4]) (t:=71) ?_;intro gb hg w3 hbox hb;have BK:=am (hbox);have GE:=am ((gs hg (bs HB)));replace HB:=am (below_step (bs HB) hb);clear hb hbox hg)|((with_reducible refine gate_dst (N:=8) rfl ?_);refine Kd.R_lit Kd.string _ 9 ?hg (N:=8) ?hd (xs:=([]:List ByteArray)) (inner:=[]) (ok:=fun _=>True) (okp:=fun _=>True) ?hr ?hp (fun _ hk=>hk) trivial (Below.refl _ _) (Nat.le_refl _) (by simp) ?_;(case hd=>rfl);(case hg=>rfl);(case hr=>first|(go_simp;done)|(go_simp;rfl));(case hp=>exact (Reps.none _ _));intro v1 w6 ho7 hb hg_ hnew_;clear hg_ hnew_;have HO:=am (Kd.R_lower ho7 (below_size (bs HB)));replace BK:=am (blk_below (ks BK) hb);replace HB:=am (below_step (bs HB) hb);clear hb ho7)|(go_at_call 99;(with_reducible refine (impl_fields.calls k a0 s _ A1.out).mono ?_);rintro e w' ⟨rfl,⟨nd,rfl⟩⟩))
 have hbk:gb<w6.heap.size:=blk_lt BK.out;have hit:((w6.drewN nd).iter s 0).heap[w6.heap.size]? = some (.stringIter s 0):=World.iter_heap (w6.drewN nd) s 0;have hge:w.heap.size≤w6.heap.size:=HB.out.size;replace HO:=am (show Kd.R Kd.string 9 ((w6.drewN nd).iter s 0) w.heap.size (fun _=>True) v1 [] from by show Kd.R Kd.string 9 ((w6.drewN nd).alloc (.stringIter s 0)) w.heap.size (fun _=>True) v1 [];exact rs HO);replace BK:=am (show ((w6.drewN nd).iter s 0).heap[gb]? = _ from blk_alloc (blk_drewN BK.out _) _);replace HB:=am (show Below w.heap.size w ((w6.drewN nd).iter s 0) from by show Below w.heap.size w ((w6.drewN nd).alloc (.stringIter s 0));exact bs HB)
 generalize (w6.drewN nd).iter s 0=W at hit HO BK HB ⊢
 generalize w6.heap.size=kb at hit hge hbk ⊢
 go_loopg [5] s.size (fun gk v5 wx=>∃ (p:Nat) (acc:List ByteArray),Aside0 (impl_lineParts.l0 f0 f1 f2 f3 f4 (s.data.toList.drop p) acc=some r)∧Aside0 (s.size≤p+gk)∧Aside0 (Kd.R Kd.string 9 wx w.heap.size (fun _=>True) v5 acc)∧Aside0 (wx.heap[kb]? = some (.stringIter s p))∧Aside0 (wx.heap[gb]? = some (.cells #[.int .i64 f0,.string f1,.int .i64 f2,.int .i64 f3,.string f4] 71 (0,0)))∧Aside0 (Below w.heap.size w wx))
 case atStart=>exact ⟨0,[],H,⟨by omega⟩,HO,⟨hit⟩,BK,HB⟩
 case round =>
  clear H HO BK HB hit;obtain ⟨p,acc,H,HG,HO,hit,BK,HB⟩:=hrel
  cases hd:s.data.toList.drop p with
  | nil =>
   have hp:¬ p<s.size:=by have:=congrArg List.length hd;rw [List.length_drop,List.length_nil,show s.data.toList.length=s.size from rfl] at this;omega
   replace H:=H.out;rw [hd] at H;obtain rfl:=si H;clear H
   have hnx:∀ ty,(Instr.next (.pointer (some ⟨kb,0,none⟩)) true ty).run Tryz.prog wr=_:=fun ty=>Lib.run_next_end_at wr kb s p ty hit.out hp
   go_wp2
   go_ret
   exact ⟨_,rfl,HO.out,HB.out⟩
  | cons c cs =>
   obtain ⟨hp,hc,hdr⟩:=impl_lineParts_drop hd;replace H:=H.out;rw [hd] at H;clear hd
   unfold impl_lineParts.l0 at H
   revert H;refine ip1 ?_
   intro hl H;replace hl:=am hl
   have HU:∀ z:Nat,c.toNat=z→z<128→∀ ty,(Instr.next (.pointer (some ⟨kb,0,none⟩)) true ty).run Tryz.prog wr=.ok (.tuple #[.bool true,.int .i64 p,.int .i32 z]) (wr.iterAt kb s (p+1)):=by
    intro z hz hlt ty;have e:=decode_ascii s p hp (by rw [hc];omega)
    rw [hc,hz] at e
    have:=Lib.run_next_any_at (P:=Tryz.prog) wr kb s p ty hit.out hp
    rw [e] at this
    exact this
   have hit2:=Lib.iterAt_heap wr kb s p (p+1) hit.out;have BK2:=am (show (wr.iterAt kb s (p+1)).heap[gb]? = _ from (Lib.iterAt_other wr kb gb s (p+1) (impl_lineParts_ne hit.out BK.out)).trans BK.out);replace HO:=am (impl_lineParts_R (p+1) HO.out hit.out);replace HB:=am (Lib.below_iterAt HB.out (k:=kb) hge s (p+1));clear hit BK hc
   generalize wr.iterAt kb s (p+1)=W1 at HU hit2 BK2 HO HB
   replace hit2:=am hit2;replace hdr:=am hdr;obtain ⟨g1,rfl⟩:∃ g1,gk=g1+1:=⟨gk - 1,by have:=HG.out;omega⟩
   revert H;refine ip2 ?_ ?_
   ·intro c1 H;have hnx:=HU 77 (by rw [c1];rfl) (by omega);clear HU
    revert H;refine ip2 ?_ ?_
    ·intro c2 H;have H':=am H;clear H;have hcz:=cf5 BK2;have b0:(f3 == 0)=true:=beq_iff_eq.mpr c2;have b1:(f3 != 0)=false:=bne_eq_false_iff_eq.mpr c2;clear c1 c2
     go_wp2
     go_roundg g1
     case measure=>omega
     case rel=>exact ⟨p+1,acc,by rw [hdr.out];exact H',⟨by have:=HG.out;omega⟩,HO,hit2,BK2,HB⟩
    ·intro c2 H;replace H:=bo H;obtain ⟨d,A2,H⟩:=H;have H':=am H;clear H;have hcz:=cf5 BK2;have b0:(f3 == 0)=false:=beq_eq_false_iff_ne.mpr c2;have b1:(f3 != 0)=true:=bne_iff_ne.mpr c2;clear c1 c2
     go_wp2_with (first|(go_at_call 100;(with_reducible refine (impl_isText.calls _ false _ rfl).mono ?_);rintro e w' ⟨rfl,⟨nd2,rfl⟩⟩;replace hit2:=am (show (W1.drewN nd2).heap[kb]? = _ from hit2.out);replace BK2:=am (blk_drewN BK2.out nd2);replace HO:=am (Kd.R_drewN HO.out nd2);replace HB:=am (pw_below_drewN HB.out nd2))|(go_at_call 102;refine (impl_lineParts_number gb _ _).mono ?_;rintro e w' ⟨rfl,rfl⟩)|(go_at_call 83;(with_reducible refine (impl_decimal.calls f3 d _ (tbF HTF HB.out) A2.out).mono ?_);rintro e w8 ⟨rfl,hb⟩;replace hit2:=am (impl_lineParts_it hit2.out hb);replace BK2:=am (blk_below (ks BK2) hb);replace HO:=am (Kd.R_below HO.out hb);replace HB:=am (below_step HB.out hb);clear hb)|((with_reducible refine gate_builtin (b:=.append) (xs:=#[.tmp 15,.tmp 21]) rfl ?_);at_builtin;refine Kd.R_append Kd.string (w0:=w) w.heap.size rfl (.tmp 15) (.tmp 21) 22 9 (.string ⟨#[]⟩) 16 rfl Tryz.underlying22 info9 rfl (by decide) (by omega) u5 acc d [.string d] (fun _=>True) (fun _=>False) rfl rfl ?aP (fun _ hk=>hk.elim) (fun _ _=>trivial) ?aO ?aB ?aS ?aL ?_;(case aP=>exact rfl);(case aB=>exact HB.out);(case aO=>exact HO.out);(case aS=>exact HB.out.size);(case aL=>have:=hl.out;omega);intro v2 w9 ho hb hg hat;replace hit2:=am (impl_lineParts_ig hit2.out hg (impl_lineParts_own HO.out hit2.out));replace BK2:=am (blk_grown (ks BK2) hg (Kd.R_ne HO.out BK2.out (by decide)));replace HO:=am ho;replace HB:=am hb;clear ho hb hg hat))
     go_roundg g1
     case measure=>omega
     case rel=>exact ⟨p+1,acc++[d],by rw [hdr.out];exact H',⟨by have:=HG.out;omega⟩,HO,hit2,BK2,HB⟩
   ·intro c1 H
    revert H;refine ip2 ?_ ?_
    ·intro c3 H;have hnx:=HU 84 (by rw [c3];rfl) (by omega);clear HU
     revert H;refine ip2 ?_ ?_
     ·intro c2 H;have H':=am H;clear H;have hcz:=cf5 BK2;have b0:(f4.toList == ([]:List UInt8))=true:=beq_iff_eq.mpr c2;have b1:(f4.toList != ([]:List UInt8))=false:=bne_eq_false_iff_eq.mpr c2;have b2:f4.toList.isEmpty=true:=List.isEmpty_iff.mpr c2;clear c1 c2 c3
      go_wp2
      go_roundg g1
      case measure=>omega
      case rel=>exact ⟨p+1,acc,by rw [hdr.out];exact H',⟨by have:=HG.out;omega⟩,HO,hit2,BK2,HB⟩
     ·intro c2 H;have H':=am H;clear H;have hcz:=cf5 BK2;have b0:(f4.toList == ([]:List UInt8))=false:=beq_eq_false_iff_ne.mpr c2;have b1:(f4.toList != ([]:List UInt8))=true:=bne_iff_ne.mpr c2
      have b2:f4.toList.isEmpty=false:=by cases h:f4.toList with|nil=>exact absurd h c2|cons _ _=>rfl
      clear c1 c2 c3
      go_wp2_with (first|(go_at_call 100;(with_reducible refine (impl_isText.calls _ true _ rfl).mono ?_);rintro e w' ⟨rfl,⟨nd2,rfl⟩⟩;replace hit2:=am (show (W1.drewN nd2).heap[kb]? = _ from hit2.out);replace BK2:=am (blk_drewN BK2.out nd2);replace HO:=am (Kd.R_drewN HO.out nd2);replace HB:=am (pw_below_drewN HB.out nd2))|(go_at_call 101;refine (impl_lineParts_text gb _ _).mono ?_;rintro e w' ⟨rfl,rfl⟩)|((with_reducible refine gate_builtin (b:=.append) (xs:=#[.tmp 43,.tmp 48]) rfl ?_);at_builtin;refine Kd.R_append Kd.string (w0:=w) w.heap.size rfl (.tmp 43) (.tmp 48) 22 9 (.string ⟨#[]⟩) 16 rfl Tryz.underlying22 info9 rfl (by decide) (by omega) u5 acc f4 [.string f4] (fun _=>True) (fun _=>False) rfl rfl ?aP (fun _ hk=>hk.elim) (fun _ _=>trivial) ?aO ?aB ?aS ?aL ?_;(case aP=>exact rfl);(case aB=>exact HB.out);(case aO=>exact HO.out);(case aS=>exact HB.out.size);(case aL=>have:=hl.out;omega);intro v2 w9 ho hb hg hat;replace hit2:=am (impl_lineParts_ig hit2.out hg (impl_lineParts_own HO.out hit2.out));replace BK2:=am (blk_grown (ks BK2) hg (Kd.R_ne HO.out BK2.out (by decide)));replace HO:=am ho;replace HB:=am hb;clear ho hb hg hat))
      go_roundg g1
      case measure=>omega
      case rel=>exact ⟨p+1,acc++[f4],by rw [hdr.out];exact H',⟨by have:=HG.out;omega⟩,HO,hit2,BK2,HB⟩
    ·intro c3 H
     revert H;refine ip2 ?_ ?_
     ·intro c4 H;have hnx:=HU 73 (by rw [c4];rfl) (by omega);clear HU;have H':=am H;clear H;have hcz:=cf5 BK2;clear c1 c3 c4
      go_wp2_with (first|(go_at_call 100;(with_reducible refine (impl_isText.calls _ true _ rfl).mono ?_);rintro e w' ⟨rfl,⟨nd2,rfl⟩⟩;replace hit2:=am (show (W1.drewN nd2).heap[kb]? = _ from hit2.out);replace BK2:=am (blk_drewN BK2.out nd2);replace HO:=am (Kd.R_drewN HO.out nd2);replace HB:=am (pw_below_drewN HB.out nd2))|(go_at_call 101;refine (impl_lineParts_text gb _ _).mono ?_;rintro e w' ⟨rfl,rfl⟩)|((with_reducible refine gate_builtin (b:=.append) (xs:=#[.tmp 43,.tmp 48]) rfl ?_);at_builtin;refine Kd.R_append Kd.string (w0:=w) w.heap.size rfl (.tmp 43) (.tmp 48) 22 9 (.string ⟨#[]⟩) 16 rfl Tryz.underlying22 info9 rfl (by decide) (by omega) u5 acc f1 [.string f1] (fun _=>True) (fun _=>False) rfl rfl ?aP (fun _ hk=>hk.elim) (fun _ _=>trivial) ?aO ?aB ?aS ?aL ?_;(case aP=>exact rfl);(case aB=>exact HB.out);(case aO=>exact HO.out);(case aS=>exact HB.out.size);(case aL=>have:=hl.out;omega);intro v2 w9 ho hb hg hat;replace hit2:=am (impl_lineParts_ig hit2.out hg (impl_lineParts_own HO.out hit2.out));replace BK2:=am (blk_grown (ks BK2) hg (Kd.R_ne HO.out BK2.out (by decide)));replace HO:=am ho;replace HB:=am hb;clear ho hb hg hat))
      go_roundg g1
      case measure=>omega
      case rel=>exact ⟨p+1,acc++[f1],by rw [hdr.out];exact H',⟨by have:=HG.out;omega⟩,HO,hit2,BK2,HB⟩
     ·intro c4 H
      revert H;refine ip2 ?_ ?_
      ·intro c5 H;have hnx:=HU 78 (by rw [c5];rfl) (by omega);clear HU;replace H:=bo H;obtain ⟨d,A2,H⟩:=H;have H':=am H;clear H;have hcz:=cf5 BK2;clear c1 c3 c4 c5
       go_wp2_with (first|(go_at_call 100;(with_reducible refine (impl_isText.calls _ false _ rfl).mono ?_);rintro e w' ⟨rfl,⟨nd2,rfl⟩⟩;replace hit2:=am (show (W1.drewN nd2).heap[kb]? = _ from hit2.out);replace BK2:=am (blk_drewN BK2.out nd2);replace HO:=am (Kd.R_drewN HO.out nd2);replace HB:=am (pw_below_drewN HB.out nd2))|(go_at_call 102;refine (impl_lineParts_number gb _ _).mono ?_;rintro e w' ⟨rfl,rfl⟩)|(go_at_call 83;(with_reducible refine (impl_decimal.calls f0 d _ (tbF HTF HB.out) A2.out).mono ?_);rintro e w8 ⟨rfl,hb⟩;replace hit2:=am (impl_lineParts_it hit2.out hb);replace BK2:=am (blk_below (ks BK2) hb);replace HO:=am (Kd.R_below HO.out hb);replace HB:=am (below_step HB.out hb);clear hb)|((with_reducible refine gate_builtin (b:=.append) (xs:=#[.tmp 15,.tmp 21]) rfl ?_);at_builtin;refine Kd.R_append Kd.string (w0:=w) w.heap.size rfl (.tmp 15) (.tmp 21) 22 9 (.string ⟨#[]⟩) 16 rfl Tryz.underlying22 info9 rfl (by decide) (by omega) u5 acc d [.string d] (fun _=>True) (fun _=>False) rfl rfl ?aP (fun _ hk=>hk.elim) (fun _ _=>trivial) ?aO ?aB ?aS ?aL ?_;(case aP=>exact rfl);(case aB=>exact HB.out);(case aO=>exact HO.out);(case aS=>exact HB.out.size);(case aL=>have:=hl.out;omega);intro v2 w9 ho hb hg hat;replace hit2:=am (impl_lineParts_ig hit2.out hg (impl_lineParts_own HO.out hit2.out));replace BK2:=am (blk_grown (ks BK2) hg (Kd.R_ne HO.out BK2.out (by decide)));replace HO:=am ho;replace HB:=am hb;clear ho hb hg hat))
       go_roundg g1
       case measure=>omega
       case rel=>exact ⟨p+1,acc++[d],by rw [hdr.out];exact H',⟨by have:=HG.out;omega⟩,HO,hit2,BK2,HB⟩
      ·intro c5 H
       revert H;refine ip2 ?_ ?_
       ·intro c6 H;have hnx:=HU 81 (by rw [c6];rfl) (by omega);clear HU;replace H:=bo H;obtain ⟨d,A2,H⟩:=H;have H':=am H;clear H;have hcz:=cf5 BK2;clear c1 c3 c4 c5 c6
        go_wp2_with (first|(go_at_call 100;(with_reducible refine (impl_isText.calls _ false _ rfl).mono ?_);rintro e w' ⟨rfl,⟨nd2,rfl⟩⟩;replace hit2:=am (show (W1.drewN nd2).heap[kb]? = _ from hit2.out);replace BK2:=am (blk_drewN BK2.out nd2);replace HO:=am (Kd.R_drewN HO.out nd2);replace HB:=am (pw_below_drewN HB.out nd2))|(go_at_call 102;refine (impl_lineParts_number gb _ _).mono ?_;rintro e w' ⟨rfl,rfl⟩)|(go_at_call 83;(with_reducible refine (impl_decimal.calls f2 d _ (tbF HTF HB.out) A2.out).mono ?_);rintro e w8 ⟨rfl,hb⟩;replace hit2:=am (impl_lineParts_it hit2.out hb);replace BK2:=am (blk_below (ks BK2) hb);replace HO:=am (Kd.R_below HO.out hb);replace HB:=am (below_step HB.out hb);clear hb)|((with_reducible refine gate_builtin (b:=.append) (xs:=#[.tmp 15,.tmp 21]) rfl ?_);at_builtin;refine Kd.R_append Kd.string (w0:=w) w.heap.size rfl (.tmp 15) (.tmp 21) 22 9 (.string ⟨#[]⟩) 16 rfl Tryz.underlying22 info9 rfl (by decide) (by omega) u5 acc d [.string d] (fun _=>True) (fun _=>False) rfl rfl ?aP (fun _ hk=>hk.elim) (fun _ _=>trivial) ?aO ?aB ?aS ?aL ?_;(case aP=>exact rfl);(case aB=>exact HB.out);(case aO=>exact HO.out);(case aS=>exact HB.out.size);(case aL=>have:=hl.out;omega);intro v2 w9 ho hb hg hat;replace hit2:=am (impl_lineParts_ig hit2.out hg (impl_lineParts_own HO.out hit2.out));replace BK2:=am (blk_grown (ks BK2) hg (Kd.R_ne HO.out BK2.out (by decide)));replace HO:=am ho;replace HB:=am hb;clear ho hb hg hat))
        go_roundg g1
        case measure=>omega
        case rel=>exact ⟨p+1,acc++[d],by rw [hdr.out];exact H',⟨by have:=HG.out;omega⟩,HO,hit2,BK2,HB⟩
       ·intro c6 H
        cases H
end Go.Proofs.YtogkcllenfkdmaaGreatDoor.QR
