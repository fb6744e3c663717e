-- Merged by a program of this session (wip/tool/pack.py) out of its own texts for this claim.
import Derived.Test.YtaememmnhmebcaaGreatDoorKFnExactPaperBody7
set_option maxHeartbeats 8000000
set_option maxRecDepth 100000
set_option linter.unusedSimpArgs false
set_option linter.unusedVariables false
namespace Go.Proofs.YtaememmnhmebcaaGreatDoor.QB
open Go.RowKit Go.Proofs.YtaememmnhmebcaaGreatDoorW.PrintWords Go.Proofs.YtaememmnhmebcaaGreatDoorW.PrintLast Go.Proofs.YtaememmnhmebcaaGreatDoorW.PrintMore
attribute [local go_sem] max2_int min2_int max_two min_two max_three min_three max_four min_four   -- for this text's walks alone
theorem spec_TableOf.calls (k:Nat) (a0:Int) (r:List (S87)) (w:World) (H:spec_TableOf.f k a0=some r) :
  Calls Tryz.prog 78 #[.int .i64 a0] w fun e w'=>∃ v0_:Value,e=.returned (v0_)∧Kd.R k87 87 w' w.heap.size (fun _=>True) v0_ r∧Below w.heap.size w w':=by
 have hu87:=Tryz.underlying87;have HB:=am (Below.refl w.heap.size w);unfold spec_TableOf.f at H
 revert H;refine ie2 ?_ ?_
 ·intro c2b0 c2b1 H;obtain ⟨y62,hy62⟩:∃ y_:List (S87),y_=(([(⟨(⟨#[68,79,67]⟩:ByteArray),1,1,(⟨#[114,100]⟩:ByteArray)⟩:S87),(⟨(⟨#[78,79,84]⟩:ByteArray),0,2,(⟨#[116]⟩:ByteArray)⟩:S87),(⟨(⟨#[76,73,78]⟩:ByteArray),1,20,(⟨#[110,114,113,63,110]⟩:ByteArray)⟩:S87)]:List (S87))):=⟨_,rfl⟩
  replace H:(some y62)=some r:=ye hy62 H
  have Ny62:=am hy62;clear hy62;obtain rfl:=si H
  go_in
  go_wp2_with (first|((with_reducible refine gate_dst (N:=3) rfl ?_);refine bz 3 (cs:=#[.string (⟨#[]⟩:ByteArray),.int .i64 0,.int .i64 0,.string (⟨#[]⟩:ByteArray)]) (t:=87) HB ?_;clear HB;intro gb26 hg w3 BK26 GW26 hb HB;clear hb hg;have hcz4_0:w3.cell? ⟨gb26,0,none⟩=some (.string (⟨#[]⟩:ByteArray)):=(blk_cell BK26.out 0).trans rfl;have hcz4_1:w3.cell? ⟨gb26,1,none⟩=some (.int .i64 0):=(blk_cell BK26.out 1).trans rfl;have hcz4_2:w3.cell? ⟨gb26,2,none⟩=some (.int .i64 0):=(blk_cell BK26.out 2).trans rfl;have hcz4_3:w3.cell? ⟨gb26,3,none⟩=some (.string (⟨#[]⟩:ByteArray)):=(blk_cell BK26.out 3).trans rfl;have hfz4_0:=blk_frozen BK26.out 0;have hfz4_1:=blk_frozen BK26.out 1;have hfz4_2:=blk_frozen BK26.out 2;have hfz4_3:=blk_frozen BK26.out 3)|((with_reducible refine gate_dst (N:=4) rfl ?_);refine bz 4 (cs:=#[.string (⟨#[]⟩:ByteArray),.int .i64 0,.int .i64 0,.string (⟨#[]⟩:ByteArray)]) (t:=87) HB ?_;clear HB;intro gb60 hg w5 BK60 GW60 hb HB;have NB26_60:=am ((gn hg (kp BK26)));have NB60_26:=am ((gm hg (kp BK26)));replace BK26:=am (blk_below (g:=gb26) (o:=.cells #[.string (⟨#[68,79,67]⟩:ByteArray),.int .i64 1,.int .i64 1,.string (⟨#[114,100]⟩:ByteArray)] 87 (0,0)) (kp BK26) hb);clear hb hg;have hnb6:=NB60_26.out;have hnc6:=NB26_60.out;have hcz7_0:w5.cell? ⟨gb60,0,none⟩=some (.string (⟨#[]⟩:ByteArray)):=(blk_cell BK60.out 0).trans rfl;have hcz7_1:w5.cell? ⟨gb60,1,none⟩=some (.int .i64 0):=(blk_cell BK60.out 1).trans rfl;have hcz7_2:w5.cell? ⟨gb60,2,none⟩=some (.int .i64 0):=(blk_cell BK60.out 2).trans rfl;have hcz7_3:w5.cell? ⟨gb60,3,none⟩=some (.string (⟨#[]⟩:ByteArray)):=(blk_cell BK60.out 3).trans rfl;have hfz7_0:=blk_frozen BK60.out 0;have hfz7_1:=blk_frozen BK60.out 1;have hfz7_2:=blk_frozen BK60.out 2;have hfz7_3:=blk_frozen BK60.out 3)|((with_reducible refine gate_dst (N:=5) rfl ?_);refine bz 5 (cs:=#[.string (⟨#[]⟩:ByteArray),.int .i64 0,.int .i64 0,.string (⟨#[]⟩:ByteArray)]) (t:=87) HB ?_;clear HB;intro gb61 hg w8 BK61 GW61 hb HB;have NB26_61:=na hg BK26;have NB61_26:=nc hg BK26;replace BK26:=am (blk_below (g:=gb26) (o:=.cells #[.string (⟨#[68,79,67]⟩:ByteArray),.int .i64 1,.int .i64 1,.string (⟨#[114,100]⟩:ByteArray)] 87 (0,0)) (ks BK26) hb);have NB60_61:=am ((gn hg (kp BK60)));have NB61_60:=am ((gm hg (kp BK60)));replace BK60:=am (blk_below (g:=gb60) (o:=.cells #[.string (⟨#[68,79,67]⟩:ByteArray),.int .i64 1,.int .i64 1,.string (⟨#[114,114,100]⟩:ByteArray)] 87 (0,0)) (kp BK60) hb);clear hb hg;have hnb9:=NB61_26.out;have hnc9:=NB26_61.out;have hnb10:=NB61_60.out;have hnc10:=NB60_61.out;have hcz11:=cf4 BK61;have hcz12_0:w8.cell? ⟨gb26,0,none⟩=some (.string (⟨#[68,79,67]⟩:ByteArray)):=(blk_cell BK26.out 0).trans rfl;have hcz12_1:w8.cell? ⟨gb26,1,none⟩=some (.int .i64 1):=(blk_cell BK26.out 1).trans rfl;have hcz12_2:w8.cell? ⟨gb26,2,none⟩=some (.int .i64 1):=(blk_cell BK26.out 2).trans rfl;have hcz12_3:w8.cell? ⟨gb26,3,none⟩=some (.string (⟨#[114,100]⟩:ByteArray)):=(blk_cell BK26.out 3).trans rfl;have hfz12_0:=blk_frozen BK26.out 0;have hfz12_1:=blk_frozen BK26.out 1;have hfz12_2:=blk_frozen BK26.out 2;have hfz12_3:=blk_frozen BK26.out 3)|((with_reducible refine gate_dst (N:=15) rfl ?_);refine rl k87 87 (N:=15) (xs:=([(⟨(⟨#[68,79,67]⟩:ByteArray),1,1,(⟨#[114,100]⟩:ByteArray)⟩:S87),(⟨(⟨#[78,79,84]⟩:ByteArray),0,2,(⟨#[116]⟩:ByteArray)⟩:S87),(⟨(⟨#[76,73,78]⟩:ByteArray),1,20,(⟨#[110,114,113,63,110]⟩:ByteArray)⟩:S87)]:List (S87))) (inner:=[.string (⟨#[68,79,67]⟩:ByteArray),.int .i64 1,.int .i64 1,.string (⟨#[114,100]⟩:ByteArray),.string (⟨#[78,79,84]⟩:ByteArray),.int .i64 0,.int .i64 2,.string (⟨#[116]⟩:ByteArray),.string (⟨#[76,73,78]⟩:ByteArray),.int .i64 1,.int .i64 20,.string (⟨#[110,114,113,63,110]⟩:ByteArray)]) ?hp ?_;(case hp=>exact (Reps.c4 (show Kd.M k87 _ _ _ (⟨(⟨#[68,79,67]⟩:ByteArray),1,1,(⟨#[114,100]⟩:ByteArray)⟩:S87) [.string (⟨#[68,79,67]⟩:ByteArray),.int .i64 1,.int .i64 1,.string (⟨#[114,100]⟩:ByteArray)] from (k87_mkM _ _ _ (⟨(⟨#[68,79,67]⟩:ByteArray),1,1,(⟨#[114,100]⟩:ByteArray)⟩:S87) )) (Reps.c4 (show Kd.M k87 _ _ _ (⟨(⟨#[78,79,84]⟩:ByteArray),0,2,(⟨#[116]⟩:ByteArray)⟩:S87) [.string (⟨#[78,79,84]⟩:ByteArray),.int .i64 0,.int .i64 2,.string (⟨#[116]⟩:ByteArray)] from (k87_mkM _ _ _ (⟨(⟨#[78,79,84]⟩:ByteArray),0,2,(⟨#[116]⟩:ByteArray)⟩:S87) )) (Reps.c4 (show Kd.M k87 _ _ _ (⟨(⟨#[76,73,78]⟩:ByteArray),1,20,(⟨#[110,114,113,63,110]⟩:ByteArray)⟩:S87) [.string (⟨#[76,73,78]⟩:ByteArray),.int .i64 1,.int .i64 20,.string (⟨#[110,114,113,63,110]⟩:ByteArray)] from (k87_mkM _ _ _ (⟨(⟨#[76,73,78]⟩:ByteArray),1,20,(⟨#[110,114,113,63,110]⟩:ByteArray)⟩:S87) )) (Reps.none _ _)))));intro v89 w13 ho14 hb hg_ hnew_;clear hg_ hnew_;(first|rw [← Ny62.out] at ho14|(simp only [Int.reduceToNat] at ho14;rw [← Ny62.out] at ho14));have HO80:=am (Kd.R_lower (Kd.R_newB (Kd.R_newB (Kd.R_newB ho14 (g:=gb26) (o:=.cells #[.string (⟨#[68,79,67]⟩:ByteArray),.int .i64 1,.int .i64 1,.string (⟨#[114,100]⟩:ByteArray)] 87 (0,0)) (ks BK26)) (g:=gb60) (o:=.cells #[.string (⟨#[68,79,67]⟩:ByteArray),.int .i64 1,.int .i64 1,.string (⟨#[114,114,100]⟩:ByteArray)] 87 (0,0)) (ks BK60)) (g:=gb61) (o:=.cells #[.string (⟨#[78,79,84]⟩:ByteArray),.int .i64 0,.int .i64 2,.string (⟨#[116]⟩:ByteArray)] 87 (0,0)) (kp BK61)) (below_size (bs HB)));replace BK26:=am (blk_below (g:=gb26) (o:=.cells #[.string (⟨#[68,79,67]⟩:ByteArray),.int .i64 1,.int .i64 1,.string (⟨#[114,100]⟩:ByteArray)] 87 (0,0)) (ks BK26) hb);replace BK60:=am (blk_below (g:=gb60) (o:=.cells #[.string (⟨#[68,79,67]⟩:ByteArray),.int .i64 1,.int .i64 1,.string (⟨#[114,114,100]⟩:ByteArray)] 87 (0,0)) (ks BK60) hb);replace BK61:=am (blk_below (g:=gb61) (o:=.cells #[.string (⟨#[78,79,84]⟩:ByteArray),.int .i64 0,.int .i64 2,.string (⟨#[116]⟩:ByteArray)] 87 (0,0)) (kp BK61) hb);replace HB:=bq HB hb;clear hb ho14))
  go_ret
  exact ⟨_,ff,by (with_reducible repeat (first|apply Kd.R_alloc|apply Kd.R_drewN|apply Kd.R_drew));exact Kd.R_mono HO80.out (fun _ hk=>trivial),bs HB⟩
 ·intro c2 c2b0 c2b1 H;have HC15:=am H;clear H
  go_in
  go_upto_if 16 with (first|((with_reducible refine gate_dst (N:=3) rfl ?_);refine bz 3 (cs:=#[.string (⟨#[]⟩:ByteArray),.int .i64 0,.int .i64 0,.string (⟨#[]⟩:ByteArray)]) (t:=87) HB ?_;clear HB;intro gb26 hg w16 BK26 GW26 hb HB;clear hb hg;have hcz17_0:w16.cell? ⟨gb26,0,none⟩=some (.string (⟨#[]⟩:ByteArray)):=(blk_cell BK26.out 0).trans rfl;have hcz17_1:w16.cell? ⟨gb26,1,none⟩=some (.int .i64 0):=(blk_cell BK26.out 1).trans rfl;have hcz17_2:w16.cell? ⟨gb26,2,none⟩=some (.int .i64 0):=(blk_cell BK26.out 2).trans rfl;have hcz17_3:w16.cell? ⟨gb26,3,none⟩=some (.string (⟨#[]⟩:ByteArray)):=(blk_cell BK26.out 3).trans rfl;have hfz17_0:=blk_frozen BK26.out 0;have hfz17_1:=blk_frozen BK26.out 1;have hfz17_2:=blk_frozen BK26.out 2;have hfz17_3:=blk_frozen BK26.out 3)|((with_reducible refine gate_dst (N:=4) rfl ?_);refine bz 4 (cs:=#[.string (⟨#[]⟩:ByteArray),.int .i64 0,.int .i64 0,.string (⟨#[]⟩:ByteArray)]) (t:=87) HB ?_;clear HB;intro gb60 hg w18 BK60 GW60 hb HB;have NB26_60:=am ((gn hg (kp BK26)));have NB60_26:=am ((gm hg (kp BK26)));replace BK26:=am (blk_below (g:=gb26) (o:=.cells #[.string (⟨#[68,79,67]⟩:ByteArray),.int .i64 1,.int .i64 1,.string (⟨#[114,100]⟩:ByteArray)] 87 (0,0)) (kp BK26) hb);clear hb hg;have hnb19:=NB60_26.out;have hnc19:=NB26_60.out;have hcz20_0:w18.cell? ⟨gb60,0,none⟩=some (.string (⟨#[]⟩:ByteArray)):=(blk_cell BK60.out 0).trans rfl;have hcz20_1:w18.cell? ⟨gb60,1,none⟩=some (.int .i64 0):=(blk_cell BK60.out 1).trans rfl;have hcz20_2:w18.cell? ⟨gb60,2,none⟩=some (.int .i64 0):=(blk_cell BK60.out 2).trans rfl;have hcz20_3:w18.cell? ⟨gb60,3,none⟩=some (.string (⟨#[]⟩:ByteArray)):=(blk_cell BK60.out 3).trans rfl;have hfz20_0:=blk_frozen BK60.out 0;have hfz20_1:=blk_frozen BK60.out 1;have hfz20_2:=blk_frozen BK60.out 2;have hfz20_3:=blk_frozen BK60.out 3)|((with_reducible refine gate_dst (N:=5) rfl ?_);refine bz 5 (cs:=#[.string (⟨#[]⟩:ByteArray),.int .i64 0,.int .i64 0,.string (⟨#[]⟩:ByteArray)]) (t:=87) HB ?_;clear HB;intro gb61 hg w21 BK61 GW61 hb HB;have NB26_61:=na hg BK26;have NB61_26:=nc hg BK26;replace BK26:=am (blk_below (g:=gb26) (o:=.cells #[.string (⟨#[68,79,67]⟩:ByteArray),.int .i64 1,.int .i64 1,.string (⟨#[114,100]⟩:ByteArray)] 87 (0,0)) (ks BK26) hb);have NB60_61:=am ((gn hg (kp BK60)));have NB61_60:=am ((gm hg (kp BK60)));replace BK60:=am (blk_below (g:=gb60) (o:=.cells #[.string (⟨#[68,79,67]⟩:ByteArray),.int .i64 1,.int .i64 1,.string (⟨#[114,114,100]⟩:ByteArray)] 87 (0,0)) (kp BK60) hb);clear hb hg;have hnb22:=NB61_26.out;have hnc22:=NB26_61.out;have hnb23:=NB61_60.out;have hnc23:=NB60_61.out;have hcz24:=cf4 BK61))
  (try simp only [Act.put,List.setIfInBounds_toArray,List.set_cons_zero,List.set_cons_succ])
  go_cut [16] (fun v16 wc=>∃ (kq:Nat) (x16_14:Bool),v16=.bool x16_14∧Aside0 (spec_TableOf.j0 kq a0 x16_14 (⟨#[68,79,67]⟩:ByteArray) 1 1 (⟨#[114,100]⟩:ByteArray) (⟨#[68,79,67]⟩:ByteArray) 1 1 (⟨#[114,114,100]⟩:ByteArray) (⟨#[78,79,84]⟩:ByteArray) 0 2 (⟨#[116]⟩:ByteArray)=some r)∧Aside0 (kq≤k)∧Aside0 (wc.heap[gb26]? = some (.cells #[.string (⟨#[68,79,67]⟩:ByteArray),.int .i64 1,.int .i64 1,.string (⟨#[114,100]⟩:ByteArray)] 87 (0,0)))∧Aside0 (wc.heap[gb60]? = some (.cells #[.string (⟨#[68,79,67]⟩:ByteArray),.int .i64 1,.int .i64 1,.string (⟨#[114,114,100]⟩:ByteArray)] 87 (0,0)))∧Aside0 (wc.heap[gb61]? = some (.cells #[.string (⟨#[78,79,84]⟩:ByteArray),.int .i64 0,.int .i64 2,.string (⟨#[116]⟩:ByteArray)] 87 (0,0)))∧Aside0 (Below w.heap.size w wc))
  case first =>
   have H:=HC15.out;clear HC15
   revert H;refine ie2 ?_ ?_
   ·intro c25b0 c25b1 H
    (first|rw [c25b0]|(simp only [i64_w,i32_w];rw [c25b0])|rw [c25b1]|skip)
    have H':=am H;clear H
    go_wp2
    go_meet
    case rel=>exact ⟨_,((a0 == 2)),fg,H',⟨fl⟩,⟨ks BK26⟩,⟨ks BK60⟩,⟨kp BK61⟩,⟨bs HB⟩⟩
   ·intro c25 c25b0 c25b1 H
    (first|rw [c25b0]|(simp only [i64_w,i32_w];rw [c25b0])|rw [c25b1]|skip)
    have H':=am H;clear H
    go_wp2
    go_meet
    case rel=>exact ⟨_,((a0 == 4)),fg,H',⟨fl⟩,⟨ks BK26⟩,⟨ks BK60⟩,⟨kp BK61⟩,⟨bs HB⟩⟩
  case rest =>
   clear HC15
   try clear c2
   try clear c2b0
   try clear c2b1
   try clear hcz24
   obtain ⟨kq,x16_14,rfl,HA,HJ14,BK26,BK60,BK61,HB⟩:=hcut
   cases kq with
   | zero=>exact absurd HA.out (by simp [spec_TableOf.j0])
   | succ kj14 =>
    have H:=HA.out;clear HA;simp only [spec_TableOf.j0] at H
    obtain rfl|rfl:=bt x16_14
    ·replace H:=itT H;obtain ⟨y66,hy66⟩:∃ y_:List (S87),y_=(([(⟨(⟨#[68,79,67]⟩:ByteArray),1,1,(⟨#[114,114,100]⟩:ByteArray)⟩:S87),(⟨(⟨#[76,73,78]⟩:ByteArray),1,20,(⟨#[110,113,63,116]⟩:ByteArray)⟩:S87)]:List (S87))):=⟨_,rfl⟩
     replace H:(some y66)=some r:=ye hy66 H
     have Ny66:=am hy66;clear hy66;obtain rfl:=si H;have hnb27:=NB60_26.out;have hnc27:=NB26_60.out;have hnb28:=NB60_61.out;have hnc28:=NB61_60.out;have hcz29:=cf4 BK60
     go_wp2_with (first|((with_reducible refine gate_dst (N:=21) rfl ?_);refine rl k87 87 (N:=21) (xs:=([(⟨(⟨#[68,79,67]⟩:ByteArray),1,1,(⟨#[114,114,100]⟩:ByteArray)⟩:S87),(⟨(⟨#[76,73,78]⟩:ByteArray),1,20,(⟨#[110,113,63,116]⟩:ByteArray)⟩:S87)]:List (S87))) (inner:=[.string (⟨#[68,79,67]⟩:ByteArray),.int .i64 1,.int .i64 1,.string (⟨#[114,114,100]⟩:ByteArray),.string (⟨#[76,73,78]⟩:ByteArray),.int .i64 1,.int .i64 20,.string (⟨#[110,113,63,116]⟩:ByteArray)]) ?hp ?_;(case hp=>exact (Reps.c4 (show Kd.M k87 _ _ _ (⟨(⟨#[68,79,67]⟩:ByteArray),1,1,(⟨#[114,114,100]⟩:ByteArray)⟩:S87) [.string (⟨#[68,79,67]⟩:ByteArray),.int .i64 1,.int .i64 1,.string (⟨#[114,114,100]⟩:ByteArray)] from (k87_mkM _ _ _ (⟨(⟨#[68,79,67]⟩:ByteArray),1,1,(⟨#[114,114,100]⟩:ByteArray)⟩:S87) )) (Reps.c4 (show Kd.M k87 _ _ _ (⟨(⟨#[76,73,78]⟩:ByteArray),1,20,(⟨#[110,113,63,116]⟩:ByteArray)⟩:S87) [.string (⟨#[76,73,78]⟩:ByteArray),.int .i64 1,.int .i64 20,.string (⟨#[110,113,63,116]⟩:ByteArray)] from (k87_mkM _ _ _ (⟨(⟨#[76,73,78]⟩:ByteArray),1,20,(⟨#[110,113,63,116]⟩:ByteArray)⟩:S87) )) (Reps.none _ _))));intro v90 w30 ho31 hb hg_ hnew_;clear hg_ hnew_;(first|rw [← Ny66.out] at ho31|(simp only [Int.reduceToNat] at ho31;rw [← Ny66.out] at ho31));have HO81:=am (Kd.R_lower (Kd.R_newB (Kd.R_newB (Kd.R_newB ho31 (g:=gb26) (o:=.cells #[.string (⟨#[68,79,67]⟩:ByteArray),.int .i64 1,.int .i64 1,.string (⟨#[114,100]⟩:ByteArray)] 87 (0,0)) (ks BK26)) (g:=gb60) (o:=.cells #[.string (⟨#[68,79,67]⟩:ByteArray),.int .i64 1,.int .i64 1,.string (⟨#[114,114,100]⟩:ByteArray)] 87 (0,0)) (ks BK60)) (g:=gb61) (o:=.cells #[.string (⟨#[78,79,84]⟩:ByteArray),.int .i64 0,.int .i64 2,.string (⟨#[116]⟩:ByteArray)] 87 (0,0)) (ks BK61)) (below_size (bs HB)));replace BK26:=am (blk_below (g:=gb26) (o:=.cells #[.string (⟨#[68,79,67]⟩:ByteArray),.int .i64 1,.int .i64 1,.string (⟨#[114,100]⟩:ByteArray)] 87 (0,0)) (ks BK26) hb);replace BK60:=am (blk_below (g:=gb60) (o:=.cells #[.string (⟨#[68,79,67]⟩:ByteArray),.int .i64 1,.int .i64 1,.string (⟨#[114,114,100]⟩:ByteArray)] 87 (0,0)) (ks BK60) hb);replace BK61:=am (blk_below (g:=gb61) (o:=.cells #[.string (⟨#[78,79,84]⟩:ByteArray),.int .i64 0,.int .i64 2,.string (⟨#[116]⟩:ByteArray)] 87 (0,0)) (ks BK61) hb);replace HB:=bq HB hb;clear hb ho31))
     go_ret
     exact ⟨_,ff,by (with_reducible repeat (first|apply Kd.R_alloc|apply Kd.R_drewN|apply Kd.R_drew));exact Kd.R_mono HO81.out (fun _ hk=>trivial),bs HB⟩
    ·replace H:=itF H
     revert H;refine ie2 ?_ ?_
     ·intro c32b0 c32b1 H;obtain ⟨y69,hy69⟩:∃ y_:List (S87),y_=(([(⟨(⟨#[68,79,67]⟩:ByteArray),1,1,(⟨#[114,114,100]⟩:ByteArray)⟩:S87),(⟨(⟨#[78,79,84]⟩:ByteArray),0,2,(⟨#[116]⟩:ByteArray)⟩:S87),(⟨(⟨#[76,73,78]⟩:ByteArray),1,20,(⟨#[110,113]⟩:ByteArray)⟩:S87)]:List (S87))):=⟨_,rfl⟩
      replace H:(some y69)=some r:=ye hy69 H
      have Ny69:=am hy69;clear hy69;obtain rfl:=si H;have hnb33:=NB60_26.out;have hnc33:=NB26_60.out;have hnb34:=NB60_61.out;have hnc34:=NB61_60.out;have hcz35:=cf4 BK60;have hnb36:=NB61_26.out;have hnc36:=NB26_61.out;have hcz37:=cf4 BK61
      go_wp2_with (first|((with_reducible refine gate_dst (N:=27) rfl ?_);refine rl k87 87 (N:=27) (xs:=([(⟨(⟨#[68,79,67]⟩:ByteArray),1,1,(⟨#[114,114,100]⟩:ByteArray)⟩:S87),(⟨(⟨#[78,79,84]⟩:ByteArray),0,2,(⟨#[116]⟩:ByteArray)⟩:S87),(⟨(⟨#[76,73,78]⟩:ByteArray),1,20,(⟨#[110,113]⟩:ByteArray)⟩:S87)]:List (S87))) (inner:=[.string (⟨#[68,79,67]⟩:ByteArray),.int .i64 1,.int .i64 1,.string (⟨#[114,114,100]⟩:ByteArray),.string (⟨#[78,79,84]⟩:ByteArray),.int .i64 0,.int .i64 2,.string (⟨#[116]⟩:ByteArray),.string (⟨#[76,73,78]⟩:ByteArray),.int .i64 1,.int .i64 20,.string (⟨#[110,113]⟩:ByteArray)]) ?hp ?_;(case hp=>exact (Reps.c4 (show Kd.M k87 _ _ _ (⟨(⟨#[68,79,67]⟩:ByteArray),1,1,(⟨#[114,114,100]⟩:ByteArray)⟩:S87) [.string (⟨#[68,79,67]⟩:ByteArray),.int .i64 1,.int .i64 1,.string (⟨#[114,114,100]⟩:ByteArray)] from (k87_mkM _ _ _ (⟨(⟨#[68,79,67]⟩:ByteArray),1,1,(⟨#[114,114,100]⟩:ByteArray)⟩:S87) )) (Reps.c4 (show Kd.M k87 _ _ _ (⟨(⟨#[78,79,84]⟩:ByteArray),0,2,(⟨#[116]⟩:ByteArray)⟩:S87) [.string (⟨#[78,79,84]⟩:ByteArray),.int .i64 0,.int .i64 2,.string (⟨#[116]⟩:ByteArray)] from (k87_mkM _ _ _ (⟨(⟨#[78,79,84]⟩:ByteArray),0,2,(⟨#[116]⟩:ByteArray)⟩:S87) )) (Reps.c4 (show Kd.M k87 _ _ _ (⟨(⟨#[76,73,78]⟩:ByteArray),1,20,(⟨#[110,113]⟩:ByteArray)⟩:S87) [.string (⟨#[76,73,78]⟩:ByteArray),.int .i64 1,.int .i64 20,.string (⟨#[110,113]⟩:ByteArray)] from (k87_mkM _ _ _ (⟨(⟨#[76,73,78]⟩:ByteArray),1,20,(⟨#[110,113]⟩:ByteArray)⟩:S87) )) (Reps.none _ _)))));intro v91 w38 ho39 hb hg_ hnew_;clear hg_ hnew_;(first|rw [← Ny69.out] at ho39|(simp only [Int.reduceToNat] at ho39;rw [← Ny69.out] at ho39));have HO82:=am (Kd.R_lower (Kd.R_newB (Kd.R_newB (Kd.R_newB ho39 (g:=gb26) (o:=.cells #[.string (⟨#[68,79,67]⟩:ByteArray),.int .i64 1,.int .i64 1,.string (⟨#[114,100]⟩:ByteArray)] 87 (0,0)) (ks BK26)) (g:=gb60) (o:=.cells #[.string (⟨#[68,79,67]⟩:ByteArray),.int .i64 1,.int .i64 1,.string (⟨#[114,114,100]⟩:ByteArray)] 87 (0,0)) (ks BK60)) (g:=gb61) (o:=.cells #[.string (⟨#[78,79,84]⟩:ByteArray),.int .i64 0,.int .i64 2,.string (⟨#[116]⟩:ByteArray)] 87 (0,0)) (ks BK61)) (below_size (bs HB)));replace BK26:=am (blk_below (g:=gb26) (o:=.cells #[.string (⟨#[68,79,67]⟩:ByteArray),.int .i64 1,.int .i64 1,.string (⟨#[114,100]⟩:ByteArray)] 87 (0,0)) (ks BK26) hb);replace BK60:=am (blk_below (g:=gb60) (o:=.cells #[.string (⟨#[68,79,67]⟩:ByteArray),.int .i64 1,.int .i64 1,.string (⟨#[114,114,100]⟩:ByteArray)] 87 (0,0)) (ks BK60) hb);replace BK61:=am (blk_below (g:=gb61) (o:=.cells #[.string (⟨#[78,79,84]⟩:ByteArray),.int .i64 0,.int .i64 2,.string (⟨#[116]⟩:ByteArray)] 87 (0,0)) (ks BK61) hb);replace HB:=bq HB hb;clear hb ho39))
      go_ret
      exact ⟨_,ff,by (with_reducible repeat (first|apply Kd.R_alloc|apply Kd.R_drewN|apply Kd.R_drew));exact Kd.R_mono HO82.out (fun _ hk=>trivial),bs HB⟩
     ·intro c32 c32b0 c32b1 H
      revert H;refine ie2 ?_ ?_
      ·intro c40b0 c40b1 H;obtain ⟨y70,hy70⟩:∃ y_:List (S87),y_=(([(⟨(⟨#[68,79,67]⟩:ByteArray),1,1,(⟨#[114,100]⟩:ByteArray)⟩:S87),(⟨(⟨#[73,84,77]⟩:ByteArray),1,20,(⟨#[114,110]⟩:ByteArray)⟩:S87)]:List (S87))):=⟨_,rfl⟩
       replace H:(some y70)=some r:=ye hy70 H
       have Ny70:=am hy70;clear hy70;obtain rfl:=si H;have hnb41:=NB26_60.out;have hnc41:=NB60_26.out;have hnb42:=NB26_61.out;have hnc42:=NB61_26.out;have hcz43:=cf4 BK26
       go_wp2_with (first|((with_reducible refine gate_dst (N:=32) rfl ?_);refine rl k87 87 (N:=32) (xs:=([(⟨(⟨#[68,79,67]⟩:ByteArray),1,1,(⟨#[114,100]⟩:ByteArray)⟩:S87),(⟨(⟨#[73,84,77]⟩:ByteArray),1,20,(⟨#[114,110]⟩:ByteArray)⟩:S87)]:List (S87))) (inner:=[.string (⟨#[68,79,67]⟩:ByteArray),.int .i64 1,.int .i64 1,.string (⟨#[114,100]⟩:ByteArray),.string (⟨#[73,84,77]⟩:ByteArray),.int .i64 1,.int .i64 20,.string (⟨#[114,110]⟩:ByteArray)]) ?hp ?_;(case hp=>exact (Reps.c4 (show Kd.M k87 _ _ _ (⟨(⟨#[68,79,67]⟩:ByteArray),1,1,(⟨#[114,100]⟩:ByteArray)⟩:S87) [.string (⟨#[68,79,67]⟩:ByteArray),.int .i64 1,.int .i64 1,.string (⟨#[114,100]⟩:ByteArray)] from (k87_mkM _ _ _ (⟨(⟨#[68,79,67]⟩:ByteArray),1,1,(⟨#[114,100]⟩:ByteArray)⟩:S87) )) (Reps.c4 (show Kd.M k87 _ _ _ (⟨(⟨#[73,84,77]⟩:ByteArray),1,20,(⟨#[114,110]⟩:ByteArray)⟩:S87) [.string (⟨#[73,84,77]⟩:ByteArray),.int .i64 1,.int .i64 20,.string (⟨#[114,110]⟩:ByteArray)] from (k87_mkM _ _ _ (⟨(⟨#[73,84,77]⟩:ByteArray),1,20,(⟨#[114,110]⟩:ByteArray)⟩:S87) )) (Reps.none _ _))));intro v92 w44 ho45 hb hg_ hnew_;clear hg_ hnew_;(first|rw [← Ny70.out] at ho45|(simp only [Int.reduceToNat] at ho45;rw [← Ny70.out] at ho45));have HO83:=am (Kd.R_lower (Kd.R_newB (Kd.R_newB (Kd.R_newB ho45 (g:=gb26) (o:=.cells #[.string (⟨#[68,79,67]⟩:ByteArray),.int .i64 1,.int .i64 1,.string (⟨#[114,100]⟩:ByteArray)] 87 (0,0)) (ks BK26)) (g:=gb60) (o:=.cells #[.string (⟨#[68,79,67]⟩:ByteArray),.int .i64 1,.int .i64 1,.string (⟨#[114,114,100]⟩:ByteArray)] 87 (0,0)) (ks BK60)) (g:=gb61) (o:=.cells #[.string (⟨#[78,79,84]⟩:ByteArray),.int .i64 0,.int .i64 2,.string (⟨#[116]⟩:ByteArray)] 87 (0,0)) (ks BK61)) (below_size (bs HB)));replace BK26:=am (blk_below (g:=gb26) (o:=.cells #[.string (⟨#[68,79,67]⟩:ByteArray),.int .i64 1,.int .i64 1,.string (⟨#[114,100]⟩:ByteArray)] 87 (0,0)) (ks BK26) hb);replace BK60:=am (blk_below (g:=gb60) (o:=.cells #[.string (⟨#[68,79,67]⟩:ByteArray),.int .i64 1,.int .i64 1,.string (⟨#[114,114,100]⟩:ByteArray)] 87 (0,0)) (ks BK60) hb);replace BK61:=am (blk_below (g:=gb61) (o:=.cells #[.string (⟨#[78,79,84]⟩:ByteArray),.int .i64 0,.int .i64 2,.string (⟨#[116]⟩:ByteArray)] 87 (0,0)) (ks BK61) hb);replace HB:=bq HB hb;clear hb ho45))
       go_ret
       exact ⟨_,ff,by (with_reducible repeat (first|apply Kd.R_alloc|apply Kd.R_drewN|apply Kd.R_drew));exact Kd.R_mono HO83.out (fun _ hk=>trivial),bs HB⟩
      ·intro c40 c40b0 c40b1 H
       revert H;refine ie2 ?_ ?_
       ·intro c46b0 c46b1 H;obtain ⟨y71,hy71⟩:∃ y_:List (S87),y_=(([(⟨(⟨#[68,79,67]⟩:ByteArray),1,1,(⟨#[114,100]⟩:ByteArray)⟩:S87),(⟨(⟨#[73,84,77]⟩:ByteArray),1,20,(⟨#[114,122,63,116]⟩:ByteArray)⟩:S87)]:List (S87))):=⟨_,rfl⟩
        replace H:(some y71)=some r:=ye hy71 H
        have Ny71:=am hy71;clear hy71;obtain rfl:=si H;have hnb47:=NB26_60.out;have hnc47:=NB60_26.out;have hnb48:=NB26_61.out;have hnc48:=NB61_26.out;have hcz49:=cf4 BK26
        go_wp2_with (first|((with_reducible refine gate_dst (N:=37) rfl ?_);refine rl k87 87 (N:=37) (xs:=([(⟨(⟨#[68,79,67]⟩:ByteArray),1,1,(⟨#[114,100]⟩:ByteArray)⟩:S87),(⟨(⟨#[73,84,77]⟩:ByteArray),1,20,(⟨#[114,122,63,116]⟩:ByteArray)⟩:S87)]:List (S87))) (inner:=[.string (⟨#[68,79,67]⟩:ByteArray),.int .i64 1,.int .i64 1,.string (⟨#[114,100]⟩:ByteArray),.string (⟨#[73,84,77]⟩:ByteArray),.int .i64 1,.int .i64 20,.string (⟨#[114,122,63,116]⟩:ByteArray)]) ?hp ?_;(case hp=>exact (Reps.c4 (show Kd.M k87 _ _ _ (⟨(⟨#[68,79,67]⟩:ByteArray),1,1,(⟨#[114,100]⟩:ByteArray)⟩:S87) [.string (⟨#[68,79,67]⟩:ByteArray),.int .i64 1,.int .i64 1,.string (⟨#[114,100]⟩:ByteArray)] from (k87_mkM _ _ _ (⟨(⟨#[68,79,67]⟩:ByteArray),1,1,(⟨#[114,100]⟩:ByteArray)⟩:S87) )) (Reps.c4 (show Kd.M k87 _ _ _ (⟨(⟨#[73,84,77]⟩:ByteArray),1,20,(⟨#[114,122,63,116]⟩:ByteArray)⟩:S87) [.string (⟨#[73,84,77]⟩:ByteArray),.int .i64 1,.int .i64 20,.string (⟨#[114,122,63,116]⟩:ByteArray)] from (k87_mkM _ _ _ (⟨(⟨#[73,84,77]⟩:ByteArray),1,20,(⟨#[114,122,63,116]⟩:ByteArray)⟩:S87) )) (Reps.none _ _))));intro v93 w50 ho51 hb hg_ hnew_;clear hg_ hnew_;(first|rw [← Ny71.out] at ho51|(simp only [Int.reduceToNat] at ho51;rw [← Ny71.out] at ho51));have HO85:=am (Kd.R_lower (Kd.R_newB (Kd.R_newB (Kd.R_newB ho51 (g:=gb26) (o:=.cells #[.string (⟨#[68,79,67]⟩:ByteArray),.int .i64 1,.int .i64 1,.string (⟨#[114,100]⟩:ByteArray)] 87 (0,0)) (ks BK26)) (g:=gb60) (o:=.cells #[.string (⟨#[68,79,67]⟩:ByteArray),.int .i64 1,.int .i64 1,.string (⟨#[114,114,100]⟩:ByteArray)] 87 (0,0)) (ks BK60)) (g:=gb61) (o:=.cells #[.string (⟨#[78,79,84]⟩:ByteArray),.int .i64 0,.int .i64 2,.string (⟨#[116]⟩:ByteArray)] 87 (0,0)) (ks BK61)) (below_size (bs HB)));replace BK26:=am (blk_below (g:=gb26) (o:=.cells #[.string (⟨#[68,79,67]⟩:ByteArray),.int .i64 1,.int .i64 1,.string (⟨#[114,100]⟩:ByteArray)] 87 (0,0)) (ks BK26) hb);replace BK60:=am (blk_below (g:=gb60) (o:=.cells #[.string (⟨#[68,79,67]⟩:ByteArray),.int .i64 1,.int .i64 1,.string (⟨#[114,114,100]⟩:ByteArray)] 87 (0,0)) (ks BK60) hb);replace BK61:=am (blk_below (g:=gb61) (o:=.cells #[.string (⟨#[78,79,84]⟩:ByteArray),.int .i64 0,.int .i64 2,.string (⟨#[116]⟩:ByteArray)] 87 (0,0)) (ks BK61) hb);replace HB:=bq HB hb;clear hb ho51))
        go_ret
        exact ⟨_,ff,by (with_reducible repeat (first|apply Kd.R_alloc|apply Kd.R_drewN|apply Kd.R_drew));exact Kd.R_mono HO85.out (fun _ hk=>trivial),bs HB⟩
       ·intro c46 c46b0 c46b1 H
        revert H;refine ie2 ?_ ?_
        ·intro c52b0 c52b1 H;obtain ⟨y72,hy72⟩:∃ y_:List (S87),y_=(([(⟨(⟨#[68,79,67]⟩:ByteArray),1,1,(⟨#[114,100]⟩:ByteArray)⟩:S87),(⟨(⟨#[65,67,75]⟩:ByteArray),1,1,(⟨#[110,110,63,110]⟩:ByteArray)⟩:S87)]:List (S87))):=⟨_,rfl⟩
         replace H:(some y72)=some r:=ye hy72 H
         have Ny72:=am hy72;clear hy72;obtain rfl:=si H;have hnb53:=NB26_60.out;have hnc53:=NB60_26.out;have hnb54:=NB26_61.out;have hnc54:=NB61_26.out;have hcz55:=cf4 BK26
         go_wp2_with (first|((with_reducible refine gate_dst (N:=42) rfl ?_);refine rl k87 87 (N:=42) (xs:=([(⟨(⟨#[68,79,67]⟩:ByteArray),1,1,(⟨#[114,100]⟩:ByteArray)⟩:S87),(⟨(⟨#[65,67,75]⟩:ByteArray),1,1,(⟨#[110,110,63,110]⟩:ByteArray)⟩:S87)]:List (S87))) (inner:=[.string (⟨#[68,79,67]⟩:ByteArray),.int .i64 1,.int .i64 1,.string (⟨#[114,100]⟩:ByteArray),.string (⟨#[65,67,75]⟩:ByteArray),.int .i64 1,.int .i64 1,.string (⟨#[110,110,63,110]⟩:ByteArray)]) ?hp ?_;(case hp=>exact (Reps.c4 (show Kd.M k87 _ _ _ (⟨(⟨#[68,79,67]⟩:ByteArray),1,1,(⟨#[114,100]⟩:ByteArray)⟩:S87) [.string (⟨#[68,79,67]⟩:ByteArray),.int .i64 1,.int .i64 1,.string (⟨#[114,100]⟩:ByteArray)] from (k87_mkM _ _ _ (⟨(⟨#[68,79,67]⟩:ByteArray),1,1,(⟨#[114,100]⟩:ByteArray)⟩:S87) )) (Reps.c4 (show Kd.M k87 _ _ _ (⟨(⟨#[65,67,75]⟩:ByteArray),1,1,(⟨#[110,110,63,110]⟩:ByteArray)⟩:S87) [.string (⟨#[65,67,75]⟩:ByteArray),.int .i64 1,.int .i64 1,.string (⟨#[110,110,63,110]⟩:ByteArray)] from (k87_mkM _ _ _ (⟨(⟨#[65,67,75]⟩:ByteArray),1,1,(⟨#[110,110,63,110]⟩:ByteArray)⟩:S87) )) (Reps.none _ _))));intro v94 w56 ho57 hb hg_ hnew_;clear hg_ hnew_;(first|rw [← Ny72.out] at ho57|(simp only [Int.reduceToNat] at ho57;rw [← Ny72.out] at ho57));have HO86:=am (Kd.R_lower (Kd.R_newB (Kd.R_newB (Kd.R_newB ho57 (g:=gb26) (o:=.cells #[.string (⟨#[68,79,67]⟩:ByteArray),.int .i64 1,.int .i64 1,.string (⟨#[114,100]⟩:ByteArray)] 87 (0,0)) (ks BK26)) (g:=gb60) (o:=.cells #[.string (⟨#[68,79,67]⟩:ByteArray),.int .i64 1,.int .i64 1,.string (⟨#[114,114,100]⟩:ByteArray)] 87 (0,0)) (ks BK60)) (g:=gb61) (o:=.cells #[.string (⟨#[78,79,84]⟩:ByteArray),.int .i64 0,.int .i64 2,.string (⟨#[116]⟩:ByteArray)] 87 (0,0)) (ks BK61)) (below_size (bs HB)));replace BK26:=am (blk_below (g:=gb26) (o:=.cells #[.string (⟨#[68,79,67]⟩:ByteArray),.int .i64 1,.int .i64 1,.string (⟨#[114,100]⟩:ByteArray)] 87 (0,0)) (ks BK26) hb);replace BK60:=am (blk_below (g:=gb60) (o:=.cells #[.string (⟨#[68,79,67]⟩:ByteArray),.int .i64 1,.int .i64 1,.string (⟨#[114,114,100]⟩:ByteArray)] 87 (0,0)) (ks BK60) hb);replace BK61:=am (blk_below (g:=gb61) (o:=.cells #[.string (⟨#[78,79,84]⟩:ByteArray),.int .i64 0,.int .i64 2,.string (⟨#[116]⟩:ByteArray)] 87 (0,0)) (ks BK61) hb);replace HB:=bq HB hb;clear hb ho57))
         go_ret
         exact ⟨_,ff,by (with_reducible repeat (first|apply Kd.R_alloc|apply Kd.R_drewN|apply Kd.R_drew));exact Kd.R_mono HO86.out (fun _ hk=>trivial),bs HB⟩
        ·intro c52 c52b0 c52b1 H;obtain ⟨y74,hy74⟩:∃ y_:List (S87),y_=(([]:List (S87))):=⟨_,rfl⟩
         replace H:(some y74)=some r:=ye hy74 H
         have Ny74:=am hy74;clear hy74;obtain rfl:=si H
         go_wp2_with (first|((with_reducible refine gate_dst (N:=43) rfl ?_);refine rl k87 87 (N:=43) (xs:=([]:List (S87))) (inner:=[]) ?hp ?_;(case hp=>exact (Reps.none _ _));intro v95 w58 ho59 hb hg_ hnew_;clear hg_ hnew_;(first|rw [← Ny74.out] at ho59|(simp only [Int.reduceToNat] at ho59;rw [← Ny74.out] at ho59));have HO88:=am (Kd.R_lower (Kd.R_newB (Kd.R_newB (Kd.R_newB ho59 (g:=gb26) (o:=.cells #[.string (⟨#[68,79,67]⟩:ByteArray),.int .i64 1,.int .i64 1,.string (⟨#[114,100]⟩:ByteArray)] 87 (0,0)) (ks BK26)) (g:=gb60) (o:=.cells #[.string (⟨#[68,79,67]⟩:ByteArray),.int .i64 1,.int .i64 1,.string (⟨#[114,114,100]⟩:ByteArray)] 87 (0,0)) (ks BK60)) (g:=gb61) (o:=.cells #[.string (⟨#[78,79,84]⟩:ByteArray),.int .i64 0,.int .i64 2,.string (⟨#[116]⟩:ByteArray)] 87 (0,0)) (ks BK61)) (below_size (bs HB)));replace BK26:=am (blk_below (g:=gb26) (o:=.cells #[.string (⟨#[68,79,67]⟩:ByteArray),.int .i64 1,.int .i64 1,.string (⟨#[114,100]⟩:ByteArray)] 87 (0,0)) (ks BK26) hb);replace BK60:=am (blk_below (g:=gb60) (o:=.cells #[.string (⟨#[68,79,67]⟩:ByteArray),.int .i64 1,.int .i64 1,.string (⟨#[114,114,100]⟩:ByteArray)] 87 (0,0)) (ks BK60) hb);replace BK61:=am (blk_below (g:=gb61) (o:=.cells #[.string (⟨#[78,79,84]⟩:ByteArray),.int .i64 0,.int .i64 2,.string (⟨#[116]⟩:ByteArray)] 87 (0,0)) (ks BK61) hb);replace HB:=bq HB hb;clear hb ho59))
         go_ret
         exact ⟨_,ff,by (with_reducible repeat (first|apply Kd.R_alloc|apply Kd.R_drewN|apply Kd.R_drew));exact Kd.R_mono HO88.out (fun _ hk=>trivial),bs HB⟩
theorem spec_l01Num.calls (k:Nat) (a0:ByteArray) (r1:Int) (r2:Bool) (w:World) (H:spec_l01Num.f k a0=some (r1,r2)) :
  Calls Tryz.prog 80 #[.string a0] w fun e w'=>e=.returned (.tuple #[.int .i64 r1,.bool r2])∧Below w.heap.size w w':=by
 have HB:=am (Below.refl w.heap.size w);unfold spec_l01Num.f at H;have HC2:=am H;clear H
 go_in
 go_upto_region 1 with (fail)
 go_cut [4] (fun v4 wc=>∃ (kq:Nat) (x4_1:Bool),v4=.bool x4_1∧Aside0 (spec_l01Num.j0 kq a0 x4_1=some (r1,r2))∧Aside0 (kq≤k)∧Aside0 (Below w.heap.size w wc))
 case first =>
  have H:=HC2.out;clear HC2
  revert H;refine ip2 ?_ ?_
  ·intro c3 H;have c3b0:decide (0<(a0.size:Int))=true:=decide_eq_true c3;have c3b1:decide (0<a0.size)=true:=decide_eq_true (by omega);clear c3
   (first|rw [c3b0]|(simp only [i64_w,i32_w];rw [c3b0])|rw [c3b1]|skip)
   revert H;refine id1k ?_
   intro c4 c4b0 H;have c4b1:decide (0<a0.size)=true:=decide_eq_true (by omega);clear c4;have H':=am H;clear H;have p5:0≤(0:Int):=(by omega);have q5:0<a0.size:=(by have:(0:Int)<(a0.size:Int):=oa;omega);have hx5:∀ h:0<a0.size,((a0[0]'h).toNat:Int)=bt a0 0:=bt_at a0 0;clear p5;have qi5:(0<(a0.size:Int))=True:=eq_true (oa);replace q5:=eq_true q5
   go_wp2
   go_meet
   case rel=>exact ⟨_,(((bt a0 0) == 45)),fg,H',⟨fl⟩,⟨bs HB⟩⟩
  ·intro c3 H;have c3b0:decide (0<(a0.size:Int))=false:=decide_eq_false c3;have c3b1:decide (0<a0.size)=false:=decide_eq_false (by omega);clear c3
   (first|rw [c3b0]|(simp only [i64_w,i32_w];rw [c3b0])|rw [c3b1]|skip)
   have H':=am H;clear H
   go_wp2
   go_meet
   case rel=>exact ⟨_,(false),fg,H',⟨fl⟩,⟨bs HB⟩⟩
 case rest =>
  clear HC2
  obtain ⟨kq,x4_1,rfl,HA,HJ1,HB⟩:=hcut
  cases kq with
  | zero=>exact absurd HA.out (by simp [spec_l01Num.j0])
  | succ kj1 =>
   have H:=HA.out;clear HA;simp only [spec_l01Num.j0] at H;have HC6:=am H;clear H
   go_upto_if 17 with (fail)
   go_cut [5] (fun v5 wc=>∃ (kq:Nat) (x5_5:ByteArray),v5=.string x5_5∧Aside0 (spec_l01Num.j1 kq a0 x4_1 x5_5=some (r1,r2))∧Aside0 (kq≤kj1)∧Aside0 (Below w.heap.size w wc))
   case first =>
    have H:=HC6.out;clear HC6
    obtain rfl|rfl:=bt x4_1
    ·replace H:=itT H
     revert H;refine ip1 ?_
     intro c8 H;have c8b0:=eq_true c8;have c8b1:decide (1≤(a0.size:Int))=true:=decide_eq_true c8;clear c8;have H':=am H;clear H
     go_wp2
     go_meet
     case rel=>exact ⟨_,(a0.extract 1 a0.size),fg,H',⟨by have:=HJ1.out;first|omega|exact Nat.le_refl _⟩,⟨bs HB⟩⟩
    ·replace H:=itF H;have H':=am H;clear H
     go_wp2
     go_meet
     case rel=>exact ⟨_,(a0),fg,H',⟨by have:=HJ1.out;first|omega|exact Nat.le_refl _⟩,⟨bs HB⟩⟩
   case rest =>
    clear HC6
    obtain ⟨kq,x5_5,rfl,HA,HJ5,HB⟩:=hcut
    cases kq with
    | zero=>exact absurd HA.out (by simp [spec_l01Num.j1])
    | succ kj5 =>
     have H:=HA.out;clear HA;simp only [spec_l01Num.j1] at H;have HC9:=am H;clear H
     go_upto_region 5 with (fail)
     go_cut [27] (fun v27 wc=>∃ (kq:Nat) (x27_8:Bool),v27=.bool x27_8∧Aside0 (spec_l01Num.j2 kq a0 x4_1 x5_5 x27_8=some (r1,r2))∧Aside0 (kq≤kj5)∧Aside0 (Below w.heap.size w wc))
     case first =>
      have H:=HC9.out;clear HC9
      revert H;refine id2k ?_ ?_
      ·intro c10 c10b0 H;have c10b1:decide (x5_5.size<1)=true:=decide_eq_true (by omega);clear c10
       (first|rw [c10b0]|(simp only [i64_w,i32_w];rw [c10b0])|rw [c10b1]|skip)
       have H':=am H;clear H
       go_wp2
       go_meet
       case rel=>exact ⟨_,(true),fg,H',⟨by have:=HJ1.out;have:=HJ5.out;first|omega|exact Nat.le_refl _⟩,⟨bs HB⟩⟩
      ·intro c10 c10b0 H;have c10b1:decide (x5_5.size<1)=false:=decide_eq_false (by omega);clear c10
       (first|rw [c10b0]|(simp only [i64_w,i32_w];rw [c10b0])|rw [c10b1]|skip)
       have H':=am H;clear H
       go_wp2
       go_meet
       case rel=>exact ⟨_,(decide ((x5_5.size:Int)>12)),fg,H',⟨by have:=HJ1.out;have:=HJ5.out;first|omega|exact Nat.le_refl _⟩,⟨bs HB⟩⟩
     case rest =>
      clear HC9
      obtain ⟨kq,x27_8,rfl,HA,HJ8,HB⟩:=hcut
      cases kq with
      | zero=>exact absurd HA.out (by simp [spec_l01Num.j2])
      | succ kj8 =>
       have H:=HA.out;clear HA;simp only [spec_l01Num.j2] at H
       obtain rfl|rfl:=bt x27_8
       ·replace H:=itT H;replace H:=sj2 H;obtain ⟨rfl,rfl⟩:=H
        go_wp2
        go_ret2
        exact ⟨ff,bs HB⟩
       ·replace H:=itF H;have H':=am H;clear H
        go_wp2
        go_loopg [6,7] kj8 (fun kq v6 v7 w'=>∃ (x6_4:Int) (x7_4:Int),v6=.int .i64 x6_4∧v7=.int .i64 x7_4∧Aside0 (spec_l01Num.l0 kq a0 x4_1 x5_5 x6_4 x7_4=some (r1,r2))∧Aside0 (kq≤kj8)∧Aside0 (Below w.heap.size w w'))
        case atStart=>exact ⟨(0),(0),fg,fg,H',⟨Nat.le_refl _⟩,⟨bs HB⟩⟩
        case round =>
         clear H'
         obtain ⟨x6_4,x7_4,rfl,rfl,HA,HK4,HB⟩:=hrel
         cases gk with
         | zero=>exact absurd HA.out (by simp [spec_l01Num.l0])
         | succ k4 =>
          have H:=HA.out;clear HA;simp only [spec_l01Num.l0] at H
          revert H;refine id2 ?_ ?_
          ·intro c12b0 H
           revert H;refine id1 ?_
           intro c13b0 H
           revert H;refine id2 ?_ ?_
           ·intro c15b0 H;replace H:=sj2 H;obtain ⟨rfl,rfl⟩:=H;have p14:0≤(x7_4:Int):=oa;have q14:x7_4<(x5_5.size:Int):=oa;have hx14:=bt_at x5_5 x7_4;replace p14:=eq_true p14;replace q14:=eq_true q14
            go_wp2
            go_ret2
            exact ⟨ff,bs HB⟩
           ·intro c15b0 H
            revert H;refine ip2 ?_ ?_
            ·intro c17 H;have c17b0:decide (57<(bt x5_5 x7_4))=true:=decide_eq_true c17;clear c17;replace H:=sj2 H;obtain ⟨rfl,rfl⟩:=H;have p14:0≤(x7_4:Int):=oa;have q14:x7_4<(x5_5.size:Int):=oa;have hx14:=bt_at x5_5 x7_4;replace p14:=eq_true p14;replace q14:=eq_true q14;have p16:0≤(x7_4:Int):=oa;have q16:x7_4<(x5_5.size:Int):=oa;have hx16:=bt_at x5_5 x7_4;replace p16:=eq_true p16;replace q16:=eq_true q16
             go_wp2
             go_ret2
             exact ⟨ff,bs HB⟩
            ·intro c17 H;have c17b0:decide (57<(bt x5_5 x7_4))=false:=decide_eq_false c17;clear c17;have H':=am H;clear H;have p14:0≤(x7_4:Int):=oa;have q14:x7_4<(x5_5.size:Int):=oa;have hx14:=bt_at x5_5 x7_4;replace p14:=eq_true p14;replace q14:=eq_true q14;have p16:0≤(x7_4:Int):=oa;have q16:x7_4<(x5_5.size:Int):=oa;have hx16:=bt_at x5_5 x7_4;replace p16:=eq_true p16;replace q16:=eq_true q16;have p18:0≤(x7_4:Int):=oa;have q18:x7_4<(x5_5.size:Int):=oa;have hx18:=bt_at x5_5 x7_4;replace p18:=eq_true p18;replace q18:=eq_true q18
             go_wp2
             go_roundg k4
             case measure=>have:=HJ1.out;have:=HJ5.out;have:=HJ8.out;have:=HK4.out;omega
             case rel=>exact ⟨(wrap64 ((wrap64 (10 * x6_4))+(((bt x5_5 x7_4) - 48) % 256))),(wrap64 (x7_4+1)),fg,fg,H',⟨by have:=HJ1.out;have:=HJ5.out;have:=HJ8.out;have:=HK4.out;omega⟩,⟨bs HB⟩⟩
          ·intro c12b0 H
           obtain rfl|rfl:=bt x4_1
           ·replace H:=itT H;replace H:=bo H;obtain ⟨t11,A20,H⟩:=H;replace H:=sj2 H;obtain ⟨rfl,rfl⟩:=H
            go_wp2_with (first|((first|((with_reducible refine gate_callee (f:=33) rfl ?_);refine goesL_ (some 57) rfl rfl Tryz.func33 (by kernel_rfl) rfl #[.int .i64 (wrap64 (-x6_4))] rfl (by (try simp only [List.map_toArray,List.map_cons,List.map_nil]);first|done|rfl|(simp only [List.length_drop,List.length_take];rfl)) ?_;(with_reducible refine (spec_l01Dec.calls k4 (wrap64 (-x6_4)) t11 _ A20.out).mono ?_);rintro e w21 ⟨rfl,hb⟩;refine ⟨_,rfl,?_⟩)|(go_at_call 33;(with_reducible refine (spec_l01Dec.calls k4 (wrap64 (-x6_4)) t11 _ A20.out).mono ?_);rintro e w21 ⟨rfl,hb⟩));replace HB:=bq HB hb;(try clear hb);(try clear hb2);(try clear hk);(try clear hi)))
            go_ret2
            exact ⟨ff,bs HB⟩
           ·replace H:=itF H;replace H:=bo H;obtain ⟨t19,A22,H⟩:=H;replace H:=sj2 H;obtain ⟨rfl,rfl⟩:=H
            go_wp2_with (first|((first|((with_reducible refine gate_callee (f:=33) rfl ?_);refine goesL_ (some 57) rfl rfl Tryz.func33 (by kernel_rfl) rfl #[.int .i64 x6_4] rfl (by (try simp only [List.map_toArray,List.map_cons,List.map_nil]);first|done|rfl|(simp only [List.length_drop,List.length_take];rfl)) ?_;(with_reducible refine (spec_l01Dec.calls k4 x6_4 t19 _ A22.out).mono ?_);rintro e w23 ⟨rfl,hb⟩;refine ⟨_,rfl,?_⟩)|(go_at_call 33;(with_reducible refine (spec_l01Dec.calls k4 x6_4 t19 _ A22.out).mono ?_);rintro e w23 ⟨rfl,hb⟩));replace HB:=bq HB hb;(try clear hb);(try clear hb2);(try clear hk);(try clear hi)))
            go_ret2
            exact ⟨ff,bs HB⟩
theorem spec_l01Name.calls (k:Nat) (a0:ByteArray) (r:Bool) (w:World) (H:spec_l01Name.f k a0=some r) :
  Calls Tryz.prog 105 #[.string a0] w fun e w'=>e=.returned (.bool r)∧Drawn0 w w':=by
 unfold spec_l01Name.f at H;have HC2:=am H;clear H
 go_in
 go_upto_region 1 with (fail)
 go_cut [22] (fun v22 wc=>∃ (kq:Nat) (x22_1:Bool),v22=.bool x22_1∧Aside0 (spec_l01Name.j0 kq a0 x22_1=some r)∧Aside0 (kq≤k)∧Drawn0 w wc)
 case first =>
  have H:=HC2.out;clear HC2
  revert H;refine id2k ?_ ?_
  ·intro c3 c3b0 H;have c3b1:decide (a0.size<1)=true:=decide_eq_true (by omega);clear c3
   (first|rw [c3b0]|(simp only [i64_w,i32_w];rw [c3b0])|rw [c3b1]|skip)
   have H':=am H;clear H
   go_wp2
   go_meet
   case rel=>exact ⟨_,(true),fg,H',⟨fl⟩,by repeat (first|exact Drawn0.refl _|apply Drawn0.step)⟩
  ·intro c3 c3b0 H;have c3b1:decide (a0.size<1)=false:=decide_eq_false (by omega);clear c3
   (first|rw [c3b0]|(simp only [i64_w,i32_w];rw [c3b0])|rw [c3b1]|skip)
   revert H;refine ip2 ?_ ?_
   ·intro c4 H;have c4b0:decide (12<(a0.size:Int))=true:=decide_eq_true c4;have c4b1:decide (12<a0.size)=true:=decide_eq_true (by omega);clear c4;have H':=am H;clear H
    go_wp2
    go_meet
    case rel=>exact ⟨_,(true),fg,H',⟨fl⟩,by repeat (first|exact Drawn0.refl _|apply Drawn0.step)⟩
   ·intro c4 H;have c4b0:decide (12<(a0.size:Int))=false:=decide_eq_false c4;have c4b1:decide (12<a0.size)=false:=decide_eq_false (by omega);clear c4
    revert H;refine id1k ?_
    intro c5 c5b0 H;have c5b1:decide (0<a0.size)=true:=decide_eq_true (by omega);clear c5
    revert H;refine id2 ?_ ?_
    ·intro c7b0 H;have H':=am H;clear H;have p6:0≤(0:Int):=(by omega);have q6:0<a0.size:=(by have:(0:Int)<(a0.size:Int):=oa;omega);have hx6:∀ h:0<a0.size,((a0[0]'h).toNat:Int)=bt a0 0:=bt_at a0 0;clear p6;have qi6:(0<(a0.size:Int))=True:=eq_true (oa);replace q6:=eq_true q6
     go_wp2
     go_meet
     case rel=>exact ⟨_,(true),fg,H',⟨fl⟩,by repeat (first|exact Drawn0.refl _|apply Drawn0.step)⟩
    ·intro c7b0 H;have H':=am H;clear H;have p6:0≤(0:Int):=(by omega);have q6:0<a0.size:=(by have:(0:Int)<(a0.size:Int):=oa;omega);have hx6:∀ h:0<a0.size,((a0[0]'h).toNat:Int)=bt a0 0:=bt_at a0 0;clear p6;have qi6:(0<(a0.size:Int))=True:=eq_true (oa);replace q6:=eq_true q6;have p8:0≤(0:Int):=(by omega);have q8:0<a0.size:=(by have:(0:Int)<(a0.size:Int):=oa;omega);have hx8:∀ h:0<a0.size,((a0[0]'h).toNat:Int)=bt a0 0:=bt_at a0 0;clear p8;have qi8:(0<(a0.size:Int))=True:=eq_true (oa);replace q8:=eq_true q8
     go_wp2
     go_meet
     case rel=>exact ⟨_,(decide ((bt a0 0)>90)),fg,H',⟨fl⟩,by repeat (first|exact Drawn0.refl _|apply Drawn0.step)⟩
 case rest =>
  clear HC2
  obtain ⟨kq,x22_1,rfl,HA,HJ1,⟨mc1,rfl⟩⟩:=hcut
  cases kq with
  | zero=>exact absurd HA.out (by simp [spec_l01Name.j0])
  | succ kj1 =>
   have H:=HA.out;clear HA;simp only [spec_l01Name.j0] at H
   obtain rfl|rfl:=bt x22_1
   ·replace H:=itT H;obtain rfl:=si H
    go_wp2
    go_ret
    exact ⟨fg,dr⟩
   ·replace H:=itF H;have H':=am H;clear H
    go_wp2
    go_loopg [3] kj1 (fun kq v3 w'=>∃ (x3_2:Int),v3=.int .i64 x3_2∧Aside0 (spec_l01Name.l0 kq a0 x3_2=some r)∧Aside0 (kq≤kj1)∧Drawn0 w w')
    case atStart=>exact ⟨(0),fg,H',⟨Nat.le_refl _⟩,by repeat (first|exact Drawn0.refl _|apply Drawn0.step)⟩
    case round =>
     clear H'
     obtain ⟨x3_2,rfl,HA,HK2,⟨m2,rfl⟩⟩:=hrel
     cases gk with
     | zero=>exact absurd HA.out (by simp [spec_l01Name.l0])
     | succ k2 =>
      have H:=HA.out;clear HA;simp only [spec_l01Name.l0] at H
      revert H;refine id2 ?_ ?_
      ·intro c10b0 H
       revert H;refine id1 ?_
       intro c11b0 H
       revert H;refine ip2 ?_ ?_
       ·intro c13 H;have c13b0:decide (65≤(bt a0 x3_2))=true:=decide_eq_true c13;clear c13
        revert H;refine id2 ?_ ?_
        ·intro c14b0 H;have H':=am H;clear H;have p12:0≤(x3_2:Int):=oa;have q12:x3_2<(a0.size:Int):=oa;have hx12:=bt_at a0 x3_2;replace p12:=eq_true p12;replace q12:=eq_true q12
         go_wp2
         go_roundg k2
         case measure=>have:=HJ1.out;have:=HK2.out;omega
         case rel=>exact ⟨(wrap64 (x3_2+1)),fg,H',⟨by have:=HJ1.out;have:=HK2.out;omega⟩,by repeat (first|exact Drawn0.refl _|apply Drawn0.step)⟩
        ·intro c14b0 H
         revert H;refine ip2 ?_ ?_
         ·intro c15 H;have c15b0:decide (48≤(bt a0 x3_2))=true:=decide_eq_true c15;clear c15
          revert H;refine id2 ?_ ?_
          ·intro c16b0 H;have H':=am H;clear H;have p12:0≤(x3_2:Int):=oa;have q12:x3_2<(a0.size:Int):=oa;have hx12:=bt_at a0 x3_2;replace p12:=eq_true p12;replace q12:=eq_true q12
           go_wp2
           go_roundg k2
           case measure=>have:=HJ1.out;have:=HK2.out;omega
           case rel=>exact ⟨(wrap64 (x3_2+1)),fg,H',⟨by have:=HJ1.out;have:=HK2.out;omega⟩,by repeat (first|exact Drawn0.refl _|apply Drawn0.step)⟩
          ·intro c16b0 H
           revert H;refine ie2 ?_ ?_
           ·intro c17b0 c17b1 H;have H':=am H;clear H;have p12:0≤(x3_2:Int):=oa;have q12:x3_2<(a0.size:Int):=oa;have hx12:=bt_at a0 x3_2;replace p12:=eq_true p12;replace q12:=eq_true q12
            go_wp2
            go_roundg k2
            case measure=>have:=HJ1.out;have:=HK2.out;omega
            case rel=>exact ⟨(wrap64 (x3_2+1)),fg,H',⟨by have:=HJ1.out;have:=HK2.out;omega⟩,by repeat (first|exact Drawn0.refl _|apply Drawn0.step)⟩
           ·intro c17 c17b0 c17b1 H;obtain rfl:=si H;have p12:0≤(x3_2:Int):=oa;have q12:x3_2<(a0.size:Int):=oa;have hx12:=bt_at a0 x3_2;replace p12:=eq_true p12;replace q12:=eq_true q12
            go_wp2
            go_ret
            exact ⟨fg,dr⟩
         ·intro c15 H;have c15b0:decide (48≤(bt a0 x3_2))=false:=decide_eq_false c15;clear c15
          revert H;refine ie2 ?_ ?_
          ·intro c18b0 c18b1 H;have H':=am H;clear H;have p12:0≤(x3_2:Int):=oa;have q12:x3_2<(a0.size:Int):=oa;have hx12:=bt_at a0 x3_2;replace p12:=eq_true p12;replace q12:=eq_true q12
           go_wp2
           go_roundg k2
           case measure=>have:=HJ1.out;have:=HK2.out;omega
           case rel=>exact ⟨(wrap64 (x3_2+1)),fg,H',⟨by have:=HJ1.out;have:=HK2.out;omega⟩,by repeat (first|exact Drawn0.refl _|apply Drawn0.step)⟩
          ·intro c18 c18b0 c18b1 H;obtain rfl:=si H;have p12:0≤(x3_2:Int):=oa;have q12:x3_2<(a0.size:Int):=oa;have hx12:=bt_at a0 x3_2;replace p12:=eq_true p12;replace q12:=eq_true q12
           go_wp2
           go_ret
           exact ⟨fg,dr⟩
       ·intro c13 H;have c13b0:decide (65≤(bt a0 x3_2))=false:=decide_eq_false c13;clear c13
        revert H;refine ip2 ?_ ?_
        ·intro c19 H;have c19b0:decide (48≤(bt a0 x3_2))=true:=decide_eq_true c19;clear c19
         revert H;refine id2 ?_ ?_
         ·intro c20b0 H;have H':=am H;clear H;have p12:0≤(x3_2:Int):=oa;have q12:x3_2<(a0.size:Int):=oa;have hx12:=bt_at a0 x3_2;replace p12:=eq_true p12;replace q12:=eq_true q12
          go_wp2
          go_roundg k2
          case measure=>have:=HJ1.out;have:=HK2.out;omega
          case rel=>exact ⟨(wrap64 (x3_2+1)),fg,H',⟨by have:=HJ1.out;have:=HK2.out;omega⟩,by repeat (first|exact Drawn0.refl _|apply Drawn0.step)⟩
         ·intro c20b0 H
          revert H;refine ie2 ?_ ?_
          ·intro c21b0 c21b1 H;have H':=am H;clear H;have p12:0≤(x3_2:Int):=oa;have q12:x3_2<(a0.size:Int):=oa;have hx12:=bt_at a0 x3_2;replace p12:=eq_true p12;replace q12:=eq_true q12
           go_wp2
           go_roundg k2
           case measure=>have:=HJ1.out;have:=HK2.out;omega
           case rel=>exact ⟨(wrap64 (x3_2+1)),fg,H',⟨by have:=HJ1.out;have:=HK2.out;omega⟩,by repeat (first|exact Drawn0.refl _|apply Drawn0.step)⟩
          ·intro c21 c21b0 c21b1 H;obtain rfl:=si H;have p12:0≤(x3_2:Int):=oa;have q12:x3_2<(a0.size:Int):=oa;have hx12:=bt_at a0 x3_2;replace p12:=eq_true p12;replace q12:=eq_true q12
           go_wp2
           go_ret
           exact ⟨fg,dr⟩
        ·intro c19 H;have c19b0:decide (48≤(bt a0 x3_2))=false:=decide_eq_false c19;clear c19
         revert H;refine ie2 ?_ ?_
         ·intro c22b0 c22b1 H;have H':=am H;clear H;have p12:0≤(x3_2:Int):=oa;have q12:x3_2<(a0.size:Int):=oa;have hx12:=bt_at a0 x3_2;replace p12:=eq_true p12;replace q12:=eq_true q12
          go_wp2
          go_roundg k2
          case measure=>have:=HJ1.out;have:=HK2.out;omega
          case rel=>exact ⟨(wrap64 (x3_2+1)),fg,H',⟨by have:=HJ1.out;have:=HK2.out;omega⟩,by repeat (first|exact Drawn0.refl _|apply Drawn0.step)⟩
         ·intro c22 c22b0 c22b1 H;obtain rfl:=si H;have p12:0≤(x3_2:Int):=oa;have q12:x3_2<(a0.size:Int):=oa;have hx12:=bt_at a0 x3_2;replace p12:=eq_true p12;replace q12:=eq_true q12
          go_wp2
          go_ret
          exact ⟨fg,dr⟩
      ·intro c10b0 H;obtain rfl:=si H
       go_wp2
       go_ret
       exact ⟨fg,dr⟩
theorem spec_l01Qty.calls (a0:Int) (r:Bool) (w:World) (H:spec_l01Qty.f a0=some r) :
  Calls Tryz.prog 106 #[.int .i64 a0] w fun e w'=>e=.returned (.bool r)∧Drawn0 w w':=by
 unfold spec_l01Qty.f at H
 revert H;refine ip2 ?_ ?_
 ·intro c2 H;have c2b0:decide (1≤a0)=true:=decide_eq_true c2;clear c2;obtain rfl:=si H
  go_in
  go_wp2
  go_ret
  exact ⟨fg,dr⟩
 ·intro c2 H;have c2b0:decide (1≤a0)=false:=decide_eq_false c2;clear c2;obtain rfl:=si H
  go_in
  go_wp2
  go_ret
  exact ⟨fg,dr⟩
theorem spec_l01Day.calls (a0:Int) (r:Bool) (w:World) (H:spec_l01Day.f a0=some r) :
  Calls Tryz.prog 107 #[.int .i64 a0] w fun e w'=>e=.returned (.bool r)∧Drawn0 w w':=by
 unfold spec_l01Day.f at H
 revert H;refine ip2 ?_ ?_
 ·intro c2 H;have c2b0:decide (0≤a0)=true:=decide_eq_true c2;clear c2;obtain rfl:=si H
  go_in
  go_wp2
  go_ret
  exact ⟨fg,dr⟩
 ·intro c2 H;have c2b0:decide (0≤a0)=false:=decide_eq_false c2;clear c2;obtain rfl:=si H
  go_in
  go_wp2
  go_ret
  exact ⟨fg,dr⟩
theorem spec_l04Element.calls (k:Nat) (a0:Int) (A1_0:Option Addr) (c1_0:Nat) (l1_0:List ByteArray) (r:Bool) (w:World) (hr1_0:Kd.C Kd.string w A1_0 l1_0.length l1_0) (hc1_0:l1_0.length≤c1_0) (H:spec_l04Element.f k a0 l1_0=some r) :
  Calls Tryz.prog 91 #[.int .u8 a0,.agg #[.slice A1_0 l1_0.length c1_0]] w fun e w'=>e=.returned (.bool r)∧Below w.heap.size w w':=by
 have hu77:=Tryz.underlying77;have HR1_0:=am hr1_0;have HC1_0:=am hc1_0;clear hr1_0 hc1_0;have HB:=am (Below.refl w.heap.size w);unfold spec_l04Element.f at H
 revert H;refine ie2 ?_ ?_
 ·intro c3b0 c3b1 H
  revert H;refine id1k ?_
  intro c4 c4b0 H;have c4b1:decide (0<l1_0.length)=true:=decide_eq_true (by omega);clear c4;replace H:=bo H;obtain ⟨⟨t18,t22⟩,A5,H⟩:=H;(try dsimp only at H)
  go_in
  try go_wp2_with (first|((with_reducible refine gate_dst (N:=3) rfl ?_);refine bz 3 (cs:=#[.slice A1_0 l1_0.length c1_0]) (t:=77) HB ?_;clear HB;intro gb15 hg w6 BK15 GW15 hb HB;clear hb hg;have hcz7:=cf1 BK15;have p12:0≤(0:Int):=(by omega);have q12:0<(l1_0.length:Int):=oa;obtain ⟨ad12,e12,hx12_0⟩:=Kd.at_string HR1_0.out 0 p12 q12;cases e12;have qi12:(0<l1_0.length)=True:=eq_true (by omega);(try rw [show ((0:Int)).toNat=0 from rfl] at hx12_0);(try rw [Addr.add_zero'] at hx12_0);replace hx12_0:=cb HB hx12_0;replace p12:=eq_true p12;replace q12:=eq_true q12))
  go_at_call 80;(with_reducible refine (spec_l01Num.calls k (rdOf ByteArray.empty l1_0 0) t18 t22 _ A5.out).mono ?_);rintro e w8 ⟨rfl,hb⟩;replace BK15:=bb BK15 hb;replace HB:=bq HB hb;(try clear hb);(try clear hb2);(try clear hk);(try clear hi)
  revert H;refine ie2 ?_ ?_
  ·intro c9b0 c9b1 H;replace H:=bo H;obtain ⟨t28,A10,H⟩:=H;obtain rfl:=si H
   go_wp2_with (first|((first|((with_reducible refine gate_callee (f:=105) rfl ?_);refine goesL_ (some 25) rfl rfl Tryz.func105 (by kernel_rfl) rfl #[.string (rdOf ByteArray.empty l1_0 0)] rfl (by (try simp only [List.map_toArray,List.map_cons,List.map_nil]);first|done|rfl|(simp only [List.length_drop,List.length_take];rfl)) ?_;(with_reducible refine (spec_l01Name.calls k (rdOf ByteArray.empty l1_0 0) t28 _ A10.out).mono ?_);rintro e w' ⟨rfl,⟨nd,rfl⟩⟩;refine ⟨_,rfl,?_⟩)|(go_at_call 105;(with_reducible refine (spec_l01Name.calls k (rdOf ByteArray.empty l1_0 0) t28 _ A10.out).mono ?_);rintro e w' ⟨rfl,⟨nd,rfl⟩⟩))))
   go_ret
   exact ⟨ff,bs HB⟩
  ·intro c9 c9b0 c9b1 H
   revert H;refine ie2 ?_ ?_
   ·intro c11b0 c11b1 H
    obtain rfl|rfl:=bt t22
    ·replace H:=itT H
     revert H;refine ip2 ?_ ?_
     ·intro c13 H;have c13b0:decide (0≤t18)=true:=decide_eq_true c13;clear c13;obtain rfl:=si H
      go_wp2
      go_ret
      exact ⟨ff,bs HB⟩
     ·intro c13 H;have c13b0:decide (0≤t18)=false:=decide_eq_false c13;clear c13;obtain rfl:=si H
      go_wp2
      go_ret
      exact ⟨ff,bs HB⟩
    ·replace H:=itF H;obtain rfl:=si H
     go_wp2
     go_ret
     exact ⟨ff,bs HB⟩
   ·intro c11 c11b0 c11b1 H
    revert H;refine ie2 ?_ ?_
    ·intro c14b0 c14b1 H
     obtain rfl|rfl:=bt t22
     ·replace H:=itT H;replace H:=bo H;obtain ⟨t29,A16,H⟩:=H;obtain rfl:=si H
      go_wp2_with (first|(go_at_call 106;(with_reducible refine (spec_l01Qty.calls t18 t29 _ A16.out).mono ?_);rintro e w' ⟨rfl,⟨nd,rfl⟩⟩))
      go_ret
      exact ⟨ff,bs HB⟩
     ·replace H:=itF H;obtain rfl:=si H
      go_wp2
      go_ret
      exact ⟨ff,bs HB⟩
    ·intro c14 c14b0 c14b1 H
     revert H;refine ie2 ?_ ?_
     ·intro c17b0 c17b1 H
      obtain rfl|rfl:=bt t22
      ·replace H:=itT H
       revert H;refine ip2 ?_ ?_
       ·intro c19 H;have c19b0:decide ((-1000000)≤t18)=true:=decide_eq_true c19;clear c19
        revert H;refine id2 ?_ ?_
        ·intro c20b0 H;obtain rfl:=si H
         go_wp2
         go_ret
         exact ⟨ff,bs HB⟩
        ·intro c20b0 H;obtain rfl:=si H
         go_wp2
         go_ret
         exact ⟨ff,bs HB⟩
       ·intro c19 H;have c19b0:decide ((-1000000)≤t18)=false:=decide_eq_false c19;clear c19;obtain rfl:=si H
        go_wp2
        go_ret
        exact ⟨ff,bs HB⟩
      ·replace H:=itF H;obtain rfl:=si H
       go_wp2
       go_ret
       exact ⟨ff,bs HB⟩
     ·intro c17 c17b0 c17b1 H
      revert H;refine ie2 ?_ ?_
      ·intro c21b0 c21b1 H
       obtain rfl|rfl:=bt t22
       ·replace H:=itT H;replace H:=bo H;obtain ⟨t30,A23,H⟩:=H;obtain rfl:=si H
        go_wp2_with (first|(go_at_call 107;(with_reducible refine (spec_l01Day.calls t18 t30 _ A23.out).mono ?_);rintro e w' ⟨rfl,⟨nd,rfl⟩⟩))
        go_ret
        exact ⟨ff,bs HB⟩
       ·replace H:=itF H;obtain rfl:=si H
        go_wp2
        go_ret
        exact ⟨ff,bs HB⟩
      ·intro c21 c21b0 c21b1 H
       revert H;refine in2 ?_ ?_
       ·intro c24b0 c24b1 c24b2 H;obtain rfl:=si H
        go_wp2
        go_ret
        exact ⟨ff,bs HB⟩
       ·intro c24 c24b0 c24b1 c24b2 H;replace H:=bo H;obtain ⟨t31,A25,H⟩:=H;obtain rfl:=si H
        go_wp2_with (first|(go_at_call 52;(with_reducible refine (spec_l02Part.calls k (rdOf ByteArray.empty l1_0 0) t31 _ A25.out).mono ?_);rintro e w' ⟨rfl,⟨nd,rfl⟩⟩))
        go_ret
        exact ⟨ff,bs HB⟩
 ·intro c3 c3b0 c3b1 H;obtain rfl:=si H
  go_in
  go_wp2_with (first|((with_reducible refine gate_dst (N:=3) rfl ?_);refine bz 3 (cs:=#[.slice A1_0 l1_0.length c1_0]) (t:=77) HB ?_;clear HB;intro gb15 hg w26 BK15 GW15 hb HB;clear hb hg;have hcz27:=cf1 BK15))
  go_ret
  exact ⟨ff,bs HB⟩
end Go.Proofs.YtaememmnhmebcaaGreatDoor.QB
