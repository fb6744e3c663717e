-- Merged by a program of this session (wip/tool/pack.py) out of its own texts for this claim.
import Derived.Test.YtogkcllenfkdmaaGreatDoorKFnExactPaperRight0
import Derived.Test.YtogkcllenfkdmaaGreatDoorKFnExactPaperRight1
import Derived.Test.YtogkcllenfkdmaaGreatDoorKFnExactPaperRight2
import Derived.Test.YtogkcllenfkdmaaGreatDoorKFnExactPaperRight3
import Derived.Test.YtogkcllenfkdmaaGreatDoorKFnExactPaperRight4
import Derived.Test.YtogkcllenfkdmaaGreatDoorKFnExactPaperRight5
import Derived.Test.YtogkcllenfkdmaaGreatDoorKFnExactPaperRight7
namespace Go.Proofs.YtogkcllenfkdmaaGreatDoor.QR
open Go.RowKit Go.Proofs.YtogkcllenfkdmaaGreatDoorW.PrintWords Go.Proofs.YtogkcllenfkdmaaGreatDoorW.PrintLast Go.Proofs.YtogkcllenfkdmaaGreatDoorW.PrintMore
attribute [local go_sem] max2_int min2_int max_two min_two max_three min_three max_four min_four   -- for this text's walks alone
set_option linter.unusedVariables false
set_option linter.unusedSimpArgs false
set_option maxHeartbeats 8000000 in
set_option maxRecDepth 100000 in
theorem spec_TableOf.calls (k:Nat) (a0:Int) (r:List (S94)) (w:World) (H:spec_TableOf.f k a0=some r) :
  Calls Tryz.prog 95 #[.int .i64 a0] w fun e w'=>∃ v0_:Value,e=.returned (v0_)∧Kd.R k94 94 w' w.heap.size (fun _=>True) v0_ r∧Below w.heap.size w w':=by
 have hu94:=Tryz.underlying94;have HB:=am (Below.refl w.heap.size w);unfold spec_TableOf.f at H
 revert H;refine ie2 ?_ ?_
 ·intro c2b0 c2b1 H;obtain ⟨y266,hy266⟩:∃ y_:List (S94),y_=(([(⟨(⟨#[68,79,67]⟩:ByteArray),1,1,(⟨#[114,100]⟩:ByteArray)⟩:S94),(⟨(⟨#[78,79,84]⟩:ByteArray),0,2,(⟨#[116]⟩:ByteArray)⟩:S94),(⟨(⟨#[76,73,78]⟩:ByteArray),1,20,(⟨#[110,114,113,63,110]⟩:ByteArray)⟩:S94)]:List (S94))):=⟨_,rfl⟩
  replace H:(some y266)=some r:=ye hy266 H
  have Ny266:=am hy266;clear hy266;obtain rfl:=si H
  go_in
  go_wp2_with (first|((with_reducible refine gate_dst (N:=3) rfl ?_);refine bx 3 (cs:=#[.string (⟨#[]⟩:ByteArray),.int .i64 0,.int .i64 0,.string (⟨#[]⟩:ByteArray)]) (t:=94) ?_;intro gb263 hg w3 hbox hb;have BK263:=am (hbox);have GW263:=am ((gs hg (bs HB)));have GE263:=am ((gs hg (bs HB)));replace HB:=am (below_step (bs HB) hb);clear hb hbox hg;have hcz4_0:w3.cell? ⟨gb263,0,none⟩=some (.string (⟨#[]⟩:ByteArray)):=(blk_cell BK263.out 0).trans rfl;have hcz4_1:w3.cell? ⟨gb263,1,none⟩=some (.int .i64 0):=(blk_cell BK263.out 1).trans rfl;have hcz4_2:w3.cell? ⟨gb263,2,none⟩=some (.int .i64 0):=(blk_cell BK263.out 2).trans rfl;have hcz4_3:w3.cell? ⟨gb263,3,none⟩=some (.string (⟨#[]⟩:ByteArray)):=(blk_cell BK263.out 3).trans rfl;have hfz4_0:=blk_frozen BK263.out 0;have hfz4_1:=blk_frozen BK263.out 1;have hfz4_2:=blk_frozen BK263.out 2;have hfz4_3:=blk_frozen BK263.out 3)|((with_reducible refine gate_dst (N:=4) rfl ?_);refine bx 4 (cs:=#[.string (⟨#[]⟩:ByteArray),.int .i64 0,.int .i64 0,.string (⟨#[]⟩:ByteArray)]) (t:=94) ?_;intro gb264 hg w5 hbox hb;have BK264:=am (hbox);have GW264:=am ((gs hg (bs HB)));have GE264:=am ((gs hg (bs HB)));replace HB:=am (below_step (bs HB) hb);have NB263_264:=am ((gn hg (kp BK263)));have NB264_263:=am ((gm hg (kp BK263)));replace BK263:=am (blk_below (g:=gb263) (o:=.cells #[.string (⟨#[68,79,67]⟩:ByteArray),.int .i64 1,.int .i64 1,.string (⟨#[114,100]⟩:ByteArray)] 94 (0,0)) (kp BK263) hb);clear hb hbox hg;have hnb6:=NB264_263.out;have hnc6:=NB263_264.out;have hcz7_0:w5.cell? ⟨gb264,0,none⟩=some (.string (⟨#[]⟩:ByteArray)):=(blk_cell BK264.out 0).trans rfl;have hcz7_1:w5.cell? ⟨gb264,1,none⟩=some (.int .i64 0):=(blk_cell BK264.out 1).trans rfl;have hcz7_2:w5.cell? ⟨gb264,2,none⟩=some (.int .i64 0):=(blk_cell BK264.out 2).trans rfl;have hcz7_3:w5.cell? ⟨gb264,3,none⟩=some (.string (⟨#[]⟩:ByteArray)):=(blk_cell BK264.out 3).trans rfl;have hfz7_0:=blk_frozen BK264.out 0;have hfz7_1:=blk_frozen BK264.out 1;have hfz7_2:=blk_frozen BK264.out 2;have hfz7_3:=blk_frozen BK264.out 3)|((with_reducible refine gate_dst (N:=5) rfl ?_);refine bx 5 (cs:=#[.string (⟨#[]⟩:ByteArray),.int .i64 0,.int .i64 0,.string (⟨#[]⟩:ByteArray)]) (t:=94) ?_;intro gb265 hg w8 hbox hb;have BK265:=am (hbox);have GW265:=am ((gs hg (bs HB)));have GE265:=am ((gs hg (bs HB)));replace HB:=am (below_step (bs HB) hb);have NB263_265:=am ((gn hg (ks BK263)));have NB265_263:=am ((gm hg (ks BK263)));replace BK263:=am (blk_below (g:=gb263) (o:=.cells #[.string (⟨#[68,79,67]⟩:ByteArray),.int .i64 1,.int .i64 1,.string (⟨#[114,100]⟩:ByteArray)] 94 (0,0)) (ks BK263) hb);have NB264_265:=am ((gn hg (kp BK264)));have NB265_264:=am ((gm hg (kp BK264)));replace BK264:=am (blk_below (g:=gb264) (o:=.cells #[.string (⟨#[68,79,67]⟩:ByteArray),.int .i64 1,.int .i64 1,.string (⟨#[114,114,100]⟩:ByteArray)] 94 (0,0)) (kp BK264) hb);clear hb hbox hg;have hnb9:=NB265_263.out;have hnc9:=NB263_265.out;have hnb10:=NB265_264.out;have hnc10:=NB264_265.out;have hcz11:=cf4 BK265;have hcz12_0:w8.cell? ⟨gb263,0,none⟩=some (.string (⟨#[68,79,67]⟩:ByteArray)):=(blk_cell BK263.out 0).trans rfl;have hcz12_1:w8.cell? ⟨gb263,1,none⟩=some (.int .i64 1):=(blk_cell BK263.out 1).trans rfl;have hcz12_2:w8.cell? ⟨gb263,2,none⟩=some (.int .i64 1):=(blk_cell BK263.out 2).trans rfl;have hcz12_3:w8.cell? ⟨gb263,3,none⟩=some (.string (⟨#[114,100]⟩:ByteArray)):=(blk_cell BK263.out 3).trans rfl;have hfz12_0:=blk_frozen BK263.out 0;have hfz12_1:=blk_frozen BK263.out 1;have hfz12_2:=blk_frozen BK263.out 2;have hfz12_3:=blk_frozen BK263.out 3)|((with_reducible refine gate_dst (N:=15) rfl ?_);refine Kd.R_lit k94 _ 94 ?hg (N:=15) ?hd (xs:=([(⟨(⟨#[68,79,67]⟩:ByteArray),1,1,(⟨#[114,100]⟩:ByteArray)⟩:S94),(⟨(⟨#[78,79,84]⟩:ByteArray),0,2,(⟨#[116]⟩:ByteArray)⟩:S94),(⟨(⟨#[76,73,78]⟩:ByteArray),1,20,(⟨#[110,114,113,63,110]⟩:ByteArray)⟩:S94)]:List (S94))) (inner:=[.string (⟨#[68,79,67]⟩:ByteArray),.int .i64 1,.int .i64 1,.string (⟨#[114,100]⟩:ByteArray),.string (⟨#[78,79,84]⟩:ByteArray),.int .i64 0,.int .i64 2,.string (⟨#[116]⟩:ByteArray),.string (⟨#[76,73,78]⟩:ByteArray),.int .i64 1,.int .i64 20,.string (⟨#[110,114,113,63,110]⟩:ByteArray)]) (ok:=fun _=>True) (okp:=fun _=>True) ?hr ?hp (fun _ hk=>hk) trivial (Below.refl _ _) (Nat.le_refl _) (by simp) ?_;(case hd=>rfl);(case hg=>rfl);(case hr=>first|(go_simp;done)|(go_simp;rfl));(case hp=>exact (Reps.c4 (show Kd.M k94 _ _ _ (⟨(⟨#[68,79,67]⟩:ByteArray),1,1,(⟨#[114,100]⟩:ByteArray)⟩:S94) [.string (⟨#[68,79,67]⟩:ByteArray),.int .i64 1,.int .i64 1,.string (⟨#[114,100]⟩:ByteArray)] from (k94_mkM _ _ _ (⟨(⟨#[68,79,67]⟩:ByteArray),1,1,(⟨#[114,100]⟩:ByteArray)⟩:S94) )) (Reps.c4 (show Kd.M k94 _ _ _ (⟨(⟨#[78,79,84]⟩:ByteArray),0,2,(⟨#[116]⟩:ByteArray)⟩:S94) [.string (⟨#[78,79,84]⟩:ByteArray),.int .i64 0,.int .i64 2,.string (⟨#[116]⟩:ByteArray)] from (k94_mkM _ _ _ (⟨(⟨#[78,79,84]⟩:ByteArray),0,2,(⟨#[116]⟩:ByteArray)⟩:S94) )) (Reps.c4 (show Kd.M k94 _ _ _ (⟨(⟨#[76,73,78]⟩:ByteArray),1,20,(⟨#[110,114,113,63,110]⟩:ByteArray)⟩:S94) [.string (⟨#[76,73,78]⟩:ByteArray),.int .i64 1,.int .i64 20,.string (⟨#[110,114,113,63,110]⟩:ByteArray)] from (k94_mkM _ _ _ (⟨(⟨#[76,73,78]⟩:ByteArray),1,20,(⟨#[110,114,113,63,110]⟩:ByteArray)⟩:S94) )) (Reps.none _ _)))));intro v267 w13 ho14 hb hg_ hnew_;clear hg_ hnew_;(first|rw [← Ny266.out] at ho14|(simp only [Int.reduceToNat] at ho14;rw [← Ny266.out] at ho14));have HO268:=am (Kd.R_lower (Kd.R_newB (Kd.R_newB (Kd.R_newB ho14 (g:=gb263) (o:=.cells #[.string (⟨#[68,79,67]⟩:ByteArray),.int .i64 1,.int .i64 1,.string (⟨#[114,100]⟩:ByteArray)] 94 (0,0)) (ks BK263)) (g:=gb264) (o:=.cells #[.string (⟨#[68,79,67]⟩:ByteArray),.int .i64 1,.int .i64 1,.string (⟨#[114,114,100]⟩:ByteArray)] 94 (0,0)) (ks BK264)) (g:=gb265) (o:=.cells #[.string (⟨#[78,79,84]⟩:ByteArray),.int .i64 0,.int .i64 2,.string (⟨#[116]⟩:ByteArray)] 94 (0,0)) (kp BK265)) (below_size (bs HB)));replace BK263:=am (blk_below (g:=gb263) (o:=.cells #[.string (⟨#[68,79,67]⟩:ByteArray),.int .i64 1,.int .i64 1,.string (⟨#[114,100]⟩:ByteArray)] 94 (0,0)) (ks BK263) hb);replace BK264:=am (blk_below (g:=gb264) (o:=.cells #[.string (⟨#[68,79,67]⟩:ByteArray),.int .i64 1,.int .i64 1,.string (⟨#[114,114,100]⟩:ByteArray)] 94 (0,0)) (ks BK264) hb);replace BK265:=am (blk_below (g:=gb265) (o:=.cells #[.string (⟨#[78,79,84]⟩:ByteArray),.int .i64 0,.int .i64 2,.string (⟨#[116]⟩:ByteArray)] 94 (0,0)) (kp BK265) hb);replace HB:=am (below_step (bs HB) hb);clear hb ho14))
  go_ret
  exact ⟨_,ff,by (with_reducible repeat (first|apply Kd.R_alloc|apply Kd.R_drewN|apply Kd.R_drew));exact Kd.R_mono HO268.out (fun _ hk=>trivial),bs HB⟩
 ·intro c2 c2b0 c2b1 H;have HC15:=am H;clear H
  go_in
  go_upto_if 16 with (first|((with_reducible refine gate_dst (N:=3) rfl ?_);refine bx 3 (cs:=#[.string (⟨#[]⟩:ByteArray),.int .i64 0,.int .i64 0,.string (⟨#[]⟩:ByteArray)]) (t:=94) ?_;intro gb263 hg w16 hbox hb;have BK263:=am (hbox);have GW263:=am ((gs hg (bs HB)));have GE263:=am ((gs hg (bs HB)));replace HB:=am (below_step (bs HB) hb);clear hb hbox hg;have hcz17_0:w16.cell? ⟨gb263,0,none⟩=some (.string (⟨#[]⟩:ByteArray)):=(blk_cell BK263.out 0).trans rfl;have hcz17_1:w16.cell? ⟨gb263,1,none⟩=some (.int .i64 0):=(blk_cell BK263.out 1).trans rfl;have hcz17_2:w16.cell? ⟨gb263,2,none⟩=some (.int .i64 0):=(blk_cell BK263.out 2).trans rfl;have hcz17_3:w16.cell? ⟨gb263,3,none⟩=some (.string (⟨#[]⟩:ByteArray)):=(blk_cell BK263.out 3).trans rfl;have hfz17_0:=blk_frozen BK263.out 0;have hfz17_1:=blk_frozen BK263.out 1;have hfz17_2:=blk_frozen BK263.out 2;have hfz17_3:=blk_frozen BK263.out 3)|((with_reducible refine gate_dst (N:=4) rfl ?_);refine bx 4 (cs:=#[.string (⟨#[]⟩:ByteArray),.int .i64 0,.int .i64 0,.string (⟨#[]⟩:ByteArray)]) (t:=94) ?_;intro gb264 hg w18 hbox hb;have BK264:=am (hbox);have GW264:=am ((gs hg (bs HB)));have GE264:=am ((gs hg (bs HB)));replace HB:=am (below_step (bs HB) hb);have NB263_264:=am ((gn hg (kp BK263)));have NB264_263:=am ((gm hg (kp BK263)));replace BK263:=am (blk_below (g:=gb263) (o:=.cells #[.string (⟨#[68,79,67]⟩:ByteArray),.int .i64 1,.int .i64 1,.string (⟨#[114,100]⟩:ByteArray)] 94 (0,0)) (kp BK263) hb);clear hb hbox hg;have hnb19:=NB264_263.out;have hnc19:=NB263_264.out;have hcz20_0:w18.cell? ⟨gb264,0,none⟩=some (.string (⟨#[]⟩:ByteArray)):=(blk_cell BK264.out 0).trans rfl;have hcz20_1:w18.cell? ⟨gb264,1,none⟩=some (.int .i64 0):=(blk_cell BK264.out 1).trans rfl;have hcz20_2:w18.cell? ⟨gb264,2,none⟩=some (.int .i64 0):=(blk_cell BK264.out 2).trans rfl;have hcz20_3:w18.cell? ⟨gb264,3,none⟩=some (.string (⟨#[]⟩:ByteArray)):=(blk_cell BK264.out 3).trans rfl;have hfz20_0:=blk_frozen BK264.out 0;have hfz20_1:=blk_frozen BK264.out 1;have hfz20_2:=blk_frozen BK264.out 2;have hfz20_3:=blk_frozen BK264.out 3)|((with_reducible refine gate_dst (N:=5) rfl ?_);refine bx 5 (cs:=#[.string (⟨#[]⟩:ByteArray),.int .i64 0,.int .i64 0,.string (⟨#[]⟩:ByteArray)]) (t:=94) ?_;intro gb265 hg w21 hbox hb;have BK265:=am (hbox);have GW265:=am ((gs hg (bs HB)));have GE265:=am ((gs hg (bs HB)));replace HB:=am (below_step (bs HB) hb);have NB263_265:=am ((gn hg (ks BK263)));have NB265_263:=am ((gm hg (ks BK263)));replace BK263:=am (blk_below (g:=gb263) (o:=.cells #[.string (⟨#[68,79,67]⟩:ByteArray),.int .i64 1,.int .i64 1,.string (⟨#[114,100]⟩:ByteArray)] 94 (0,0)) (ks BK263) hb);have NB264_265:=am ((gn hg (kp BK264)));have NB265_264:=am ((gm hg (kp BK264)));replace BK264:=am (blk_below (g:=gb264) (o:=.cells #[.string (⟨#[68,79,67]⟩:ByteArray),.int .i64 1,.int .i64 1,.string (⟨#[114,114,100]⟩:ByteArray)] 94 (0,0)) (kp BK264) hb);clear hb hbox hg;have hnb22:=NB265_263.out;have hnc22:=NB263_265.out;have hnb23:=NB265_264.out;have hnc23:=NB264_265.out;have hcz24:=cf4 BK265))
  (try simp only [Act.put,List.setIfInBounds_toArray,List.set_cons_zero,List.set_cons_succ])
  go_cut [16] (fun v16 wc=>∃ (kq:Nat) (x16_14:Bool),v16=.bool x16_14∧Aside0 (spec_TableOf.j0 kq a0 x16_14 (⟨#[68,79,67]⟩:ByteArray) 1 1 (⟨#[114,100]⟩:ByteArray) (⟨#[68,79,67]⟩:ByteArray) 1 1 (⟨#[114,114,100]⟩:ByteArray) (⟨#[78,79,84]⟩:ByteArray) 0 2 (⟨#[116]⟩:ByteArray)=some r)∧Aside0 (kq≤k)∧Aside0 (wc.heap[gb263]? = some (.cells #[.string (⟨#[68,79,67]⟩:ByteArray),.int .i64 1,.int .i64 1,.string (⟨#[114,100]⟩:ByteArray)] 94 (0,0)))∧Aside0 (wc.heap[gb264]? = some (.cells #[.string (⟨#[68,79,67]⟩:ByteArray),.int .i64 1,.int .i64 1,.string (⟨#[114,114,100]⟩:ByteArray)] 94 (0,0)))∧Aside0 (wc.heap[gb265]? = some (.cells #[.string (⟨#[78,79,84]⟩:ByteArray),.int .i64 0,.int .i64 2,.string (⟨#[116]⟩:ByteArray)] 94 (0,0)))∧Aside0 (Below w.heap.size w wc))
  case first =>
   have H:=HC15.out;clear HC15
   revert H;refine ie2 ?_ ?_
   ·intro c25b0 c25b1 H
    (first|rw [c25b0]|(simp only [i64_w,i32_w];rw [c25b0])|rw [c25b1]|skip)
    have H':=am H;clear H
    go_wp2
    go_meet
    case rel=>exact ⟨_,((a0 == 2)),fg,H',⟨fl⟩,⟨ks BK263⟩,⟨ks BK264⟩,⟨kp BK265⟩,⟨bs HB⟩⟩
   ·intro c25 c25b0 c25b1 H
    (first|rw [c25b0]|(simp only [i64_w,i32_w];rw [c25b0])|rw [c25b1]|skip)
    have H':=am H;clear H
    go_wp2
    go_meet
    case rel=>exact ⟨_,((a0 == 4)),fg,H',⟨fl⟩,⟨ks BK263⟩,⟨ks BK264⟩,⟨kp BK265⟩,⟨bs HB⟩⟩
  case rest =>
   clear HC15
   try clear c2
   try clear c2b0
   try clear c2b1
   try clear hcz24
   obtain ⟨kq,x16_14,rfl,HA,HJ14,BK263,BK264,BK265,HB⟩:=hcut
   cases kq with
   | zero=>exact absurd HA.out (by simp [spec_TableOf.j0])
   | succ kj14 =>
    have H:=HA.out;clear HA;simp only [spec_TableOf.j0] at H
    obtain rfl|rfl:=bt x16_14
    ·replace H:=itT H;obtain ⟨y269,hy269⟩:∃ y_:List (S94),y_=(([(⟨(⟨#[68,79,67]⟩:ByteArray),1,1,(⟨#[114,114,100]⟩:ByteArray)⟩:S94),(⟨(⟨#[76,73,78]⟩:ByteArray),1,20,(⟨#[110,113,63,116]⟩:ByteArray)⟩:S94)]:List (S94))):=⟨_,rfl⟩
     replace H:(some y269)=some r:=ye hy269 H
     have Ny269:=am hy269;clear hy269;obtain rfl:=si H;have hnb27:=NB264_263.out;have hnc27:=NB263_264.out;have hnb28:=NB264_265.out;have hnc28:=NB265_264.out;have hcz29:=cf4 BK264
     go_wp2_with (first|((with_reducible refine gate_dst (N:=21) rfl ?_);refine Kd.R_lit k94 _ 94 ?hg (N:=21) ?hd (xs:=([(⟨(⟨#[68,79,67]⟩:ByteArray),1,1,(⟨#[114,114,100]⟩:ByteArray)⟩:S94),(⟨(⟨#[76,73,78]⟩:ByteArray),1,20,(⟨#[110,113,63,116]⟩:ByteArray)⟩:S94)]:List (S94))) (inner:=[.string (⟨#[68,79,67]⟩:ByteArray),.int .i64 1,.int .i64 1,.string (⟨#[114,114,100]⟩:ByteArray),.string (⟨#[76,73,78]⟩:ByteArray),.int .i64 1,.int .i64 20,.string (⟨#[110,113,63,116]⟩:ByteArray)]) (ok:=fun _=>True) (okp:=fun _=>True) ?hr ?hp (fun _ hk=>hk) trivial (Below.refl _ _) (Nat.le_refl _) (by simp) ?_;(case hd=>rfl);(case hg=>rfl);(case hr=>first|(go_simp;done)|(go_simp;rfl));(case hp=>exact (Reps.c4 (show Kd.M k94 _ _ _ (⟨(⟨#[68,79,67]⟩:ByteArray),1,1,(⟨#[114,114,100]⟩:ByteArray)⟩:S94) [.string (⟨#[68,79,67]⟩:ByteArray),.int .i64 1,.int .i64 1,.string (⟨#[114,114,100]⟩:ByteArray)] from (k94_mkM _ _ _ (⟨(⟨#[68,79,67]⟩:ByteArray),1,1,(⟨#[114,114,100]⟩:ByteArray)⟩:S94) )) (Reps.c4 (show Kd.M k94 _ _ _ (⟨(⟨#[76,73,78]⟩:ByteArray),1,20,(⟨#[110,113,63,116]⟩:ByteArray)⟩:S94) [.string (⟨#[76,73,78]⟩:ByteArray),.int .i64 1,.int .i64 20,.string (⟨#[110,113,63,116]⟩:ByteArray)] from (k94_mkM _ _ _ (⟨(⟨#[76,73,78]⟩:ByteArray),1,20,(⟨#[110,113,63,116]⟩:ByteArray)⟩:S94) )) (Reps.none _ _))));intro v270 w30 ho31 hb hg_ hnew_;clear hg_ hnew_;(first|rw [← Ny269.out] at ho31|(simp only [Int.reduceToNat] at ho31;rw [← Ny269.out] at ho31));have HO271:=am (Kd.R_lower (Kd.R_newB (Kd.R_newB (Kd.R_newB ho31 (g:=gb263) (o:=.cells #[.string (⟨#[68,79,67]⟩:ByteArray),.int .i64 1,.int .i64 1,.string (⟨#[114,100]⟩:ByteArray)] 94 (0,0)) (ks BK263)) (g:=gb264) (o:=.cells #[.string (⟨#[68,79,67]⟩:ByteArray),.int .i64 1,.int .i64 1,.string (⟨#[114,114,100]⟩:ByteArray)] 94 (0,0)) (ks BK264)) (g:=gb265) (o:=.cells #[.string (⟨#[78,79,84]⟩:ByteArray),.int .i64 0,.int .i64 2,.string (⟨#[116]⟩:ByteArray)] 94 (0,0)) (ks BK265)) (below_size (bs HB)));replace BK263:=am (blk_below (g:=gb263) (o:=.cells #[.string (⟨#[68,79,67]⟩:ByteArray),.int .i64 1,.int .i64 1,.string (⟨#[114,100]⟩:ByteArray)] 94 (0,0)) (ks BK263) hb);replace BK264:=am (blk_below (g:=gb264) (o:=.cells #[.string (⟨#[68,79,67]⟩:ByteArray),.int .i64 1,.int .i64 1,.string (⟨#[114,114,100]⟩:ByteArray)] 94 (0,0)) (ks BK264) hb);replace BK265:=am (blk_below (g:=gb265) (o:=.cells #[.string (⟨#[78,79,84]⟩:ByteArray),.int .i64 0,.int .i64 2,.string (⟨#[116]⟩:ByteArray)] 94 (0,0)) (ks BK265) hb);replace HB:=am (below_step (bs HB) hb);clear hb ho31))
     go_ret
     exact ⟨_,ff,by (with_reducible repeat (first|apply Kd.R_alloc|apply Kd.R_drewN|apply Kd.R_drew));exact Kd.R_mono HO271.out (fun _ hk=>trivial),bs HB⟩
    ·replace H:=itF H
     revert H;refine ie2 ?_ ?_
     ·intro c32b0 c32b1 H;obtain ⟨y272,hy272⟩:∃ y_:List (S94),y_=(([(⟨(⟨#[68,79,67]⟩:ByteArray),1,1,(⟨#[114,114,100]⟩:ByteArray)⟩:S94),(⟨(⟨#[78,79,84]⟩:ByteArray),0,2,(⟨#[116]⟩:ByteArray)⟩:S94),(⟨(⟨#[76,73,78]⟩:ByteArray),1,20,(⟨#[110,113]⟩:ByteArray)⟩:S94)]:List (S94))):=⟨_,rfl⟩
      replace H:(some y272)=some r:=ye hy272 H
      have Ny272:=am hy272;clear hy272;obtain rfl:=si H;have hnb33:=NB264_263.out;have hnc33:=NB263_264.out;have hnb34:=NB264_265.out;have hnc34:=NB265_264.out;have hcz35:=cf4 BK264;have hnb36:=NB265_263.out;have hnc36:=NB263_265.out;have hcz37:=cf4 BK265
      go_wp2_with (first|((with_reducible refine gate_dst (N:=27) rfl ?_);refine Kd.R_lit k94 _ 94 ?hg (N:=27) ?hd (xs:=([(⟨(⟨#[68,79,67]⟩:ByteArray),1,1,(⟨#[114,114,100]⟩:ByteArray)⟩:S94),(⟨(⟨#[78,79,84]⟩:ByteArray),0,2,(⟨#[116]⟩:ByteArray)⟩:S94),(⟨(⟨#[76,73,78]⟩:ByteArray),1,20,(⟨#[110,113]⟩:ByteArray)⟩:S94)]:List (S94))) (inner:=[.string (⟨#[68,79,67]⟩:ByteArray),.int .i64 1,.int .i64 1,.string (⟨#[114,114,100]⟩:ByteArray),.string (⟨#[78,79,84]⟩:ByteArray),.int .i64 0,.int .i64 2,.string (⟨#[116]⟩:ByteArray),.string (⟨#[76,73,78]⟩:ByteArray),.int .i64 1,.int .i64 20,.string (⟨#[110,113]⟩:ByteArray)]) (ok:=fun _=>True) (okp:=fun _=>True) ?hr ?hp (fun _ hk=>hk) trivial (Below.refl _ _) (Nat.le_refl _) (by simp) ?_;(case hd=>rfl);(case hg=>rfl);(case hr=>first|(go_simp;done)|(go_simp;rfl));(case hp=>exact (Reps.c4 (show Kd.M k94 _ _ _ (⟨(⟨#[68,79,67]⟩:ByteArray),1,1,(⟨#[114,114,100]⟩:ByteArray)⟩:S94) [.string (⟨#[68,79,67]⟩:ByteArray),.int .i64 1,.int .i64 1,.string (⟨#[114,114,100]⟩:ByteArray)] from (k94_mkM _ _ _ (⟨(⟨#[68,79,67]⟩:ByteArray),1,1,(⟨#[114,114,100]⟩:ByteArray)⟩:S94) )) (Reps.c4 (show Kd.M k94 _ _ _ (⟨(⟨#[78,79,84]⟩:ByteArray),0,2,(⟨#[116]⟩:ByteArray)⟩:S94) [.string (⟨#[78,79,84]⟩:ByteArray),.int .i64 0,.int .i64 2,.string (⟨#[116]⟩:ByteArray)] from (k94_mkM _ _ _ (⟨(⟨#[78,79,84]⟩:ByteArray),0,2,(⟨#[116]⟩:ByteArray)⟩:S94) )) (Reps.c4 (show Kd.M k94 _ _ _ (⟨(⟨#[76,73,78]⟩:ByteArray),1,20,(⟨#[110,113]⟩:ByteArray)⟩:S94) [.string (⟨#[76,73,78]⟩:ByteArray),.int .i64 1,.int .i64 20,.string (⟨#[110,113]⟩:ByteArray)] from (k94_mkM _ _ _ (⟨(⟨#[76,73,78]⟩:ByteArray),1,20,(⟨#[110,113]⟩:ByteArray)⟩:S94) )) (Reps.none _ _)))));intro v273 w38 ho39 hb hg_ hnew_;clear hg_ hnew_;(first|rw [← Ny272.out] at ho39|(simp only [Int.reduceToNat] at ho39;rw [← Ny272.out] at ho39));have HO274:=am (Kd.R_lower (Kd.R_newB (Kd.R_newB (Kd.R_newB ho39 (g:=gb263) (o:=.cells #[.string (⟨#[68,79,67]⟩:ByteArray),.int .i64 1,.int .i64 1,.string (⟨#[114,100]⟩:ByteArray)] 94 (0,0)) (ks BK263)) (g:=gb264) (o:=.cells #[.string (⟨#[68,79,67]⟩:ByteArray),.int .i64 1,.int .i64 1,.string (⟨#[114,114,100]⟩:ByteArray)] 94 (0,0)) (ks BK264)) (g:=gb265) (o:=.cells #[.string (⟨#[78,79,84]⟩:ByteArray),.int .i64 0,.int .i64 2,.string (⟨#[116]⟩:ByteArray)] 94 (0,0)) (ks BK265)) (below_size (bs HB)));replace BK263:=am (blk_below (g:=gb263) (o:=.cells #[.string (⟨#[68,79,67]⟩:ByteArray),.int .i64 1,.int .i64 1,.string (⟨#[114,100]⟩:ByteArray)] 94 (0,0)) (ks BK263) hb);replace BK264:=am (blk_below (g:=gb264) (o:=.cells #[.string (⟨#[68,79,67]⟩:ByteArray),.int .i64 1,.int .i64 1,.string (⟨#[114,114,100]⟩:ByteArray)] 94 (0,0)) (ks BK264) hb);replace BK265:=am (blk_below (g:=gb265) (o:=.cells #[.string (⟨#[78,79,84]⟩:ByteArray),.int .i64 0,.int .i64 2,.string (⟨#[116]⟩:ByteArray)] 94 (0,0)) (ks BK265) hb);replace HB:=am (below_step (bs HB) hb);clear hb ho39))
      go_ret
      exact ⟨_,ff,by (with_reducible repeat (first|apply Kd.R_alloc|apply Kd.R_drewN|apply Kd.R_drew));exact Kd.R_mono HO274.out (fun _ hk=>trivial),bs HB⟩
     ·intro c32 c32b0 c32b1 H
      revert H;refine ie2 ?_ ?_
      ·intro c40b0 c40b1 H;obtain ⟨y275,hy275⟩:∃ y_:List (S94),y_=(([(⟨(⟨#[68,79,67]⟩:ByteArray),1,1,(⟨#[114,100]⟩:ByteArray)⟩:S94),(⟨(⟨#[73,84,77]⟩:ByteArray),1,20,(⟨#[114,110]⟩:ByteArray)⟩:S94)]:List (S94))):=⟨_,rfl⟩
       replace H:(some y275)=some r:=ye hy275 H
       have Ny275:=am hy275;clear hy275;obtain rfl:=si H;have hnb41:=NB263_264.out;have hnc41:=NB264_263.out;have hnb42:=NB263_265.out;have hnc42:=NB265_263.out;have hcz43:=cf4 BK263
       go_wp2_with (first|((with_reducible refine gate_dst (N:=32) rfl ?_);refine Kd.R_lit k94 _ 94 ?hg (N:=32) ?hd (xs:=([(⟨(⟨#[68,79,67]⟩:ByteArray),1,1,(⟨#[114,100]⟩:ByteArray)⟩:S94),(⟨(⟨#[73,84,77]⟩:ByteArray),1,20,(⟨#[114,110]⟩:ByteArray)⟩:S94)]:List (S94))) (inner:=[.string (⟨#[68,79,67]⟩:ByteArray),.int .i64 1,.int .i64 1,.string (⟨#[114,100]⟩:ByteArray),.string (⟨#[73,84,77]⟩:ByteArray),.int .i64 1,.int .i64 20,.string (⟨#[114,110]⟩:ByteArray)]) (ok:=fun _=>True) (okp:=fun _=>True) ?hr ?hp (fun _ hk=>hk) trivial (Below.refl _ _) (Nat.le_refl _) (by simp) ?_;(case hd=>rfl);(case hg=>rfl);(case hr=>first|(go_simp;done)|(go_simp;rfl));(case hp=>exact (Reps.c4 (show Kd.M k94 _ _ _ (⟨(⟨#[68,79,67]⟩:ByteArray),1,1,(⟨#[114,100]⟩:ByteArray)⟩:S94) [.string (⟨#[68,79,67]⟩:ByteArray),.int .i64 1,.int .i64 1,.string (⟨#[114,100]⟩:ByteArray)] from (k94_mkM _ _ _ (⟨(⟨#[68,79,67]⟩:ByteArray),1,1,(⟨#[114,100]⟩:ByteArray)⟩:S94) )) (Reps.c4 (show Kd.M k94 _ _ _ (⟨(⟨#[73,84,77]⟩:ByteArray),1,20,(⟨#[114,110]⟩:ByteArray)⟩:S94) [.string (⟨#[73,84,77]⟩:ByteArray),.int .i64 1,.int .i64 20,.string (⟨#[114,110]⟩:ByteArray)] from (k94_mkM _ _ _ (⟨(⟨#[73,84,77]⟩:ByteArray),1,20,(⟨#[114,110]⟩:ByteArray)⟩:S94) )) (Reps.none _ _))));intro v276 w44 ho45 hb hg_ hnew_;clear hg_ hnew_;(first|rw [← Ny275.out] at ho45|(simp only [Int.reduceToNat] at ho45;rw [← Ny275.out] at ho45));have HO277:=am (Kd.R_lower (Kd.R_newB (Kd.R_newB (Kd.R_newB ho45 (g:=gb263) (o:=.cells #[.string (⟨#[68,79,67]⟩:ByteArray),.int .i64 1,.int .i64 1,.string (⟨#[114,100]⟩:ByteArray)] 94 (0,0)) (ks BK263)) (g:=gb264) (o:=.cells #[.string (⟨#[68,79,67]⟩:ByteArray),.int .i64 1,.int .i64 1,.string (⟨#[114,114,100]⟩:ByteArray)] 94 (0,0)) (ks BK264)) (g:=gb265) (o:=.cells #[.string (⟨#[78,79,84]⟩:ByteArray),.int .i64 0,.int .i64 2,.string (⟨#[116]⟩:ByteArray)] 94 (0,0)) (ks BK265)) (below_size (bs HB)));replace BK263:=am (blk_below (g:=gb263) (o:=.cells #[.string (⟨#[68,79,67]⟩:ByteArray),.int .i64 1,.int .i64 1,.string (⟨#[114,100]⟩:ByteArray)] 94 (0,0)) (ks BK263) hb);replace BK264:=am (blk_below (g:=gb264) (o:=.cells #[.string (⟨#[68,79,67]⟩:ByteArray),.int .i64 1,.int .i64 1,.string (⟨#[114,114,100]⟩:ByteArray)] 94 (0,0)) (ks BK264) hb);replace BK265:=am (blk_below (g:=gb265) (o:=.cells #[.string (⟨#[78,79,84]⟩:ByteArray),.int .i64 0,.int .i64 2,.string (⟨#[116]⟩:ByteArray)] 94 (0,0)) (ks BK265) hb);replace HB:=am (below_step (bs HB) hb);clear hb ho45))
       go_ret
       exact ⟨_,ff,by (with_reducible repeat (first|apply Kd.R_alloc|apply Kd.R_drewN|apply Kd.R_drew));exact Kd.R_mono HO277.out (fun _ hk=>trivial),bs HB⟩
      ·intro c40 c40b0 c40b1 H
       revert H;refine ie2 ?_ ?_
       ·intro c46b0 c46b1 H;obtain ⟨y278,hy278⟩:∃ y_:List (S94),y_=(([(⟨(⟨#[68,79,67]⟩:ByteArray),1,1,(⟨#[114,100]⟩:ByteArray)⟩:S94),(⟨(⟨#[73,84,77]⟩:ByteArray),1,20,(⟨#[114,122,63,116]⟩:ByteArray)⟩:S94)]:List (S94))):=⟨_,rfl⟩
        replace H:(some y278)=some r:=ye hy278 H
        have Ny278:=am hy278;clear hy278;obtain rfl:=si H;have hnb47:=NB263_264.out;have hnc47:=NB264_263.out;have hnb48:=NB263_265.out;have hnc48:=NB265_263.out;have hcz49:=cf4 BK263
        go_wp2_with (first|((with_reducible refine gate_dst (N:=37) rfl ?_);refine Kd.R_lit k94 _ 94 ?hg (N:=37) ?hd (xs:=([(⟨(⟨#[68,79,67]⟩:ByteArray),1,1,(⟨#[114,100]⟩:ByteArray)⟩:S94),(⟨(⟨#[73,84,77]⟩:ByteArray),1,20,(⟨#[114,122,63,116]⟩:ByteArray)⟩:S94)]:List (S94))) (inner:=[.string (⟨#[68,79,67]⟩:ByteArray),.int .i64 1,.int .i64 1,.string (⟨#[114,100]⟩:ByteArray),.string (⟨#[73,84,77]⟩:ByteArray),.int .i64 1,.int .i64 20,.string (⟨#[114,122,63,116]⟩:ByteArray)]) (ok:=fun _=>True) (okp:=fun _=>True) ?hr ?hp (fun _ hk=>hk) trivial (Below.refl _ _) (Nat.le_refl _) (by simp) ?_;(case hd=>rfl);(case hg=>rfl);(case hr=>first|(go_simp;done)|(go_simp;rfl));(case hp=>exact (Reps.c4 (show Kd.M k94 _ _ _ (⟨(⟨#[68,79,67]⟩:ByteArray),1,1,(⟨#[114,100]⟩:ByteArray)⟩:S94) [.string (⟨#[68,79,67]⟩:ByteArray),.int .i64 1,.int .i64 1,.string (⟨#[114,100]⟩:ByteArray)] from (k94_mkM _ _ _ (⟨(⟨#[68,79,67]⟩:ByteArray),1,1,(⟨#[114,100]⟩:ByteArray)⟩:S94) )) (Reps.c4 (show Kd.M k94 _ _ _ (⟨(⟨#[73,84,77]⟩:ByteArray),1,20,(⟨#[114,122,63,116]⟩:ByteArray)⟩:S94) [.string (⟨#[73,84,77]⟩:ByteArray),.int .i64 1,.int .i64 20,.string (⟨#[114,122,63,116]⟩:ByteArray)] from (k94_mkM _ _ _ (⟨(⟨#[73,84,77]⟩:ByteArray),1,20,(⟨#[114,122,63,116]⟩:ByteArray)⟩:S94) )) (Reps.none _ _))));intro v279 w50 ho51 hb hg_ hnew_;clear hg_ hnew_;(first|rw [← Ny278.out] at ho51|(simp only [Int.reduceToNat] at ho51;rw [← Ny278.out] at ho51));have HO280:=am (Kd.R_lower (Kd.R_newB (Kd.R_newB (Kd.R_newB ho51 (g:=gb263) (o:=.cells #[.string (⟨#[68,79,67]⟩:ByteArray),.int .i64 1,.int .i64 1,.string (⟨#[114,100]⟩:ByteArray)] 94 (0,0)) (ks BK263)) (g:=gb264) (o:=.cells #[.string (⟨#[68,79,67]⟩:ByteArray),.int .i64 1,.int .i64 1,.string (⟨#[114,114,100]⟩:ByteArray)] 94 (0,0)) (ks BK264)) (g:=gb265) (o:=.cells #[.string (⟨#[78,79,84]⟩:ByteArray),.int .i64 0,.int .i64 2,.string (⟨#[116]⟩:ByteArray)] 94 (0,0)) (ks BK265)) (below_size (bs HB)));replace BK263:=am (blk_below (g:=gb263) (o:=.cells #[.string (⟨#[68,79,67]⟩:ByteArray),.int .i64 1,.int .i64 1,.string (⟨#[114,100]⟩:ByteArray)] 94 (0,0)) (ks BK263) hb);replace BK264:=am (blk_below (g:=gb264) (o:=.cells #[.string (⟨#[68,79,67]⟩:ByteArray),.int .i64 1,.int .i64 1,.string (⟨#[114,114,100]⟩:ByteArray)] 94 (0,0)) (ks BK264) hb);replace BK265:=am (blk_below (g:=gb265) (o:=.cells #[.string (⟨#[78,79,84]⟩:ByteArray),.int .i64 0,.int .i64 2,.string (⟨#[116]⟩:ByteArray)] 94 (0,0)) (ks BK265) hb);replace HB:=am (below_step (bs HB) hb);clear hb ho51))
        go_ret
        exact ⟨_,ff,by (with_reducible repeat (first|apply Kd.R_alloc|apply Kd.R_drewN|apply Kd.R_drew));exact Kd.R_mono HO280.out (fun _ hk=>trivial),bs HB⟩
       ·intro c46 c46b0 c46b1 H
        revert H;refine ie2 ?_ ?_
        ·intro c52b0 c52b1 H;obtain ⟨y281,hy281⟩:∃ y_:List (S94),y_=(([(⟨(⟨#[68,79,67]⟩:ByteArray),1,1,(⟨#[114,100]⟩:ByteArray)⟩:S94),(⟨(⟨#[65,67,75]⟩:ByteArray),1,1,(⟨#[110,110,63,110]⟩:ByteArray)⟩:S94)]:List (S94))):=⟨_,rfl⟩
         replace H:(some y281)=some r:=ye hy281 H
         have Ny281:=am hy281;clear hy281;obtain rfl:=si H;have hnb53:=NB263_264.out;have hnc53:=NB264_263.out;have hnb54:=NB263_265.out;have hnc54:=NB265_263.out;have hcz55:=cf4 BK263
         go_wp2_with (first|((with_reducible refine gate_dst (N:=42) rfl ?_);refine Kd.R_lit k94 _ 94 ?hg (N:=42) ?hd (xs:=([(⟨(⟨#[68,79,67]⟩:ByteArray),1,1,(⟨#[114,100]⟩:ByteArray)⟩:S94),(⟨(⟨#[65,67,75]⟩:ByteArray),1,1,(⟨#[110,110,63,110]⟩:ByteArray)⟩:S94)]:List (S94))) (inner:=[.string (⟨#[68,79,67]⟩:ByteArray),.int .i64 1,.int .i64 1,.string (⟨#[114,100]⟩:ByteArray),.string (⟨#[65,67,75]⟩:ByteArray),.int .i64 1,.int .i64 1,.string (⟨#[110,110,63,110]⟩:ByteArray)]) (ok:=fun _=>True) (okp:=fun _=>True) ?hr ?hp (fun _ hk=>hk) trivial (Below.refl _ _) (Nat.le_refl _) (by simp) ?_;(case hd=>rfl);(case hg=>rfl);(case hr=>first|(go_simp;done)|(go_simp;rfl));(case hp=>exact (Reps.c4 (show Kd.M k94 _ _ _ (⟨(⟨#[68,79,67]⟩:ByteArray),1,1,(⟨#[114,100]⟩:ByteArray)⟩:S94) [.string (⟨#[68,79,67]⟩:ByteArray),.int .i64 1,.int .i64 1,.string (⟨#[114,100]⟩:ByteArray)] from (k94_mkM _ _ _ (⟨(⟨#[68,79,67]⟩:ByteArray),1,1,(⟨#[114,100]⟩:ByteArray)⟩:S94) )) (Reps.c4 (show Kd.M k94 _ _ _ (⟨(⟨#[65,67,75]⟩:ByteArray),1,1,(⟨#[110,110,63,110]⟩:ByteArray)⟩:S94) [.string (⟨#[65,67,75]⟩:ByteArray),.int .i64 1,.int .i64 1,.string (⟨#[110,110,63,110]⟩:ByteArray)] from (k94_mkM _ _ _ (⟨(⟨#[65,67,75]⟩:ByteArray),1,1,(⟨#[110,110,63,110]⟩:ByteArray)⟩:S94) )) (Reps.none _ _))));intro v282 w56 ho57 hb hg_ hnew_;clear hg_ hnew_;(first|rw [← Ny281.out] at ho57|(simp only [Int.reduceToNat] at ho57;rw [← Ny281.out] at ho57));have HO283:=am (Kd.R_lower (Kd.R_newB (Kd.R_newB (Kd.R_newB ho57 (g:=gb263) (o:=.cells #[.string (⟨#[68,79,67]⟩:ByteArray),.int .i64 1,.int .i64 1,.string (⟨#[114,100]⟩:ByteArray)] 94 (0,0)) (ks BK263)) (g:=gb264) (o:=.cells #[.string (⟨#[68,79,67]⟩:ByteArray),.int .i64 1,.int .i64 1,.string (⟨#[114,114,100]⟩:ByteArray)] 94 (0,0)) (ks BK264)) (g:=gb265) (o:=.cells #[.string (⟨#[78,79,84]⟩:ByteArray),.int .i64 0,.int .i64 2,.string (⟨#[116]⟩:ByteArray)] 94 (0,0)) (ks BK265)) (below_size (bs HB)));replace BK263:=am (blk_below (g:=gb263) (o:=.cells #[.string (⟨#[68,79,67]⟩:ByteArray),.int .i64 1,.int .i64 1,.string (⟨#[114,100]⟩:ByteArray)] 94 (0,0)) (ks BK263) hb);replace BK264:=am (blk_below (g:=gb264) (o:=.cells #[.string (⟨#[68,79,67]⟩:ByteArray),.int .i64 1,.int .i64 1,.string (⟨#[114,114,100]⟩:ByteArray)] 94 (0,0)) (ks BK264) hb);replace BK265:=am (blk_below (g:=gb265) (o:=.cells #[.string (⟨#[78,79,84]⟩:ByteArray),.int .i64 0,.int .i64 2,.string (⟨#[116]⟩:ByteArray)] 94 (0,0)) (ks BK265) hb);replace HB:=am (below_step (bs HB) hb);clear hb ho57))
         go_ret
         exact ⟨_,ff,by (with_reducible repeat (first|apply Kd.R_alloc|apply Kd.R_drewN|apply Kd.R_drew));exact Kd.R_mono HO283.out (fun _ hk=>trivial),bs HB⟩
        ·intro c52 c52b0 c52b1 H;obtain ⟨y284,hy284⟩:∃ y_:List (S94),y_=(([]:List (S94))):=⟨_,rfl⟩
         replace H:(some y284)=some r:=ye hy284 H
         have Ny284:=am hy284;clear hy284;obtain rfl:=si H
         go_wp2_with (first|((with_reducible refine gate_dst (N:=43) rfl ?_);refine Kd.R_lit k94 _ 94 ?hg (N:=43) ?hd (xs:=([]:List (S94))) (inner:=[]) (ok:=fun _=>True) (okp:=fun _=>True) ?hr ?hp (fun _ hk=>hk) trivial (Below.refl _ _) (Nat.le_refl _) (by simp) ?_;(case hd=>rfl);(case hg=>rfl);(case hr=>first|(go_simp;done)|(go_simp;rfl));(case hp=>exact (Reps.none _ _));intro v285 w58 ho59 hb hg_ hnew_;clear hg_ hnew_;(first|rw [← Ny284.out] at ho59|(simp only [Int.reduceToNat] at ho59;rw [← Ny284.out] at ho59));have HO286:=am (Kd.R_lower (Kd.R_newB (Kd.R_newB (Kd.R_newB ho59 (g:=gb263) (o:=.cells #[.string (⟨#[68,79,67]⟩:ByteArray),.int .i64 1,.int .i64 1,.string (⟨#[114,100]⟩:ByteArray)] 94 (0,0)) (ks BK263)) (g:=gb264) (o:=.cells #[.string (⟨#[68,79,67]⟩:ByteArray),.int .i64 1,.int .i64 1,.string (⟨#[114,114,100]⟩:ByteArray)] 94 (0,0)) (ks BK264)) (g:=gb265) (o:=.cells #[.string (⟨#[78,79,84]⟩:ByteArray),.int .i64 0,.int .i64 2,.string (⟨#[116]⟩:ByteArray)] 94 (0,0)) (ks BK265)) (below_size (bs HB)));replace BK263:=am (blk_below (g:=gb263) (o:=.cells #[.string (⟨#[68,79,67]⟩:ByteArray),.int .i64 1,.int .i64 1,.string (⟨#[114,100]⟩:ByteArray)] 94 (0,0)) (ks BK263) hb);replace BK264:=am (blk_below (g:=gb264) (o:=.cells #[.string (⟨#[68,79,67]⟩:ByteArray),.int .i64 1,.int .i64 1,.string (⟨#[114,114,100]⟩:ByteArray)] 94 (0,0)) (ks BK264) hb);replace BK265:=am (blk_below (g:=gb265) (o:=.cells #[.string (⟨#[78,79,84]⟩:ByteArray),.int .i64 0,.int .i64 2,.string (⟨#[116]⟩:ByteArray)] 94 (0,0)) (ks BK265) hb);replace HB:=am (below_step (bs HB) hb);clear hb ho59))
         go_ret
         exact ⟨_,ff,by (with_reducible repeat (first|apply Kd.R_alloc|apply Kd.R_drewN|apply Kd.R_drew));exact Kd.R_mono HO286.out (fun _ hk=>trivial),bs HB⟩
set_option maxHeartbeats 8000000 in
set_option maxRecDepth 100000 in
theorem spec_l01Num.calls (k:Nat) (a0:ByteArray) (r1:Int) (r2:Bool) (w:World) (H:spec_l01Num.f k a0=some (r1,r2)) :
  Calls Tryz.prog 97 #[.string a0] w fun e w'=>e=.returned (.tuple #[.int .i64 r1,.bool r2])∧Below w.heap.size w w':=by
 have HB:=am (Below.refl w.heap.size w);unfold spec_l01Num.f at H;have HC2:=am H;clear H
 go_in
 go_upto_region 1 with (fail)
 go_cut [4] (fun v4 wc=>∃ (kq:Nat) (x4_1:Bool),v4=.bool x4_1∧Aside0 (spec_l01Num.j0 kq a0 x4_1=some (r1,r2))∧Aside0 (kq≤k)∧Aside0 (Below w.heap.size w wc))
 case first =>
  have H:=HC2.out;clear HC2
  revert H;refine ip2 ?_ ?_
  ·intro c3 H;have c3b0:decide (0<(a0.size:Int))=true:=decide_eq_true c3;have c3b1:decide (0<a0.size)=true:=decide_eq_true (by omega);clear c3
   (first|rw [c3b0]|(simp only [i64_w,i32_w];rw [c3b0])|rw [c3b1]|skip)
   revert H;refine id1k ?_
   intro c4 c4b0 H;have c4b1:decide (0<a0.size)=true:=decide_eq_true (by omega);clear c4;have H':=am H;clear H;have p5:0≤(0:Int):=(by omega);have q5:0<a0.size:=(by have:(0:Int)<(a0.size:Int):=oa;omega);have hx5:∀ h:0<a0.size,((a0[0]'h).toNat:Int)=bt a0 0:=bt_at a0 0;clear p5;have qi5:(0<(a0.size:Int))=True:=eq_true (oa);replace q5:=eq_true q5
   go_wp2
   go_meet
   case rel=>exact ⟨_,(((bt a0 0) == 45)),fg,H',⟨fl⟩,⟨bs HB⟩⟩
  ·intro c3 H;have c3b0:decide (0<(a0.size:Int))=false:=decide_eq_false c3;have c3b1:decide (0<a0.size)=false:=decide_eq_false (by omega);clear c3
   (first|rw [c3b0]|(simp only [i64_w,i32_w];rw [c3b0])|rw [c3b1]|skip)
   have H':=am H;clear H
   go_wp2
   go_meet
   case rel=>exact ⟨_,(false),fg,H',⟨fl⟩,⟨bs HB⟩⟩
 case rest =>
  clear HC2
  obtain ⟨kq,x4_1,rfl,HA,HJ1,HB⟩:=hcut
  cases kq with
  | zero=>exact absurd HA.out (by simp [spec_l01Num.j0])
  | succ kj1 =>
   have H:=HA.out;clear HA;simp only [spec_l01Num.j0] at H;have HC6:=am H;clear H
   go_upto_if 17 with (fail)
   go_cut [5] (fun v5 wc=>∃ (kq:Nat) (x5_5:ByteArray),v5=.string x5_5∧Aside0 (spec_l01Num.j1 kq a0 x4_1 x5_5=some (r1,r2))∧Aside0 (kq≤kj1)∧Aside0 (Below w.heap.size w wc))
   case first =>
    have H:=HC6.out;clear HC6
    obtain rfl|rfl:=bt x4_1
    ·replace H:=itT H
     revert H;refine ip1 ?_
     intro c8 H;have c8b0:=eq_true c8;have c8b1:decide (1≤(a0.size:Int))=true:=decide_eq_true c8;clear c8;have H':=am H;clear H
     go_wp2
     go_meet
     case rel=>exact ⟨_,(a0.extract 1 a0.size),fg,H',⟨by have:=HJ1.out;first|omega|exact Nat.le_refl _⟩,⟨bs HB⟩⟩
    ·replace H:=itF H;have H':=am H;clear H
     go_wp2
     go_meet
     case rel=>exact ⟨_,(a0),fg,H',⟨by have:=HJ1.out;first|omega|exact Nat.le_refl _⟩,⟨bs HB⟩⟩
   case rest =>
    clear HC6
    obtain ⟨kq,x5_5,rfl,HA,HJ5,HB⟩:=hcut
    cases kq with
    | zero=>exact absurd HA.out (by simp [spec_l01Num.j1])
    | succ kj5 =>
     have H:=HA.out;clear HA;simp only [spec_l01Num.j1] at H;have HC9:=am H;clear H
     go_upto_region 5 with (fail)
     go_cut [27] (fun v27 wc=>∃ (kq:Nat) (x27_8:Bool),v27=.bool x27_8∧Aside0 (spec_l01Num.j2 kq a0 x4_1 x5_5 x27_8=some (r1,r2))∧Aside0 (kq≤kj5)∧Aside0 (Below w.heap.size w wc))
     case first =>
      have H:=HC9.out;clear HC9
      revert H;refine id2k ?_ ?_
      ·intro c10 c10b0 H;have c10b1:decide (x5_5.size<1)=true:=decide_eq_true (by omega);clear c10
       (first|rw [c10b0]|(simp only [i64_w,i32_w];rw [c10b0])|rw [c10b1]|skip)
       have H':=am H;clear H
       go_wp2
       go_meet
       case rel=>exact ⟨_,(true),fg,H',⟨by have:=HJ1.out;have:=HJ5.out;first|omega|exact Nat.le_refl _⟩,⟨bs HB⟩⟩
      ·intro c10 c10b0 H;have c10b1:decide (x5_5.size<1)=false:=decide_eq_false (by omega);clear c10
       (first|rw [c10b0]|(simp only [i64_w,i32_w];rw [c10b0])|rw [c10b1]|skip)
       have H':=am H;clear H
       go_wp2
       go_meet
       case rel=>exact ⟨_,(decide ((x5_5.size:Int)>12)),fg,H',⟨by have:=HJ1.out;have:=HJ5.out;first|omega|exact Nat.le_refl _⟩,⟨bs HB⟩⟩
     case rest =>
      clear HC9
      obtain ⟨kq,x27_8,rfl,HA,HJ8,HB⟩:=hcut
      cases kq with
      | zero=>exact absurd HA.out (by simp [spec_l01Num.j2])
      | succ kj8 =>
       have H:=HA.out;clear HA;simp only [spec_l01Num.j2] at H
       obtain rfl|rfl:=bt x27_8
       ·replace H:=itT H;replace H:=sj2 H;obtain ⟨rfl,rfl⟩:=H
        go_wp2
        go_ret2
        exact ⟨ff,bs HB⟩
       ·replace H:=itF H;have H':=am H;clear H
        go_wp2
        go_loopg [6,7] kj8 (fun kq v6 v7 w'=>∃ (x6_4:Int) (x7_4:Int),v6=.int .i64 x6_4∧v7=.int .i64 x7_4∧Aside0 (spec_l01Num.l0 kq a0 x4_1 x5_5 x6_4 x7_4=some (r1,r2))∧Aside0 (kq≤kj8)∧Aside0 (Below w.heap.size w w'))
        case atStart=>exact ⟨(0),(0),fg,fg,H',⟨Nat.le_refl _⟩,⟨bs HB⟩⟩
        case round =>
         clear H'
         obtain ⟨x6_4,x7_4,rfl,rfl,HA,HK4,HB⟩:=hrel
         cases gk with
         | zero=>exact absurd HA.out (by simp [spec_l01Num.l0])
         | succ k4 =>
          have H:=HA.out;clear HA;simp only [spec_l01Num.l0] at H
          revert H;refine id2 ?_ ?_
          ·intro c12b0 H
           revert H;refine id1 ?_
           intro c13b0 H
           revert H;refine id2 ?_ ?_
           ·intro c15b0 H;replace H:=sj2 H;obtain ⟨rfl,rfl⟩:=H;have p14:0≤(x7_4:Int):=oa;have q14:x7_4<(x5_5.size:Int):=oa;have hx14:=bt_at x5_5 x7_4;replace p14:=eq_true p14;replace q14:=eq_true q14
            go_wp2
            go_ret2
            exact ⟨ff,bs HB⟩
           ·intro c15b0 H
            revert H;refine ip2 ?_ ?_
            ·intro c17 H;have c17b0:decide (57<(bt x5_5 x7_4))=true:=decide_eq_true c17;clear c17;replace H:=sj2 H;obtain ⟨rfl,rfl⟩:=H;have p14:0≤(x7_4:Int):=oa;have q14:x7_4<(x5_5.size:Int):=oa;have hx14:=bt_at x5_5 x7_4;replace p14:=eq_true p14;replace q14:=eq_true q14;have p16:0≤(x7_4:Int):=oa;have q16:x7_4<(x5_5.size:Int):=oa;have hx16:=bt_at x5_5 x7_4;replace p16:=eq_true p16;replace q16:=eq_true q16
             go_wp2
             go_ret2
             exact ⟨ff,bs HB⟩
            ·intro c17 H;have c17b0:decide (57<(bt x5_5 x7_4))=false:=decide_eq_false c17;clear c17;have H':=am H;clear H;have p14:0≤(x7_4:Int):=oa;have q14:x7_4<(x5_5.size:Int):=oa;have hx14:=bt_at x5_5 x7_4;replace p14:=eq_true p14;replace q14:=eq_true q14;have p16:0≤(x7_4:Int):=oa;have q16:x7_4<(x5_5.size:Int):=oa;have hx16:=bt_at x5_5 x7_4;replace p16:=eq_true p16;replace q16:=eq_true q16;have p18:0≤(x7_4:Int):=oa;have q18:x7_4<(x5_5.size:Int):=oa;have hx18:=bt_at x5_5 x7_4;replace p18:=eq_true p18;replace q18:=eq_true q18
             go_wp2
             go_roundg k4
             case measure=>have:=HJ1.out;have:=HJ5.out;have:=HJ8.out;have:=HK4.out;omega
             case rel=>exact ⟨(wrap64 ((wrap64 (10 * x6_4))+(((bt x5_5 x7_4) - 48) % 256))),(wrap64 (x7_4+1)),fg,fg,H',⟨by have:=HJ1.out;have:=HJ5.out;have:=HJ8.out;have:=HK4.out;omega⟩,⟨bs HB⟩⟩
          ·intro c12b0 H
           obtain rfl|rfl:=bt x4_1
           ·replace H:=itT H;replace H:=bo H;obtain ⟨t287,A20,H⟩:=H;replace H:=sj2 H;obtain ⟨rfl,rfl⟩:=H
            go_wp2_with (first|((first|((with_reducible refine gate_callee (f:=75) rfl ?_);refine goesL_ (some 57) rfl rfl Tryz.func75 (by kernel_rfl) rfl #[.int .i64 (wrap64 (-x6_4))] rfl (by (try simp only [List.map_toArray,List.map_cons,List.map_nil]);first|done|rfl|(simp only [List.length_drop,List.length_take];rfl)) ?_;(with_reducible refine (spec_l01Dec.calls k4 (wrap64 (-x6_4)) t287 _ A20.out).mono ?_);rintro e w21 ⟨rfl,hb⟩;refine ⟨_,rfl,?_⟩)|(go_at_call 75;(with_reducible refine (spec_l01Dec.calls k4 (wrap64 (-x6_4)) t287 _ A20.out).mono ?_);rintro e w21 ⟨rfl,hb⟩));replace HB:=am (below_step (bs HB) hb);(try clear hb);(try clear hb2);(try clear hk);(try clear hi)))
            go_ret2
            exact ⟨ff,bs HB⟩
           ·replace H:=itF H;replace H:=bo H;obtain ⟨t288,A22,H⟩:=H;replace H:=sj2 H;obtain ⟨rfl,rfl⟩:=H
            go_wp2_with (first|((first|((with_reducible refine gate_callee (f:=75) rfl ?_);refine goesL_ (some 57) rfl rfl Tryz.func75 (by kernel_rfl) rfl #[.int .i64 x6_4] rfl (by (try simp only [List.map_toArray,List.map_cons,List.map_nil]);first|done|rfl|(simp only [List.length_drop,List.length_take];rfl)) ?_;(with_reducible refine (spec_l01Dec.calls k4 x6_4 t288 _ A22.out).mono ?_);rintro e w23 ⟨rfl,hb⟩;refine ⟨_,rfl,?_⟩)|(go_at_call 75;(with_reducible refine (spec_l01Dec.calls k4 x6_4 t288 _ A22.out).mono ?_);rintro e w23 ⟨rfl,hb⟩));replace HB:=am (below_step (bs HB) hb);(try clear hb);(try clear hb2);(try clear hk);(try clear hi)))
            go_ret2
            exact ⟨ff,bs HB⟩
set_option maxHeartbeats 8000000 in
set_option maxRecDepth 100000 in
theorem spec_l01Name.calls (k:Nat) (a0:ByteArray) (r:Bool) (w:World) (H:spec_l01Name.f k a0=some r) :
  Calls Tryz.prog 138 #[.string a0] w fun e w'=>e=.returned (.bool r)∧Drawn0 w w':=by
 unfold spec_l01Name.f at H;have HC2:=am H;clear H
 go_in
 go_upto_region 1 with (fail)
 go_cut [22] (fun v22 wc=>∃ (kq:Nat) (x22_1:Bool),v22=.bool x22_1∧Aside0 (spec_l01Name.j0 kq a0 x22_1=some r)∧Aside0 (kq≤k)∧Drawn0 w wc)
 case first =>
  have H:=HC2.out;clear HC2
  revert H;refine id2k ?_ ?_
  ·intro c3 c3b0 H;have c3b1:decide (a0.size<1)=true:=decide_eq_true (by omega);clear c3
   (first|rw [c3b0]|(simp only [i64_w,i32_w];rw [c3b0])|rw [c3b1]|skip)
   have H':=am H;clear H
   go_wp2
   go_meet
   case rel=>exact ⟨_,(true),fg,H',⟨fl⟩,by repeat (first|exact Drawn0.refl _|apply Drawn0.step)⟩
  ·intro c3 c3b0 H;have c3b1:decide (a0.size<1)=false:=decide_eq_false (by omega);clear c3
   (first|rw [c3b0]|(simp only [i64_w,i32_w];rw [c3b0])|rw [c3b1]|skip)
   revert H;refine ip2 ?_ ?_
   ·intro c4 H;have c4b0:decide (12<(a0.size:Int))=true:=decide_eq_true c4;have c4b1:decide (12<a0.size)=true:=decide_eq_true (by omega);clear c4;have H':=am H;clear H
    go_wp2
    go_meet
    case rel=>exact ⟨_,(true),fg,H',⟨fl⟩,by repeat (first|exact Drawn0.refl _|apply Drawn0.step)⟩
   ·intro c4 H;have c4b0:decide (12<(a0.size:Int))=false:=decide_eq_false c4;have c4b1:decide (12<a0.size)=false:=decide_eq_false (by omega);clear c4
    revert H;refine id1k ?_
    intro c5 c5b0 H;have c5b1:decide (0<a0.size)=true:=decide_eq_true (by omega);clear c5
    revert H;refine id2 ?_ ?_
    ·intro c7b0 H;have H':=am H;clear H;have p6:0≤(0:Int):=(by omega);have q6:0<a0.size:=(by have:(0:Int)<(a0.size:Int):=oa;omega);have hx6:∀ h:0<a0.size,((a0[0]'h).toNat:Int)=bt a0 0:=bt_at a0 0;clear p6;have qi6:(0<(a0.size:Int))=True:=eq_true (oa);replace q6:=eq_true q6
     go_wp2
     go_meet
     case rel=>exact ⟨_,(true),fg,H',⟨fl⟩,by repeat (first|exact Drawn0.refl _|apply Drawn0.step)⟩
    ·intro c7b0 H;have H':=am H;clear H;have p6:0≤(0:Int):=(by omega);have q6:0<a0.size:=(by have:(0:Int)<(a0.size:Int):=oa;omega);have hx6:∀ h:0<a0.size,((a0[0]'h).toNat:Int)=bt a0 0:=bt_at a0 0;clear p6;have qi6:(0<(a0.size:Int))=True:=eq_true (oa);replace q6:=eq_true q6;have p8:0≤(0:Int):=(by omega);have q8:0<a0.size:=(by have:(0:Int)<(a0.size:Int):=oa;omega);have hx8:∀ h:0<a0.size,((a0[0]'h).toNat:Int)=bt a0 0:=bt_at a0 0;clear p8;have qi8:(0<(a0.size:Int))=True:=eq_true (oa);replace q8:=eq_true q8
     go_wp2
     go_meet
     case rel=>exact ⟨_,(decide ((bt a0 0)>90)),fg,H',⟨fl⟩,by repeat (first|exact Drawn0.refl _|apply Drawn0.step)⟩
 case rest =>
  clear HC2
  obtain ⟨kq,x22_1,rfl,HA,HJ1,⟨mc1,rfl⟩⟩:=hcut
  cases kq with
  | zero=>exact absurd HA.out (by simp [spec_l01Name.j0])
  | succ kj1 =>
   have H:=HA.out;clear HA;simp only [spec_l01Name.j0] at H
   obtain rfl|rfl:=bt x22_1
   ·replace H:=itT H;obtain rfl:=si H
    go_wp2
    go_ret
    exact ⟨fg,by repeat (first|exact Drawn0.refl _|apply Drawn0.step)⟩
   ·replace H:=itF H;have H':=am H;clear H
    go_wp2
    go_loopg [3] kj1 (fun kq v3 w'=>∃ (x3_2:Int),v3=.int .i64 x3_2∧Aside0 (spec_l01Name.l0 kq a0 x3_2=some r)∧Aside0 (kq≤kj1)∧Drawn0 w w')
    case atStart=>exact ⟨(0),fg,H',⟨Nat.le_refl _⟩,by repeat (first|exact Drawn0.refl _|apply Drawn0.step)⟩
    case round =>
     clear H'
     obtain ⟨x3_2,rfl,HA,HK2,⟨m2,rfl⟩⟩:=hrel
     cases gk with
     | zero=>exact absurd HA.out (by simp [spec_l01Name.l0])
     | succ k2 =>
      have H:=HA.out;clear HA;simp only [spec_l01Name.l0] at H
      revert H;refine id2 ?_ ?_
      ·intro c10b0 H
       revert H;refine id1 ?_
       intro c11b0 H
       revert H;refine ip2 ?_ ?_
       ·intro c13 H;have c13b0:decide (65≤(bt a0 x3_2))=true:=decide_eq_true c13;clear c13
        revert H;refine id2 ?_ ?_
        ·intro c14b0 H;have H':=am H;clear H;have p12:0≤(x3_2:Int):=oa;have q12:x3_2<(a0.size:Int):=oa;have hx12:=bt_at a0 x3_2;replace p12:=eq_true p12;replace q12:=eq_true q12
         go_wp2
         go_roundg k2
         case measure=>have:=HJ1.out;have:=HK2.out;omega
         case rel=>exact ⟨(wrap64 (x3_2+1)),fg,H',⟨by have:=HJ1.out;have:=HK2.out;omega⟩,by repeat (first|exact Drawn0.refl _|apply Drawn0.step)⟩
        ·intro c14b0 H
         revert H;refine ip2 ?_ ?_
         ·intro c15 H;have c15b0:decide (48≤(bt a0 x3_2))=true:=decide_eq_true c15;clear c15
          revert H;refine id2 ?_ ?_
          ·intro c16b0 H;have H':=am H;clear H;have p12:0≤(x3_2:Int):=oa;have q12:x3_2<(a0.size:Int):=oa;have hx12:=bt_at a0 x3_2;replace p12:=eq_true p12;replace q12:=eq_true q12
           go_wp2
           go_roundg k2
           case measure=>have:=HJ1.out;have:=HK2.out;omega
           case rel=>exact ⟨(wrap64 (x3_2+1)),fg,H',⟨by have:=HJ1.out;have:=HK2.out;omega⟩,by repeat (first|exact Drawn0.refl _|apply Drawn0.step)⟩
          ·intro c16b0 H
           revert H;refine ie2 ?_ ?_
           ·intro c17b0 c17b1 H;have H':=am H;clear H;have p12:0≤(x3_2:Int):=oa;have q12:x3_2<(a0.size:Int):=oa;have hx12:=bt_at a0 x3_2;replace p12:=eq_true p12;replace q12:=eq_true q12
            go_wp2
            go_roundg k2
            case measure=>have:=HJ1.out;have:=HK2.out;omega
            case rel=>exact ⟨(wrap64 (x3_2+1)),fg,H',⟨by have:=HJ1.out;have:=HK2.out;omega⟩,by repeat (first|exact Drawn0.refl _|apply Drawn0.step)⟩
           ·intro c17 c17b0 c17b1 H;obtain rfl:=si H;have p12:0≤(x3_2:Int):=oa;have q12:x3_2<(a0.size:Int):=oa;have hx12:=bt_at a0 x3_2;replace p12:=eq_true p12;replace q12:=eq_true q12
            go_wp2
            go_ret
            exact ⟨fg,by repeat (first|exact Drawn0.refl _|apply Drawn0.step)⟩
         ·intro c15 H;have c15b0:decide (48≤(bt a0 x3_2))=false:=decide_eq_false c15;clear c15
          revert H;refine ie2 ?_ ?_
          ·intro c18b0 c18b1 H;have H':=am H;clear H;have p12:0≤(x3_2:Int):=oa;have q12:x3_2<(a0.size:Int):=oa;have hx12:=bt_at a0 x3_2;replace p12:=eq_true p12;replace q12:=eq_true q12
           go_wp2
           go_roundg k2
           case measure=>have:=HJ1.out;have:=HK2.out;omega
           case rel=>exact ⟨(wrap64 (x3_2+1)),fg,H',⟨by have:=HJ1.out;have:=HK2.out;omega⟩,by repeat (first|exact Drawn0.refl _|apply Drawn0.step)⟩
          ·intro c18 c18b0 c18b1 H;obtain rfl:=si H;have p12:0≤(x3_2:Int):=oa;have q12:x3_2<(a0.size:Int):=oa;have hx12:=bt_at a0 x3_2;replace p12:=eq_true p12;replace q12:=eq_true q12
           go_wp2
           go_ret
           exact ⟨fg,by repeat (first|exact Drawn0.refl _|apply Drawn0.step)⟩
       ·intro c13 H;have c13b0:decide (65≤(bt a0 x3_2))=false:=decide_eq_false c13;clear c13
        revert H;refine ip2 ?_ ?_
        ·intro c19 H;have c19b0:decide (48≤(bt a0 x3_2))=true:=decide_eq_true c19;clear c19
         revert H;refine id2 ?_ ?_
         ·intro c20b0 H;have H':=am H;clear H;have p12:0≤(x3_2:Int):=oa;have q12:x3_2<(a0.size:Int):=oa;have hx12:=bt_at a0 x3_2;replace p12:=eq_true p12;replace q12:=eq_true q12
          go_wp2
          go_roundg k2
          case measure=>have:=HJ1.out;have:=HK2.out;omega
          case rel=>exact ⟨(wrap64 (x3_2+1)),fg,H',⟨by have:=HJ1.out;have:=HK2.out;omega⟩,by repeat (first|exact Drawn0.refl _|apply Drawn0.step)⟩
         ·intro c20b0 H
          revert H;refine ie2 ?_ ?_
          ·intro c21b0 c21b1 H;have H':=am H;clear H;have p12:0≤(x3_2:Int):=oa;have q12:x3_2<(a0.size:Int):=oa;have hx12:=bt_at a0 x3_2;replace p12:=eq_true p12;replace q12:=eq_true q12
           go_wp2
           go_roundg k2
           case measure=>have:=HJ1.out;have:=HK2.out;omega
           case rel=>exact ⟨(wrap64 (x3_2+1)),fg,H',⟨by have:=HJ1.out;have:=HK2.out;omega⟩,by repeat (first|exact Drawn0.refl _|apply Drawn0.step)⟩
          ·intro c21 c21b0 c21b1 H;obtain rfl:=si H;have p12:0≤(x3_2:Int):=oa;have q12:x3_2<(a0.size:Int):=oa;have hx12:=bt_at a0 x3_2;replace p12:=eq_true p12;replace q12:=eq_true q12
           go_wp2
           go_ret
           exact ⟨fg,by repeat (first|exact Drawn0.refl _|apply Drawn0.step)⟩
        ·intro c19 H;have c19b0:decide (48≤(bt a0 x3_2))=false:=decide_eq_false c19;clear c19
         revert H;refine ie2 ?_ ?_
         ·intro c22b0 c22b1 H;have H':=am H;clear H;have p12:0≤(x3_2:Int):=oa;have q12:x3_2<(a0.size:Int):=oa;have hx12:=bt_at a0 x3_2;replace p12:=eq_true p12;replace q12:=eq_true q12
          go_wp2
          go_roundg k2
          case measure=>have:=HJ1.out;have:=HK2.out;omega
          case rel=>exact ⟨(wrap64 (x3_2+1)),fg,H',⟨by have:=HJ1.out;have:=HK2.out;omega⟩,by repeat (first|exact Drawn0.refl _|apply Drawn0.step)⟩
         ·intro c22 c22b0 c22b1 H;obtain rfl:=si H;have p12:0≤(x3_2:Int):=oa;have q12:x3_2<(a0.size:Int):=oa;have hx12:=bt_at a0 x3_2;replace p12:=eq_true p12;replace q12:=eq_true q12
          go_wp2
          go_ret
          exact ⟨fg,by repeat (first|exact Drawn0.refl _|apply Drawn0.step)⟩
      ·intro c10b0 H;obtain rfl:=si H
       go_wp2
       go_ret
       exact ⟨fg,by repeat (first|exact Drawn0.refl _|apply Drawn0.step)⟩
set_option maxHeartbeats 8000000 in
set_option maxRecDepth 100000 in
theorem spec_l01Qty.calls (a0:Int) (r:Bool) (w:World) (H:spec_l01Qty.f a0=some r) :
  Calls Tryz.prog 139 #[.int .i64 a0] w fun e w'=>e=.returned (.bool r)∧Drawn0 w w':=by
 unfold spec_l01Qty.f at H
 revert H;refine ip2 ?_ ?_
 ·intro c2 H;have c2b0:decide (1≤a0)=true:=decide_eq_true c2;clear c2;obtain rfl:=si H
  go_in
  go_wp2
  go_ret
  exact ⟨fg,by repeat (first|exact Drawn0.refl _|apply Drawn0.step)⟩
 ·intro c2 H;have c2b0:decide (1≤a0)=false:=decide_eq_false c2;clear c2;obtain rfl:=si H
  go_in
  go_wp2
  go_ret
  exact ⟨fg,by repeat (first|exact Drawn0.refl _|apply Drawn0.step)⟩
set_option maxHeartbeats 8000000 in
set_option maxRecDepth 100000 in
theorem spec_l01Day.calls (a0:Int) (r:Bool) (w:World) (H:spec_l01Day.f a0=some r) :
  Calls Tryz.prog 140 #[.int .i64 a0] w fun e w'=>e=.returned (.bool r)∧Drawn0 w w':=by
 unfold spec_l01Day.f at H
 revert H;refine ip2 ?_ ?_
 ·intro c2 H;have c2b0:decide (0≤a0)=true:=decide_eq_true c2;clear c2;obtain rfl:=si H
  go_in
  go_wp2
  go_ret
  exact ⟨fg,by repeat (first|exact Drawn0.refl _|apply Drawn0.step)⟩
 ·intro c2 H;have c2b0:decide (0≤a0)=false:=decide_eq_false c2;clear c2;obtain rfl:=si H
  go_in
  go_wp2
  go_ret
  exact ⟨fg,by repeat (first|exact Drawn0.refl _|apply Drawn0.step)⟩
set_option maxHeartbeats 8000000 in
set_option maxRecDepth 100000 in
theorem spec_l04Element.calls (k:Nat) (a0:Int) (A1_0:Option Addr) (c1_0:Nat) (l1_0:List ByteArray) (r:Bool) (w:World) (hr1_0:Kd.C Kd.string w A1_0 l1_0.length l1_0) (hc1_0:l1_0.length≤c1_0) (H:spec_l04Element.f k a0 l1_0=some r) :
  Calls Tryz.prog 123 #[.int .u8 a0,.agg #[.slice A1_0 l1_0.length c1_0]] w fun e w'=>e=.returned (.bool r)∧Below w.heap.size w w':=by
 have hu103:=Tryz.underlying103;have HR1_0:=am hr1_0;have HC1_0:=am hc1_0;clear hr1_0 hc1_0;have HB:=am (Below.refl w.heap.size w);unfold spec_l04Element.f at H
 revert H;refine ie2 ?_ ?_
 ·intro c3b0 c3b1 H
  revert H;refine id1k ?_
  intro c4 c4b0 H;have c4b1:decide (0<l1_0.length)=true:=decide_eq_true (by omega);clear c4;replace H:=bo H;obtain ⟨⟨t291,t292⟩,A5,H⟩:=H;(try dsimp only at H)
  go_in
  try go_wp2_with (first|((with_reducible refine gate_dst (N:=3) rfl ?_);refine bx 3 (cs:=#[.slice A1_0 l1_0.length c1_0]) (t:=103) ?_;intro gb289 hg w6 hbox hb;have BK289:=am (hbox);have GW289:=am ((gs hg (bs HB)));have GE289:=am ((gs hg (bs HB)));replace HB:=am (below_step (bs HB) hb);clear hb hbox hg;have hcz7:=cf1 BK289;have p290:0≤(0:Int):=(by omega);have q290:0<(l1_0.length:Int):=oa;obtain ⟨ad290,e290,hx290_0⟩:=Kd.at_string HR1_0.out 0 p290 q290;cases e290;have qi290:(0<l1_0.length)=True:=eq_true (by omega);(try rw [show ((0:Int)).toNat=0 from rfl] at hx290_0);(try rw [Addr.add_zero'] at hx290_0);replace hx290_0:=cb HB hx290_0;replace p290:=eq_true p290;replace q290:=eq_true q290))
  go_at_call 97;(with_reducible refine (spec_l01Num.calls k (rdOf ByteArray.empty l1_0 0) t291 t292 _ A5.out).mono ?_);rintro e w8 ⟨rfl,hb⟩;replace BK289:=am (blk_below (ks BK289) hb);replace HB:=am (below_step (bs HB) hb);(try clear hb);(try clear hb2);(try clear hk);(try clear hi)
  revert H;refine ie2 ?_ ?_
  ·intro c9b0 c9b1 H;replace H:=bo H;obtain ⟨t293,A10,H⟩:=H;obtain rfl:=si H
   go_wp2_with (first|((first|((with_reducible refine gate_callee (f:=138) rfl ?_);refine goesL_ (some 25) rfl rfl Tryz.func138 (by kernel_rfl) rfl #[.string (rdOf ByteArray.empty l1_0 0)] rfl (by (try simp only [List.map_toArray,List.map_cons,List.map_nil]);first|done|rfl|(simp only [List.length_drop,List.length_take];rfl)) ?_;(with_reducible refine (spec_l01Name.calls k (rdOf ByteArray.empty l1_0 0) t293 _ A10.out).mono ?_);rintro e w' ⟨rfl,⟨nd,rfl⟩⟩;refine ⟨_,rfl,?_⟩)|(go_at_call 138;(with_reducible refine (spec_l01Name.calls k (rdOf ByteArray.empty l1_0 0) t293 _ A10.out).mono ?_);rintro e w' ⟨rfl,⟨nd,rfl⟩⟩))))
   go_ret
   exact ⟨ff,bs HB⟩
  ·intro c9 c9b0 c9b1 H
   revert H;refine ie2 ?_ ?_
   ·intro c11b0 c11b1 H
    obtain rfl|rfl:=bt t292
    ·replace H:=itT H
     revert H;refine ip2 ?_ ?_
     ·intro c13 H;have c13b0:decide (0≤t291)=true:=decide_eq_true c13;clear c13;obtain rfl:=si H
      go_wp2
      go_ret
      exact ⟨ff,bs HB⟩
     ·intro c13 H;have c13b0:decide (0≤t291)=false:=decide_eq_false c13;clear c13;obtain rfl:=si H
      go_wp2
      go_ret
      exact ⟨ff,bs HB⟩
    ·replace H:=itF H;obtain rfl:=si H
     go_wp2
     go_ret
     exact ⟨ff,bs HB⟩
   ·intro c11 c11b0 c11b1 H
    revert H;refine ie2 ?_ ?_
    ·intro c14b0 c14b1 H
     obtain rfl|rfl:=bt t292
     ·replace H:=itT H;replace H:=bo H;obtain ⟨t294,A16,H⟩:=H;obtain rfl:=si H
      go_wp2_with (first|(go_at_call 139;(with_reducible refine (spec_l01Qty.calls t291 t294 _ A16.out).mono ?_);rintro e w' ⟨rfl,⟨nd,rfl⟩⟩))
      go_ret
      exact ⟨ff,bs HB⟩
     ·replace H:=itF H;obtain rfl:=si H
      go_wp2
      go_ret
      exact ⟨ff,bs HB⟩
    ·intro c14 c14b0 c14b1 H
     revert H;refine ie2 ?_ ?_
     ·intro c17b0 c17b1 H
      obtain rfl|rfl:=bt t292
      ·replace H:=itT H
       revert H;refine ip2 ?_ ?_
       ·intro c19 H;have c19b0:decide ((-1000000)≤t291)=true:=decide_eq_true c19;clear c19
        revert H;refine id2 ?_ ?_
        ·intro c20b0 H;obtain rfl:=si H
         go_wp2
         go_ret
         exact ⟨ff,bs HB⟩
        ·intro c20b0 H;obtain rfl:=si H
         go_wp2
         go_ret
         exact ⟨ff,bs HB⟩
       ·intro c19 H;have c19b0:decide ((-1000000)≤t291)=false:=decide_eq_false c19;clear c19;obtain rfl:=si H
        go_wp2
        go_ret
        exact ⟨ff,bs HB⟩
      ·replace H:=itF H;obtain rfl:=si H
       go_wp2
       go_ret
       exact ⟨ff,bs HB⟩
     ·intro c17 c17b0 c17b1 H
      revert H;refine ie2 ?_ ?_
      ·intro c21b0 c21b1 H
       obtain rfl|rfl:=bt t292
       ·replace H:=itT H;replace H:=bo H;obtain ⟨t295,A23,H⟩:=H;obtain rfl:=si H
        go_wp2_with (first|(go_at_call 140;(with_reducible refine (spec_l01Day.calls t291 t295 _ A23.out).mono ?_);rintro e w' ⟨rfl,⟨nd,rfl⟩⟩))
        go_ret
        exact ⟨ff,bs HB⟩
       ·replace H:=itF H;obtain rfl:=si H
        go_wp2
        go_ret
        exact ⟨ff,bs HB⟩
      ·intro c21 c21b0 c21b1 H
       revert H;refine in2 ?_ ?_
       ·intro c24b0 c24b1 c24b2 H;obtain rfl:=si H
        go_wp2
        go_ret
        exact ⟨ff,bs HB⟩
       ·intro c24 c24b0 c24b1 c24b2 H;replace H:=bo H;obtain ⟨t296,A25,H⟩:=H;obtain rfl:=si H
        go_wp2_with (first|(go_at_call 78;(with_reducible refine (spec_l02Part.calls k (rdOf ByteArray.empty l1_0 0) t296 _ A25.out).mono ?_);rintro e w' ⟨rfl,⟨nd,rfl⟩⟩))
        go_ret
        exact ⟨ff,bs HB⟩
 ·intro c3 c3b0 c3b1 H;obtain rfl:=si H
  go_in
  go_wp2_with (first|((with_reducible refine gate_dst (N:=3) rfl ?_);refine bx 3 (cs:=#[.slice A1_0 l1_0.length c1_0]) (t:=103) ?_;intro gb289 hg w26 hbox hb;have BK289:=am (hbox);have GW289:=am ((gs hg (bs HB)));have GE289:=am ((gs hg (bs HB)));replace HB:=am (below_step (bs HB) hb);clear hb hbox hg;have hcz27:=cf1 BK289))
  go_ret
  exact ⟨ff,bs HB⟩
end Go.Proofs.YtogkcllenfkdmaaGreatDoor.QR
