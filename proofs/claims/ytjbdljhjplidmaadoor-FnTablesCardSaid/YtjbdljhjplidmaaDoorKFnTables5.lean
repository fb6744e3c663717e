-- Merged by a program of this session (wip/tool/pack.py) out of its own texts for this claim.
import Derived.Test.YtjbdljhjplidmaaDoorKFnTables0
import Derived.Test.YtjbdljhjplidmaaDoorKFnTables1
import Derived.Test.YtjbdljhjplidmaaDoorKFnTables2
import Derived.Test.YtjbdljhjplidmaaDoorKFnTables3
import Derived.Test.YtjbdljhjplidmaaDoorKFnTables4
namespace Go.Proofs.YtjbdljhjplidmaaDoor.QF
open Go.RowKit Go.Proofs.YtjbdljhjplidmaaDoorW.PrintWords Go.Proofs.YtjbdljhjplidmaaDoorW.PrintLast Go.Proofs.YtjbdljhjplidmaaDoorW.PrintMore
attribute [local go_sem] max2_int min2_int max_two min_two max_three min_three max_four min_four   -- for this text's walks alone
set_option linter.unusedVariables false
set_option linter.unusedSimpArgs false
set_option maxHeartbeats 8000000 in
set_option maxRecDepth 100000 in
theorem spec_TableOf.calls (k:Nat) (a0:Int) (r:List (S57)) (w:World) (h:spec_TableOf.f k a0=some r) :
  Calls Tryd.prog 37 #[.int .i64 a0] w fun e w'=>∃ v0_:Value,e=.returned (v0_)∧Kd.R k57 57 w' w.heap.size (fun _=>True) v0_ r∧Below w.heap.size w w':=by
 have hu57:=Tryd.underlying57;have HB:=am (Below.refl w.heap.size w);have H:(if a0=1 then (some (([(⟨(⟨#[68,79,67]⟩:ByteArray),1,1,(⟨#[114,100]⟩:ByteArray)⟩:S57),(⟨(⟨#[78,79,84]⟩:ByteArray),0,2,(⟨#[116]⟩:ByteArray)⟩:S57),(⟨(⟨#[76,73,78]⟩:ByteArray),1,20,(⟨#[110,114,113,63,110]⟩:ByteArray)⟩:S57)]:List (S57)))) else (if a0=2 then (spec_TableOf.j0 k a0 (a0 == 2) (⟨#[68,79,67]⟩:ByteArray) 1 1 (⟨#[114,100]⟩:ByteArray) (⟨#[68,79,67]⟩:ByteArray) 1 1 (⟨#[114,114,100]⟩:ByteArray) (⟨#[78,79,84]⟩:ByteArray) 0 2 (⟨#[116]⟩:ByteArray)) else (spec_TableOf.j0 k a0 (a0 == 4) (⟨#[68,79,67]⟩:ByteArray) 1 1 (⟨#[114,100]⟩:ByteArray) (⟨#[68,79,67]⟩:ByteArray) 1 1 (⟨#[114,114,100]⟩:ByteArray) (⟨#[78,79,84]⟩:ByteArray) 0 2 (⟨#[116]⟩:ByteArray))))=some r:=h;clear h
 by_cases c2:a0=1
 ·rw [if_pos c2] at H;have c2b0:(a0 == 1)=true:=beq_iff_eq.mpr c2;have c2b1:(a0 != 1)=false:=bne_eq_false_iff_eq.mpr c2;clear c2;obtain ⟨y147,hy147⟩:∃ y_:List (S57),y_=(([(⟨(⟨#[68,79,67]⟩:ByteArray),1,1,(⟨#[114,100]⟩:ByteArray)⟩:S57),(⟨(⟨#[78,79,84]⟩:ByteArray),0,2,(⟨#[116]⟩:ByteArray)⟩:S57),(⟨(⟨#[76,73,78]⟩:ByteArray),1,20,(⟨#[110,114,113,63,110]⟩:ByteArray)⟩:S57)]:List (S57))):=⟨_,rfl⟩
  replace H:(some y147)=some r:=by first|(rw [hy147];with_reducible exact H)|(have H2_:=(Option.bind_some _ _).symm.trans H;rw [hy147];with_reducible exact H2_)|(have H2_:=(Option.bind_some _ _).symm.trans H;with_reducible exact H2_)|with_reducible exact H|(rw [hy147];exact H)|exact H
  have Ny147:=am hy147;clear hy147;obtain rfl:=Option.some.inj H
  go_enter Tryd.func37,Tryd.ntmps37
  go_wp2_with (first|((with_reducible refine gate_dst (N:=3) rfl ?_);refine bx 3 (cs:=#[.string (⟨#[]⟩:ByteArray),.int .i64 0,.int .i64 0,.string (⟨#[]⟩:ByteArray)]) (t:=57) ?_;intro gb144 hg w3 hbox hb;have BK144:=am (hbox);have GW144:=am ((gs hg (bs HB)));have GE144:=am ((gs hg (bs HB)));replace HB:=am (below_step (bs HB) hb);clear hb hbox hg;have hcz4_0:w3.cell? ⟨gb144,0,none⟩=some (.string (⟨#[]⟩:ByteArray)):=(blk_cell BK144.out 0).trans rfl;have hcz4_1:w3.cell? ⟨gb144,1,none⟩=some (.int .i64 0):=(blk_cell BK144.out 1).trans rfl;have hcz4_2:w3.cell? ⟨gb144,2,none⟩=some (.int .i64 0):=(blk_cell BK144.out 2).trans rfl;have hcz4_3:w3.cell? ⟨gb144,3,none⟩=some (.string (⟨#[]⟩:ByteArray)):=(blk_cell BK144.out 3).trans rfl;have hfz4_0:=blk_frozen BK144.out 0;have hfz4_1:=blk_frozen BK144.out 1;have hfz4_2:=blk_frozen BK144.out 2;have hfz4_3:=blk_frozen BK144.out 3)|((with_reducible refine gate_dst (N:=4) rfl ?_);refine bx 4 (cs:=#[.string (⟨#[]⟩:ByteArray),.int .i64 0,.int .i64 0,.string (⟨#[]⟩:ByteArray)]) (t:=57) ?_;intro gb145 hg w5 hbox hb;have BK145:=am (hbox);have GW145:=am ((gs hg (bs HB)));have GE145:=am ((gs hg (bs HB)));replace HB:=am (below_step (bs HB) hb);have NB144_145:=am ((gn hg (kp BK144)));have NB145_144:=am ((gm hg (kp BK144)));replace BK144:=am (blk_below (g:=gb144) (o:=.cells #[.string (⟨#[68,79,67]⟩:ByteArray),.int .i64 1,.int .i64 1,.string (⟨#[114,100]⟩:ByteArray)] 57 (0,0)) (kp BK144) hb);clear hb hbox hg;have hnb6:=NB145_144.out;have hnc6:=NB144_145.out;have hcz7_0:w5.cell? ⟨gb145,0,none⟩=some (.string (⟨#[]⟩:ByteArray)):=(blk_cell BK145.out 0).trans rfl;have hcz7_1:w5.cell? ⟨gb145,1,none⟩=some (.int .i64 0):=(blk_cell BK145.out 1).trans rfl;have hcz7_2:w5.cell? ⟨gb145,2,none⟩=some (.int .i64 0):=(blk_cell BK145.out 2).trans rfl;have hcz7_3:w5.cell? ⟨gb145,3,none⟩=some (.string (⟨#[]⟩:ByteArray)):=(blk_cell BK145.out 3).trans rfl;have hfz7_0:=blk_frozen BK145.out 0;have hfz7_1:=blk_frozen BK145.out 1;have hfz7_2:=blk_frozen BK145.out 2;have hfz7_3:=blk_frozen BK145.out 3)|((with_reducible refine gate_dst (N:=5) rfl ?_);refine bx 5 (cs:=#[.string (⟨#[]⟩:ByteArray),.int .i64 0,.int .i64 0,.string (⟨#[]⟩:ByteArray)]) (t:=57) ?_;intro gb146 hg w8 hbox hb;have BK146:=am (hbox);have GW146:=am ((gs hg (bs HB)));have GE146:=am ((gs hg (bs HB)));replace HB:=am (below_step (bs HB) hb);have NB144_146:=am ((gn hg (ks BK144)));have NB146_144:=am ((gm hg (ks BK144)));replace BK144:=am (blk_below (g:=gb144) (o:=.cells #[.string (⟨#[68,79,67]⟩:ByteArray),.int .i64 1,.int .i64 1,.string (⟨#[114,100]⟩:ByteArray)] 57 (0,0)) (ks BK144) hb);have NB145_146:=am ((gn hg (kp BK145)));have NB146_145:=am ((gm hg (kp BK145)));replace BK145:=am (blk_below (g:=gb145) (o:=.cells #[.string (⟨#[68,79,67]⟩:ByteArray),.int .i64 1,.int .i64 1,.string (⟨#[114,114,100]⟩:ByteArray)] 57 (0,0)) (kp BK145) hb);clear hb hbox hg;have hnb9:=NB146_144.out;have hnc9:=NB144_146.out;have hnb10:=NB146_145.out;have hnc10:=NB145_146.out;obtain ⟨hcz11_0,hcz11_1,hcz11_2,hcz11_3,hfz11_0,hfz11_1,hfz11_2,hfz11_3⟩:=cf4 BK146;have hcz12_0:w8.cell? ⟨gb144,0,none⟩=some (.string (⟨#[68,79,67]⟩:ByteArray)):=(blk_cell BK144.out 0).trans rfl;have hcz12_1:w8.cell? ⟨gb144,1,none⟩=some (.int .i64 1):=(blk_cell BK144.out 1).trans rfl;have hcz12_2:w8.cell? ⟨gb144,2,none⟩=some (.int .i64 1):=(blk_cell BK144.out 2).trans rfl;have hcz12_3:w8.cell? ⟨gb144,3,none⟩=some (.string (⟨#[114,100]⟩:ByteArray)):=(blk_cell BK144.out 3).trans rfl;have hfz12_0:=blk_frozen BK144.out 0;have hfz12_1:=blk_frozen BK144.out 1;have hfz12_2:=blk_frozen BK144.out 2;have hfz12_3:=blk_frozen BK144.out 3)|((with_reducible refine gate_dst (N:=15) rfl ?_);refine Kd.R_lit k57 _ 57 ?hg (N:=15) ?hd (xs:=([(⟨(⟨#[68,79,67]⟩:ByteArray),1,1,(⟨#[114,100]⟩:ByteArray)⟩:S57),(⟨(⟨#[78,79,84]⟩:ByteArray),0,2,(⟨#[116]⟩:ByteArray)⟩:S57),(⟨(⟨#[76,73,78]⟩:ByteArray),1,20,(⟨#[110,114,113,63,110]⟩:ByteArray)⟩:S57)]:List (S57))) (inner:=[.string (⟨#[68,79,67]⟩:ByteArray),.int .i64 1,.int .i64 1,.string (⟨#[114,100]⟩:ByteArray),.string (⟨#[78,79,84]⟩:ByteArray),.int .i64 0,.int .i64 2,.string (⟨#[116]⟩:ByteArray),.string (⟨#[76,73,78]⟩:ByteArray),.int .i64 1,.int .i64 20,.string (⟨#[110,114,113,63,110]⟩:ByteArray)]) (ok:=fun _=>True) (okp:=fun _=>True) ?hr ?hp (fun _ hk=>hk) trivial (Below.refl _ _) (Nat.le_refl _) (by simp) ?_;(case hd=>rfl);(case hg=>rfl);(case hr=>first|(go_simp;done)|(go_simp;rfl));(case hp=>exact (Reps.c4 (show Kd.M k57 _ _ _ (⟨(⟨#[68,79,67]⟩:ByteArray),1,1,(⟨#[114,100]⟩:ByteArray)⟩:S57) [.string (⟨#[68,79,67]⟩:ByteArray),.int .i64 1,.int .i64 1,.string (⟨#[114,100]⟩:ByteArray)] from (k57_mkM _ _ _ (⟨(⟨#[68,79,67]⟩:ByteArray),1,1,(⟨#[114,100]⟩:ByteArray)⟩:S57) )) (Reps.c4 (show Kd.M k57 _ _ _ (⟨(⟨#[78,79,84]⟩:ByteArray),0,2,(⟨#[116]⟩:ByteArray)⟩:S57) [.string (⟨#[78,79,84]⟩:ByteArray),.int .i64 0,.int .i64 2,.string (⟨#[116]⟩:ByteArray)] from (k57_mkM _ _ _ (⟨(⟨#[78,79,84]⟩:ByteArray),0,2,(⟨#[116]⟩:ByteArray)⟩:S57) )) (Reps.c4 (show Kd.M k57 _ _ _ (⟨(⟨#[76,73,78]⟩:ByteArray),1,20,(⟨#[110,114,113,63,110]⟩:ByteArray)⟩:S57) [.string (⟨#[76,73,78]⟩:ByteArray),.int .i64 1,.int .i64 20,.string (⟨#[110,114,113,63,110]⟩:ByteArray)] from (k57_mkM _ _ _ (⟨(⟨#[76,73,78]⟩:ByteArray),1,20,(⟨#[110,114,113,63,110]⟩:ByteArray)⟩:S57) )) (Reps.none _ _)))));intro v148 w13 ho14 hb hg_ hnew_;clear hg_ hnew_;(first|rw [← Ny147.out] at ho14|(simp only [Int.reduceToNat] at ho14;rw [← Ny147.out] at ho14));have HO149:=am (Kd.R_lower (Kd.R_newB (Kd.R_newB (Kd.R_newB ho14 (g:=gb144) (o:=.cells #[.string (⟨#[68,79,67]⟩:ByteArray),.int .i64 1,.int .i64 1,.string (⟨#[114,100]⟩:ByteArray)] 57 (0,0)) (ks BK144)) (g:=gb145) (o:=.cells #[.string (⟨#[68,79,67]⟩:ByteArray),.int .i64 1,.int .i64 1,.string (⟨#[114,114,100]⟩:ByteArray)] 57 (0,0)) (ks BK145)) (g:=gb146) (o:=.cells #[.string (⟨#[78,79,84]⟩:ByteArray),.int .i64 0,.int .i64 2,.string (⟨#[116]⟩:ByteArray)] 57 (0,0)) (kp BK146)) (below_size (bs HB)));replace BK144:=am (blk_below (g:=gb144) (o:=.cells #[.string (⟨#[68,79,67]⟩:ByteArray),.int .i64 1,.int .i64 1,.string (⟨#[114,100]⟩:ByteArray)] 57 (0,0)) (ks BK144) hb);replace BK145:=am (blk_below (g:=gb145) (o:=.cells #[.string (⟨#[68,79,67]⟩:ByteArray),.int .i64 1,.int .i64 1,.string (⟨#[114,114,100]⟩:ByteArray)] 57 (0,0)) (ks BK145) hb);replace BK146:=am (blk_below (g:=gb146) (o:=.cells #[.string (⟨#[78,79,84]⟩:ByteArray),.int .i64 0,.int .i64 2,.string (⟨#[116]⟩:ByteArray)] 57 (0,0)) (kp BK146) hb);replace HB:=am (below_step (bs HB) hb);clear hb ho14))
  go_ret
  exact ⟨_,ff,by (with_reducible repeat (first|apply Kd.R_alloc|apply Kd.R_drewN|apply Kd.R_drew));exact Kd.R_mono HO149.out (fun _ hk=>trivial),bs HB⟩
 ·rw [if_neg c2] at H;have c2b0:(a0 == 1)=false:=beq_eq_false_iff_ne.mpr c2;have c2b1:(a0 != 1)=true:=bne_iff_ne.mpr c2;have HC15:=am H;clear H
  go_enter Tryd.func37,Tryd.ntmps37
  go_upto_if 16 with (first|((with_reducible refine gate_dst (N:=3) rfl ?_);refine bx 3 (cs:=#[.string (⟨#[]⟩:ByteArray),.int .i64 0,.int .i64 0,.string (⟨#[]⟩:ByteArray)]) (t:=57) ?_;intro gb144 hg w16 hbox hb;have BK144:=am (hbox);have GW144:=am ((gs hg (bs HB)));have GE144:=am ((gs hg (bs HB)));replace HB:=am (below_step (bs HB) hb);clear hb hbox hg;have hcz17_0:w16.cell? ⟨gb144,0,none⟩=some (.string (⟨#[]⟩:ByteArray)):=(blk_cell BK144.out 0).trans rfl;have hcz17_1:w16.cell? ⟨gb144,1,none⟩=some (.int .i64 0):=(blk_cell BK144.out 1).trans rfl;have hcz17_2:w16.cell? ⟨gb144,2,none⟩=some (.int .i64 0):=(blk_cell BK144.out 2).trans rfl;have hcz17_3:w16.cell? ⟨gb144,3,none⟩=some (.string (⟨#[]⟩:ByteArray)):=(blk_cell BK144.out 3).trans rfl;have hfz17_0:=blk_frozen BK144.out 0;have hfz17_1:=blk_frozen BK144.out 1;have hfz17_2:=blk_frozen BK144.out 2;have hfz17_3:=blk_frozen BK144.out 3)|((with_reducible refine gate_dst (N:=4) rfl ?_);refine bx 4 (cs:=#[.string (⟨#[]⟩:ByteArray),.int .i64 0,.int .i64 0,.string (⟨#[]⟩:ByteArray)]) (t:=57) ?_;intro gb145 hg w18 hbox hb;have BK145:=am (hbox);have GW145:=am ((gs hg (bs HB)));have GE145:=am ((gs hg (bs HB)));replace HB:=am (below_step (bs HB) hb);have NB144_145:=am ((gn hg (kp BK144)));have NB145_144:=am ((gm hg (kp BK144)));replace BK144:=am (blk_below (g:=gb144) (o:=.cells #[.string (⟨#[68,79,67]⟩:ByteArray),.int .i64 1,.int .i64 1,.string (⟨#[114,100]⟩:ByteArray)] 57 (0,0)) (kp BK144) hb);clear hb hbox hg;have hnb19:=NB145_144.out;have hnc19:=NB144_145.out;have hcz20_0:w18.cell? ⟨gb145,0,none⟩=some (.string (⟨#[]⟩:ByteArray)):=(blk_cell BK145.out 0).trans rfl;have hcz20_1:w18.cell? ⟨gb145,1,none⟩=some (.int .i64 0):=(blk_cell BK145.out 1).trans rfl;have hcz20_2:w18.cell? ⟨gb145,2,none⟩=some (.int .i64 0):=(blk_cell BK145.out 2).trans rfl;have hcz20_3:w18.cell? ⟨gb145,3,none⟩=some (.string (⟨#[]⟩:ByteArray)):=(blk_cell BK145.out 3).trans rfl;have hfz20_0:=blk_frozen BK145.out 0;have hfz20_1:=blk_frozen BK145.out 1;have hfz20_2:=blk_frozen BK145.out 2;have hfz20_3:=blk_frozen BK145.out 3)|((with_reducible refine gate_dst (N:=5) rfl ?_);refine bx 5 (cs:=#[.string (⟨#[]⟩:ByteArray),.int .i64 0,.int .i64 0,.string (⟨#[]⟩:ByteArray)]) (t:=57) ?_;intro gb146 hg w21 hbox hb;have BK146:=am (hbox);have GW146:=am ((gs hg (bs HB)));have GE146:=am ((gs hg (bs HB)));replace HB:=am (below_step (bs HB) hb);have NB144_146:=am ((gn hg (ks BK144)));have NB146_144:=am ((gm hg (ks BK144)));replace BK144:=am (blk_below (g:=gb144) (o:=.cells #[.string (⟨#[68,79,67]⟩:ByteArray),.int .i64 1,.int .i64 1,.string (⟨#[114,100]⟩:ByteArray)] 57 (0,0)) (ks BK144) hb);have NB145_146:=am ((gn hg (kp BK145)));have NB146_145:=am ((gm hg (kp BK145)));replace BK145:=am (blk_below (g:=gb145) (o:=.cells #[.string (⟨#[68,79,67]⟩:ByteArray),.int .i64 1,.int .i64 1,.string (⟨#[114,114,100]⟩:ByteArray)] 57 (0,0)) (kp BK145) hb);clear hb hbox hg;have hnb22:=NB146_144.out;have hnc22:=NB144_146.out;have hnb23:=NB146_145.out;have hnc23:=NB145_146.out;obtain ⟨hcz24_0,hcz24_1,hcz24_2,hcz24_3,hfz24_0,hfz24_1,hfz24_2,hfz24_3⟩:=cf4 BK146))
  (try simp only [Act.put,List.setIfInBounds_toArray,List.set_cons_zero,List.set_cons_succ])
  go_cut [16] (fun v16 wc=>∃ (kq:Nat) (x16_14:Bool),v16=.bool x16_14∧Aside0 (spec_TableOf.j0 kq a0 x16_14 (⟨#[68,79,67]⟩:ByteArray) 1 1 (⟨#[114,100]⟩:ByteArray) (⟨#[68,79,67]⟩:ByteArray) 1 1 (⟨#[114,114,100]⟩:ByteArray) (⟨#[78,79,84]⟩:ByteArray) 0 2 (⟨#[116]⟩:ByteArray)=some r)∧Aside0 (kq≤k)∧Aside0 (wc.heap[gb144]? = some (.cells #[.string (⟨#[68,79,67]⟩:ByteArray),.int .i64 1,.int .i64 1,.string (⟨#[114,100]⟩:ByteArray)] 57 (0,0)))∧Aside0 (wc.heap[gb145]? = some (.cells #[.string (⟨#[68,79,67]⟩:ByteArray),.int .i64 1,.int .i64 1,.string (⟨#[114,114,100]⟩:ByteArray)] 57 (0,0)))∧Aside0 (wc.heap[gb146]? = some (.cells #[.string (⟨#[78,79,84]⟩:ByteArray),.int .i64 0,.int .i64 2,.string (⟨#[116]⟩:ByteArray)] 57 (0,0)))∧Aside0 (Below w.heap.size w wc))
  case first =>
   have H:=HC15.out;clear HC15
   by_cases c25:a0=2
   ·rw [if_pos c25] at H;have c25b0:(a0 == 2)=true:=beq_iff_eq.mpr c25;have c25b1:(a0 != 2)=false:=bne_eq_false_iff_eq.mpr c25;clear c25
    (first|rw [c25b0]|(simp only [i64_w,i32_w];rw [c25b0])|skip)
    have H':=am H;clear H
    go_wp2
    go_meet
    case rel=>exact ⟨_,((a0 == 2)),fg,H',⟨fl⟩,⟨ks BK144⟩,⟨ks BK145⟩,⟨kp BK146⟩,⟨bs HB⟩⟩
   ·rw [if_neg c25] at H;have c25b0:(a0 == 2)=false:=beq_eq_false_iff_ne.mpr c25;have c25b1:(a0 != 2)=true:=bne_iff_ne.mpr c25
    (first|rw [c25b0]|(simp only [i64_w,i32_w];rw [c25b0])|skip)
    have H':=am H;clear H
    go_wp2
    go_meet
    case rel=>exact ⟨_,((a0 == 4)),fg,H',⟨fl⟩,⟨ks BK144⟩,⟨ks BK145⟩,⟨kp BK146⟩,⟨bs HB⟩⟩
  case rest =>
   clear HC15
   try clear c1
   try clear c2
   try clear c2b0
   try clear c2b1
   try clear p2
   try clear c3
   try clear c4
   try clear c6
   try clear c9
   try clear c10
   try clear c19
   try clear c22
   try clear c23
   try clear c25
   try clear c25b0
   try clear c25b1
   try clear hcz11_0
   try clear hcz11_1
   try clear hcz11_2
   try clear hcz11_3
   try clear hcz12_0
   try clear hcz12_1
   try clear hcz12_2
   try clear hcz12_3
   try clear hcz17_0
   try clear hcz17_1
   try clear hcz17_2
   try clear hcz17_3
   try clear hcz20_0
   try clear hcz20_1
   try clear hcz20_2
   try clear hcz20_3
   try clear hcz24_0
   try clear hcz24_1
   try clear hcz24_2
   try clear hcz24_3
   try clear hcz4_0
   try clear hcz4_1
   try clear hcz4_2
   try clear hcz4_3
   try clear hcz7_0
   try clear hcz7_1
   try clear hcz7_2
   try clear hcz7_3
   try clear hfz11_0
   try clear hfz11_1
   try clear hfz11_2
   try clear hfz11_3
   try clear hfz12_0
   try clear hfz12_1
   try clear hfz12_2
   try clear hfz12_3
   try clear hfz17_0
   try clear hfz17_1
   try clear hfz17_2
   try clear hfz17_3
   try clear hfz20_0
   try clear hfz20_1
   try clear hfz20_2
   try clear hfz20_3
   try clear hfz24_0
   try clear hfz24_1
   try clear hfz24_2
   try clear hfz24_3
   try clear hfz4_0
   try clear hfz4_1
   try clear hfz4_2
   try clear hfz4_3
   try clear hfz7_0
   try clear hfz7_1
   try clear hfz7_2
   try clear hfz7_3
   obtain ⟨kq,x16_14,rfl,HA,HJ14,BK144,BK145,BK146,HB⟩:=hcut
   cases kq with
   | zero=>exact absurd HA.out (by simp [spec_TableOf.j0])
   | succ kj14 =>
    have H:=HA.out;clear HA;simp only [spec_TableOf.j0] at H
    by_cases c26:x16_14=true
    ·subst c26
     have H1:(some (([(⟨(⟨#[68,79,67]⟩:ByteArray),1,1,(⟨#[114,114,100]⟩:ByteArray)⟩:S57),(⟨(⟨#[76,73,78]⟩:ByteArray),1,20,(⟨#[110,113,63,116]⟩:ByteArray)⟩:S57)]:List (S57))))=some r:=by rw [if_pos rfl] at H;exact H
     clear H;have H:=H1;clear H1;obtain ⟨y150,hy150⟩:∃ y_:List (S57),y_=(([(⟨(⟨#[68,79,67]⟩:ByteArray),1,1,(⟨#[114,114,100]⟩:ByteArray)⟩:S57),(⟨(⟨#[76,73,78]⟩:ByteArray),1,20,(⟨#[110,113,63,116]⟩:ByteArray)⟩:S57)]:List (S57))):=⟨_,rfl⟩
     replace H:(some y150)=some r:=by first|(rw [hy150];with_reducible exact H)|(have H2_:=(Option.bind_some _ _).symm.trans H;rw [hy150];with_reducible exact H2_)|(have H2_:=(Option.bind_some _ _).symm.trans H;with_reducible exact H2_)|with_reducible exact H|(rw [hy150];exact H)|exact H
     have Ny150:=am hy150;clear hy150;obtain rfl:=Option.some.inj H;have hnb27:=NB145_144.out;have hnc27:=NB144_145.out;have hnb28:=NB145_146.out;have hnc28:=NB146_145.out;obtain ⟨hcz29_0,hcz29_1,hcz29_2,hcz29_3,hfz29_0,hfz29_1,hfz29_2,hfz29_3⟩:=cf4 BK145
     go_wp2_with (first|((with_reducible refine gate_dst (N:=21) rfl ?_);refine Kd.R_lit k57 _ 57 ?hg (N:=21) ?hd (xs:=([(⟨(⟨#[68,79,67]⟩:ByteArray),1,1,(⟨#[114,114,100]⟩:ByteArray)⟩:S57),(⟨(⟨#[76,73,78]⟩:ByteArray),1,20,(⟨#[110,113,63,116]⟩:ByteArray)⟩:S57)]:List (S57))) (inner:=[.string (⟨#[68,79,67]⟩:ByteArray),.int .i64 1,.int .i64 1,.string (⟨#[114,114,100]⟩:ByteArray),.string (⟨#[76,73,78]⟩:ByteArray),.int .i64 1,.int .i64 20,.string (⟨#[110,113,63,116]⟩:ByteArray)]) (ok:=fun _=>True) (okp:=fun _=>True) ?hr ?hp (fun _ hk=>hk) trivial (Below.refl _ _) (Nat.le_refl _) (by simp) ?_;(case hd=>rfl);(case hg=>rfl);(case hr=>first|(go_simp;done)|(go_simp;rfl));(case hp=>exact (Reps.c4 (show Kd.M k57 _ _ _ (⟨(⟨#[68,79,67]⟩:ByteArray),1,1,(⟨#[114,114,100]⟩:ByteArray)⟩:S57) [.string (⟨#[68,79,67]⟩:ByteArray),.int .i64 1,.int .i64 1,.string (⟨#[114,114,100]⟩:ByteArray)] from (k57_mkM _ _ _ (⟨(⟨#[68,79,67]⟩:ByteArray),1,1,(⟨#[114,114,100]⟩:ByteArray)⟩:S57) )) (Reps.c4 (show Kd.M k57 _ _ _ (⟨(⟨#[76,73,78]⟩:ByteArray),1,20,(⟨#[110,113,63,116]⟩:ByteArray)⟩:S57) [.string (⟨#[76,73,78]⟩:ByteArray),.int .i64 1,.int .i64 20,.string (⟨#[110,113,63,116]⟩:ByteArray)] from (k57_mkM _ _ _ (⟨(⟨#[76,73,78]⟩:ByteArray),1,20,(⟨#[110,113,63,116]⟩:ByteArray)⟩:S57) )) (Reps.none _ _))));intro v151 w30 ho31 hb hg_ hnew_;clear hg_ hnew_;(first|rw [← Ny150.out] at ho31|(simp only [Int.reduceToNat] at ho31;rw [← Ny150.out] at ho31));have HO152:=am (Kd.R_lower (Kd.R_newB (Kd.R_newB (Kd.R_newB ho31 (g:=gb144) (o:=.cells #[.string (⟨#[68,79,67]⟩:ByteArray),.int .i64 1,.int .i64 1,.string (⟨#[114,100]⟩:ByteArray)] 57 (0,0)) (ks BK144)) (g:=gb145) (o:=.cells #[.string (⟨#[68,79,67]⟩:ByteArray),.int .i64 1,.int .i64 1,.string (⟨#[114,114,100]⟩:ByteArray)] 57 (0,0)) (ks BK145)) (g:=gb146) (o:=.cells #[.string (⟨#[78,79,84]⟩:ByteArray),.int .i64 0,.int .i64 2,.string (⟨#[116]⟩:ByteArray)] 57 (0,0)) (ks BK146)) (below_size (bs HB)));replace BK144:=am (blk_below (g:=gb144) (o:=.cells #[.string (⟨#[68,79,67]⟩:ByteArray),.int .i64 1,.int .i64 1,.string (⟨#[114,100]⟩:ByteArray)] 57 (0,0)) (ks BK144) hb);replace BK145:=am (blk_below (g:=gb145) (o:=.cells #[.string (⟨#[68,79,67]⟩:ByteArray),.int .i64 1,.int .i64 1,.string (⟨#[114,114,100]⟩:ByteArray)] 57 (0,0)) (ks BK145) hb);replace BK146:=am (blk_below (g:=gb146) (o:=.cells #[.string (⟨#[78,79,84]⟩:ByteArray),.int .i64 0,.int .i64 2,.string (⟨#[116]⟩:ByteArray)] 57 (0,0)) (ks BK146) hb);replace HB:=am (below_step (bs HB) hb);clear hb ho31))
     go_ret
     exact ⟨_,ff,by (with_reducible repeat (first|apply Kd.R_alloc|apply Kd.R_drewN|apply Kd.R_drew));exact Kd.R_mono HO152.out (fun _ hk=>trivial),bs HB⟩
    ·replace c26:=Bool.eq_false_iff.mpr c26;subst c26
     have H1:(if a0=3 then (some (([(⟨(⟨#[68,79,67]⟩:ByteArray),1,1,(⟨#[114,114,100]⟩:ByteArray)⟩:S57),(⟨(⟨#[78,79,84]⟩:ByteArray),0,2,(⟨#[116]⟩:ByteArray)⟩:S57),(⟨(⟨#[76,73,78]⟩:ByteArray),1,20,(⟨#[110,113]⟩:ByteArray)⟩:S57)]:List (S57)))) else (if a0=5 then (some (([(⟨(⟨#[68,79,67]⟩:ByteArray),1,1,(⟨#[114,100]⟩:ByteArray)⟩:S57),(⟨(⟨#[73,84,77]⟩:ByteArray),1,20,(⟨#[114,110]⟩:ByteArray)⟩:S57)]:List (S57)))) else (if a0=6 then (some (([(⟨(⟨#[68,79,67]⟩:ByteArray),1,1,(⟨#[114,100]⟩:ByteArray)⟩:S57),(⟨(⟨#[73,84,77]⟩:ByteArray),1,20,(⟨#[114,122,63,116]⟩:ByteArray)⟩:S57)]:List (S57)))) else (if a0=7 then (some (([(⟨(⟨#[68,79,67]⟩:ByteArray),1,1,(⟨#[114,100]⟩:ByteArray)⟩:S57),(⟨(⟨#[65,67,75]⟩:ByteArray),1,1,(⟨#[110,110,63,110]⟩:ByteArray)⟩:S57)]:List (S57)))) else (some (([]:List (S57))))))))=some r:=by rw [if_neg (show ¬ (false=true) by decide)] at H;exact H
     clear H;have H:=H1;clear H1
     by_cases c32:a0=3
     ·rw [if_pos c32] at H;have c32b0:(a0 == 3)=true:=beq_iff_eq.mpr c32;have c32b1:(a0 != 3)=false:=bne_eq_false_iff_eq.mpr c32;clear c32;obtain ⟨y153,hy153⟩:∃ y_:List (S57),y_=(([(⟨(⟨#[68,79,67]⟩:ByteArray),1,1,(⟨#[114,114,100]⟩:ByteArray)⟩:S57),(⟨(⟨#[78,79,84]⟩:ByteArray),0,2,(⟨#[116]⟩:ByteArray)⟩:S57),(⟨(⟨#[76,73,78]⟩:ByteArray),1,20,(⟨#[110,113]⟩:ByteArray)⟩:S57)]:List (S57))):=⟨_,rfl⟩
      replace H:(some y153)=some r:=by first|(rw [hy153];with_reducible exact H)|(have H2_:=(Option.bind_some _ _).symm.trans H;rw [hy153];with_reducible exact H2_)|(have H2_:=(Option.bind_some _ _).symm.trans H;with_reducible exact H2_)|with_reducible exact H|(rw [hy153];exact H)|exact H
      have Ny153:=am hy153;clear hy153;obtain rfl:=Option.some.inj H;have hnb33:=NB145_144.out;have hnc33:=NB144_145.out;have hnb34:=NB145_146.out;have hnc34:=NB146_145.out;obtain ⟨hcz35_0,hcz35_1,hcz35_2,hcz35_3,hfz35_0,hfz35_1,hfz35_2,hfz35_3⟩:=cf4 BK145;have hnb36:=NB146_144.out;have hnc36:=NB144_146.out;obtain ⟨hcz37_0,hcz37_1,hcz37_2,hcz37_3,hfz37_0,hfz37_1,hfz37_2,hfz37_3⟩:=cf4 BK146
      go_wp2_with (first|((with_reducible refine gate_dst (N:=27) rfl ?_);refine Kd.R_lit k57 _ 57 ?hg (N:=27) ?hd (xs:=([(⟨(⟨#[68,79,67]⟩:ByteArray),1,1,(⟨#[114,114,100]⟩:ByteArray)⟩:S57),(⟨(⟨#[78,79,84]⟩:ByteArray),0,2,(⟨#[116]⟩:ByteArray)⟩:S57),(⟨(⟨#[76,73,78]⟩:ByteArray),1,20,(⟨#[110,113]⟩:ByteArray)⟩:S57)]:List (S57))) (inner:=[.string (⟨#[68,79,67]⟩:ByteArray),.int .i64 1,.int .i64 1,.string (⟨#[114,114,100]⟩:ByteArray),.string (⟨#[78,79,84]⟩:ByteArray),.int .i64 0,.int .i64 2,.string (⟨#[116]⟩:ByteArray),.string (⟨#[76,73,78]⟩:ByteArray),.int .i64 1,.int .i64 20,.string (⟨#[110,113]⟩:ByteArray)]) (ok:=fun _=>True) (okp:=fun _=>True) ?hr ?hp (fun _ hk=>hk) trivial (Below.refl _ _) (Nat.le_refl _) (by simp) ?_;(case hd=>rfl);(case hg=>rfl);(case hr=>first|(go_simp;done)|(go_simp;rfl));(case hp=>exact (Reps.c4 (show Kd.M k57 _ _ _ (⟨(⟨#[68,79,67]⟩:ByteArray),1,1,(⟨#[114,114,100]⟩:ByteArray)⟩:S57) [.string (⟨#[68,79,67]⟩:ByteArray),.int .i64 1,.int .i64 1,.string (⟨#[114,114,100]⟩:ByteArray)] from (k57_mkM _ _ _ (⟨(⟨#[68,79,67]⟩:ByteArray),1,1,(⟨#[114,114,100]⟩:ByteArray)⟩:S57) )) (Reps.c4 (show Kd.M k57 _ _ _ (⟨(⟨#[78,79,84]⟩:ByteArray),0,2,(⟨#[116]⟩:ByteArray)⟩:S57) [.string (⟨#[78,79,84]⟩:ByteArray),.int .i64 0,.int .i64 2,.string (⟨#[116]⟩:ByteArray)] from (k57_mkM _ _ _ (⟨(⟨#[78,79,84]⟩:ByteArray),0,2,(⟨#[116]⟩:ByteArray)⟩:S57) )) (Reps.c4 (show Kd.M k57 _ _ _ (⟨(⟨#[76,73,78]⟩:ByteArray),1,20,(⟨#[110,113]⟩:ByteArray)⟩:S57) [.string (⟨#[76,73,78]⟩:ByteArray),.int .i64 1,.int .i64 20,.string (⟨#[110,113]⟩:ByteArray)] from (k57_mkM _ _ _ (⟨(⟨#[76,73,78]⟩:ByteArray),1,20,(⟨#[110,113]⟩:ByteArray)⟩:S57) )) (Reps.none _ _)))));intro v154 w38 ho39 hb hg_ hnew_;clear hg_ hnew_;(first|rw [← Ny153.out] at ho39|(simp only [Int.reduceToNat] at ho39;rw [← Ny153.out] at ho39));have HO155:=am (Kd.R_lower (Kd.R_newB (Kd.R_newB (Kd.R_newB ho39 (g:=gb144) (o:=.cells #[.string (⟨#[68,79,67]⟩:ByteArray),.int .i64 1,.int .i64 1,.string (⟨#[114,100]⟩:ByteArray)] 57 (0,0)) (ks BK144)) (g:=gb145) (o:=.cells #[.string (⟨#[68,79,67]⟩:ByteArray),.int .i64 1,.int .i64 1,.string (⟨#[114,114,100]⟩:ByteArray)] 57 (0,0)) (ks BK145)) (g:=gb146) (o:=.cells #[.string (⟨#[78,79,84]⟩:ByteArray),.int .i64 0,.int .i64 2,.string (⟨#[116]⟩:ByteArray)] 57 (0,0)) (ks BK146)) (below_size (bs HB)));replace BK144:=am (blk_below (g:=gb144) (o:=.cells #[.string (⟨#[68,79,67]⟩:ByteArray),.int .i64 1,.int .i64 1,.string (⟨#[114,100]⟩:ByteArray)] 57 (0,0)) (ks BK144) hb);replace BK145:=am (blk_below (g:=gb145) (o:=.cells #[.string (⟨#[68,79,67]⟩:ByteArray),.int .i64 1,.int .i64 1,.string (⟨#[114,114,100]⟩:ByteArray)] 57 (0,0)) (ks BK145) hb);replace BK146:=am (blk_below (g:=gb146) (o:=.cells #[.string (⟨#[78,79,84]⟩:ByteArray),.int .i64 0,.int .i64 2,.string (⟨#[116]⟩:ByteArray)] 57 (0,0)) (ks BK146) hb);replace HB:=am (below_step (bs HB) hb);clear hb ho39))
      go_ret
      exact ⟨_,ff,by (with_reducible repeat (first|apply Kd.R_alloc|apply Kd.R_drewN|apply Kd.R_drew));exact Kd.R_mono HO155.out (fun _ hk=>trivial),bs HB⟩
     ·rw [if_neg c32] at H;have c32b0:(a0 == 3)=false:=beq_eq_false_iff_ne.mpr c32;have c32b1:(a0 != 3)=true:=bne_iff_ne.mpr c32
      by_cases c40:a0=5
      ·rw [if_pos c40] at H;have c40b0:(a0 == 5)=true:=beq_iff_eq.mpr c40;have c40b1:(a0 != 5)=false:=bne_eq_false_iff_eq.mpr c40;clear c40;obtain ⟨y156,hy156⟩:∃ y_:List (S57),y_=(([(⟨(⟨#[68,79,67]⟩:ByteArray),1,1,(⟨#[114,100]⟩:ByteArray)⟩:S57),(⟨(⟨#[73,84,77]⟩:ByteArray),1,20,(⟨#[114,110]⟩:ByteArray)⟩:S57)]:List (S57))):=⟨_,rfl⟩
       replace H:(some y156)=some r:=by first|(rw [hy156];with_reducible exact H)|(have H2_:=(Option.bind_some _ _).symm.trans H;rw [hy156];with_reducible exact H2_)|(have H2_:=(Option.bind_some _ _).symm.trans H;with_reducible exact H2_)|with_reducible exact H|(rw [hy156];exact H)|exact H
       have Ny156:=am hy156;clear hy156;obtain rfl:=Option.some.inj H;have hnb41:=NB144_145.out;have hnc41:=NB145_144.out;have hnb42:=NB144_146.out;have hnc42:=NB146_144.out;obtain ⟨hcz43_0,hcz43_1,hcz43_2,hcz43_3,hfz43_0,hfz43_1,hfz43_2,hfz43_3⟩:=cf4 BK144
       go_wp2_with (first|((with_reducible refine gate_dst (N:=32) rfl ?_);refine Kd.R_lit k57 _ 57 ?hg (N:=32) ?hd (xs:=([(⟨(⟨#[68,79,67]⟩:ByteArray),1,1,(⟨#[114,100]⟩:ByteArray)⟩:S57),(⟨(⟨#[73,84,77]⟩:ByteArray),1,20,(⟨#[114,110]⟩:ByteArray)⟩:S57)]:List (S57))) (inner:=[.string (⟨#[68,79,67]⟩:ByteArray),.int .i64 1,.int .i64 1,.string (⟨#[114,100]⟩:ByteArray),.string (⟨#[73,84,77]⟩:ByteArray),.int .i64 1,.int .i64 20,.string (⟨#[114,110]⟩:ByteArray)]) (ok:=fun _=>True) (okp:=fun _=>True) ?hr ?hp (fun _ hk=>hk) trivial (Below.refl _ _) (Nat.le_refl _) (by simp) ?_;(case hd=>rfl);(case hg=>rfl);(case hr=>first|(go_simp;done)|(go_simp;rfl));(case hp=>exact (Reps.c4 (show Kd.M k57 _ _ _ (⟨(⟨#[68,79,67]⟩:ByteArray),1,1,(⟨#[114,100]⟩:ByteArray)⟩:S57) [.string (⟨#[68,79,67]⟩:ByteArray),.int .i64 1,.int .i64 1,.string (⟨#[114,100]⟩:ByteArray)] from (k57_mkM _ _ _ (⟨(⟨#[68,79,67]⟩:ByteArray),1,1,(⟨#[114,100]⟩:ByteArray)⟩:S57) )) (Reps.c4 (show Kd.M k57 _ _ _ (⟨(⟨#[73,84,77]⟩:ByteArray),1,20,(⟨#[114,110]⟩:ByteArray)⟩:S57) [.string (⟨#[73,84,77]⟩:ByteArray),.int .i64 1,.int .i64 20,.string (⟨#[114,110]⟩:ByteArray)] from (k57_mkM _ _ _ (⟨(⟨#[73,84,77]⟩:ByteArray),1,20,(⟨#[114,110]⟩:ByteArray)⟩:S57) )) (Reps.none _ _))));intro v157 w44 ho45 hb hg_ hnew_;clear hg_ hnew_;(first|rw [← Ny156.out] at ho45|(simp only [Int.reduceToNat] at ho45;rw [← Ny156.out] at ho45));have HO158:=am (Kd.R_lower (Kd.R_newB (Kd.R_newB (Kd.R_newB ho45 (g:=gb144) (o:=.cells #[.string (⟨#[68,79,67]⟩:ByteArray),.int .i64 1,.int .i64 1,.string (⟨#[114,100]⟩:ByteArray)] 57 (0,0)) (ks BK144)) (g:=gb145) (o:=.cells #[.string (⟨#[68,79,67]⟩:ByteArray),.int .i64 1,.int .i64 1,.string (⟨#[114,114,100]⟩:ByteArray)] 57 (0,0)) (ks BK145)) (g:=gb146) (o:=.cells #[.string (⟨#[78,79,84]⟩:ByteArray),.int .i64 0,.int .i64 2,.string (⟨#[116]⟩:ByteArray)] 57 (0,0)) (ks BK146)) (below_size (bs HB)));replace BK144:=am (blk_below (g:=gb144) (o:=.cells #[.string (⟨#[68,79,67]⟩:ByteArray),.int .i64 1,.int .i64 1,.string (⟨#[114,100]⟩:ByteArray)] 57 (0,0)) (ks BK144) hb);replace BK145:=am (blk_below (g:=gb145) (o:=.cells #[.string (⟨#[68,79,67]⟩:ByteArray),.int .i64 1,.int .i64 1,.string (⟨#[114,114,100]⟩:ByteArray)] 57 (0,0)) (ks BK145) hb);replace BK146:=am (blk_below (g:=gb146) (o:=.cells #[.string (⟨#[78,79,84]⟩:ByteArray),.int .i64 0,.int .i64 2,.string (⟨#[116]⟩:ByteArray)] 57 (0,0)) (ks BK146) hb);replace HB:=am (below_step (bs HB) hb);clear hb ho45))
       go_ret
       exact ⟨_,ff,by (with_reducible repeat (first|apply Kd.R_alloc|apply Kd.R_drewN|apply Kd.R_drew));exact Kd.R_mono HO158.out (fun _ hk=>trivial),bs HB⟩
      ·rw [if_neg c40] at H;have c40b0:(a0 == 5)=false:=beq_eq_false_iff_ne.mpr c40;have c40b1:(a0 != 5)=true:=bne_iff_ne.mpr c40
       by_cases c46:a0=6
       ·rw [if_pos c46] at H;have c46b0:(a0 == 6)=true:=beq_iff_eq.mpr c46;have c46b1:(a0 != 6)=false:=bne_eq_false_iff_eq.mpr c46;clear c46;obtain ⟨y159,hy159⟩:∃ y_:List (S57),y_=(([(⟨(⟨#[68,79,67]⟩:ByteArray),1,1,(⟨#[114,100]⟩:ByteArray)⟩:S57),(⟨(⟨#[73,84,77]⟩:ByteArray),1,20,(⟨#[114,122,63,116]⟩:ByteArray)⟩:S57)]:List (S57))):=⟨_,rfl⟩
        replace H:(some y159)=some r:=by first|(rw [hy159];with_reducible exact H)|(have H2_:=(Option.bind_some _ _).symm.trans H;rw [hy159];with_reducible exact H2_)|(have H2_:=(Option.bind_some _ _).symm.trans H;with_reducible exact H2_)|with_reducible exact H|(rw [hy159];exact H)|exact H
        have Ny159:=am hy159;clear hy159;obtain rfl:=Option.some.inj H;have hnb47:=NB144_145.out;have hnc47:=NB145_144.out;have hnb48:=NB144_146.out;have hnc48:=NB146_144.out;obtain ⟨hcz49_0,hcz49_1,hcz49_2,hcz49_3,hfz49_0,hfz49_1,hfz49_2,hfz49_3⟩:=cf4 BK144
        go_wp2_with (first|((with_reducible refine gate_dst (N:=37) rfl ?_);refine Kd.R_lit k57 _ 57 ?hg (N:=37) ?hd (xs:=([(⟨(⟨#[68,79,67]⟩:ByteArray),1,1,(⟨#[114,100]⟩:ByteArray)⟩:S57),(⟨(⟨#[73,84,77]⟩:ByteArray),1,20,(⟨#[114,122,63,116]⟩:ByteArray)⟩:S57)]:List (S57))) (inner:=[.string (⟨#[68,79,67]⟩:ByteArray),.int .i64 1,.int .i64 1,.string (⟨#[114,100]⟩:ByteArray),.string (⟨#[73,84,77]⟩:ByteArray),.int .i64 1,.int .i64 20,.string (⟨#[114,122,63,116]⟩:ByteArray)]) (ok:=fun _=>True) (okp:=fun _=>True) ?hr ?hp (fun _ hk=>hk) trivial (Below.refl _ _) (Nat.le_refl _) (by simp) ?_;(case hd=>rfl);(case hg=>rfl);(case hr=>first|(go_simp;done)|(go_simp;rfl));(case hp=>exact (Reps.c4 (show Kd.M k57 _ _ _ (⟨(⟨#[68,79,67]⟩:ByteArray),1,1,(⟨#[114,100]⟩:ByteArray)⟩:S57) [.string (⟨#[68,79,67]⟩:ByteArray),.int .i64 1,.int .i64 1,.string (⟨#[114,100]⟩:ByteArray)] from (k57_mkM _ _ _ (⟨(⟨#[68,79,67]⟩:ByteArray),1,1,(⟨#[114,100]⟩:ByteArray)⟩:S57) )) (Reps.c4 (show Kd.M k57 _ _ _ (⟨(⟨#[73,84,77]⟩:ByteArray),1,20,(⟨#[114,122,63,116]⟩:ByteArray)⟩:S57) [.string (⟨#[73,84,77]⟩:ByteArray),.int .i64 1,.int .i64 20,.string (⟨#[114,122,63,116]⟩:ByteArray)] from (k57_mkM _ _ _ (⟨(⟨#[73,84,77]⟩:ByteArray),1,20,(⟨#[114,122,63,116]⟩:ByteArray)⟩:S57) )) (Reps.none _ _))));intro v160 w50 ho51 hb hg_ hnew_;clear hg_ hnew_;(first|rw [← Ny159.out] at ho51|(simp only [Int.reduceToNat] at ho51;rw [← Ny159.out] at ho51));have HO161:=am (Kd.R_lower (Kd.R_newB (Kd.R_newB (Kd.R_newB ho51 (g:=gb144) (o:=.cells #[.string (⟨#[68,79,67]⟩:ByteArray),.int .i64 1,.int .i64 1,.string (⟨#[114,100]⟩:ByteArray)] 57 (0,0)) (ks BK144)) (g:=gb145) (o:=.cells #[.string (⟨#[68,79,67]⟩:ByteArray),.int .i64 1,.int .i64 1,.string (⟨#[114,114,100]⟩:ByteArray)] 57 (0,0)) (ks BK145)) (g:=gb146) (o:=.cells #[.string (⟨#[78,79,84]⟩:ByteArray),.int .i64 0,.int .i64 2,.string (⟨#[116]⟩:ByteArray)] 57 (0,0)) (ks BK146)) (below_size (bs HB)));replace BK144:=am (blk_below (g:=gb144) (o:=.cells #[.string (⟨#[68,79,67]⟩:ByteArray),.int .i64 1,.int .i64 1,.string (⟨#[114,100]⟩:ByteArray)] 57 (0,0)) (ks BK144) hb);replace BK145:=am (blk_below (g:=gb145) (o:=.cells #[.string (⟨#[68,79,67]⟩:ByteArray),.int .i64 1,.int .i64 1,.string (⟨#[114,114,100]⟩:ByteArray)] 57 (0,0)) (ks BK145) hb);replace BK146:=am (blk_below (g:=gb146) (o:=.cells #[.string (⟨#[78,79,84]⟩:ByteArray),.int .i64 0,.int .i64 2,.string (⟨#[116]⟩:ByteArray)] 57 (0,0)) (ks BK146) hb);replace HB:=am (below_step (bs HB) hb);clear hb ho51))
        go_ret
        exact ⟨_,ff,by (with_reducible repeat (first|apply Kd.R_alloc|apply Kd.R_drewN|apply Kd.R_drew));exact Kd.R_mono HO161.out (fun _ hk=>trivial),bs HB⟩
       ·rw [if_neg c46] at H;have c46b0:(a0 == 6)=false:=beq_eq_false_iff_ne.mpr c46;have c46b1:(a0 != 6)=true:=bne_iff_ne.mpr c46
        by_cases c52:a0=7
        ·rw [if_pos c52] at H;have c52b0:(a0 == 7)=true:=beq_iff_eq.mpr c52;have c52b1:(a0 != 7)=false:=bne_eq_false_iff_eq.mpr c52;clear c52;obtain ⟨y162,hy162⟩:∃ y_:List (S57),y_=(([(⟨(⟨#[68,79,67]⟩:ByteArray),1,1,(⟨#[114,100]⟩:ByteArray)⟩:S57),(⟨(⟨#[65,67,75]⟩:ByteArray),1,1,(⟨#[110,110,63,110]⟩:ByteArray)⟩:S57)]:List (S57))):=⟨_,rfl⟩
         replace H:(some y162)=some r:=by first|(rw [hy162];with_reducible exact H)|(have H2_:=(Option.bind_some _ _).symm.trans H;rw [hy162];with_reducible exact H2_)|(have H2_:=(Option.bind_some _ _).symm.trans H;with_reducible exact H2_)|with_reducible exact H|(rw [hy162];exact H)|exact H
         have Ny162:=am hy162;clear hy162;obtain rfl:=Option.some.inj H;have hnb53:=NB144_145.out;have hnc53:=NB145_144.out;have hnb54:=NB144_146.out;have hnc54:=NB146_144.out;obtain ⟨hcz55_0,hcz55_1,hcz55_2,hcz55_3,hfz55_0,hfz55_1,hfz55_2,hfz55_3⟩:=cf4 BK144
         go_wp2_with (first|((with_reducible refine gate_dst (N:=42) rfl ?_);refine Kd.R_lit k57 _ 57 ?hg (N:=42) ?hd (xs:=([(⟨(⟨#[68,79,67]⟩:ByteArray),1,1,(⟨#[114,100]⟩:ByteArray)⟩:S57),(⟨(⟨#[65,67,75]⟩:ByteArray),1,1,(⟨#[110,110,63,110]⟩:ByteArray)⟩:S57)]:List (S57))) (inner:=[.string (⟨#[68,79,67]⟩:ByteArray),.int .i64 1,.int .i64 1,.string (⟨#[114,100]⟩:ByteArray),.string (⟨#[65,67,75]⟩:ByteArray),.int .i64 1,.int .i64 1,.string (⟨#[110,110,63,110]⟩:ByteArray)]) (ok:=fun _=>True) (okp:=fun _=>True) ?hr ?hp (fun _ hk=>hk) trivial (Below.refl _ _) (Nat.le_refl _) (by simp) ?_;(case hd=>rfl);(case hg=>rfl);(case hr=>first|(go_simp;done)|(go_simp;rfl));(case hp=>exact (Reps.c4 (show Kd.M k57 _ _ _ (⟨(⟨#[68,79,67]⟩:ByteArray),1,1,(⟨#[114,100]⟩:ByteArray)⟩:S57) [.string (⟨#[68,79,67]⟩:ByteArray),.int .i64 1,.int .i64 1,.string (⟨#[114,100]⟩:ByteArray)] from (k57_mkM _ _ _ (⟨(⟨#[68,79,67]⟩:ByteArray),1,1,(⟨#[114,100]⟩:ByteArray)⟩:S57) )) (Reps.c4 (show Kd.M k57 _ _ _ (⟨(⟨#[65,67,75]⟩:ByteArray),1,1,(⟨#[110,110,63,110]⟩:ByteArray)⟩:S57) [.string (⟨#[65,67,75]⟩:ByteArray),.int .i64 1,.int .i64 1,.string (⟨#[110,110,63,110]⟩:ByteArray)] from (k57_mkM _ _ _ (⟨(⟨#[65,67,75]⟩:ByteArray),1,1,(⟨#[110,110,63,110]⟩:ByteArray)⟩:S57) )) (Reps.none _ _))));intro v163 w56 ho57 hb hg_ hnew_;clear hg_ hnew_;(first|rw [← Ny162.out] at ho57|(simp only [Int.reduceToNat] at ho57;rw [← Ny162.out] at ho57));have HO164:=am (Kd.R_lower (Kd.R_newB (Kd.R_newB (Kd.R_newB ho57 (g:=gb144) (o:=.cells #[.string (⟨#[68,79,67]⟩:ByteArray),.int .i64 1,.int .i64 1,.string (⟨#[114,100]⟩:ByteArray)] 57 (0,0)) (ks BK144)) (g:=gb145) (o:=.cells #[.string (⟨#[68,79,67]⟩:ByteArray),.int .i64 1,.int .i64 1,.string (⟨#[114,114,100]⟩:ByteArray)] 57 (0,0)) (ks BK145)) (g:=gb146) (o:=.cells #[.string (⟨#[78,79,84]⟩:ByteArray),.int .i64 0,.int .i64 2,.string (⟨#[116]⟩:ByteArray)] 57 (0,0)) (ks BK146)) (below_size (bs HB)));replace BK144:=am (blk_below (g:=gb144) (o:=.cells #[.string (⟨#[68,79,67]⟩:ByteArray),.int .i64 1,.int .i64 1,.string (⟨#[114,100]⟩:ByteArray)] 57 (0,0)) (ks BK144) hb);replace BK145:=am (blk_below (g:=gb145) (o:=.cells #[.string (⟨#[68,79,67]⟩:ByteArray),.int .i64 1,.int .i64 1,.string (⟨#[114,114,100]⟩:ByteArray)] 57 (0,0)) (ks BK145) hb);replace BK146:=am (blk_below (g:=gb146) (o:=.cells #[.string (⟨#[78,79,84]⟩:ByteArray),.int .i64 0,.int .i64 2,.string (⟨#[116]⟩:ByteArray)] 57 (0,0)) (ks BK146) hb);replace HB:=am (below_step (bs HB) hb);clear hb ho57))
         go_ret
         exact ⟨_,ff,by (with_reducible repeat (first|apply Kd.R_alloc|apply Kd.R_drewN|apply Kd.R_drew));exact Kd.R_mono HO164.out (fun _ hk=>trivial),bs HB⟩
        ·rw [if_neg c52] at H;have c52b0:(a0 == 7)=false:=beq_eq_false_iff_ne.mpr c52;have c52b1:(a0 != 7)=true:=bne_iff_ne.mpr c52;obtain ⟨y165,hy165⟩:∃ y_:List (S57),y_=(([]:List (S57))):=⟨_,rfl⟩
         replace H:(some y165)=some r:=by first|(rw [hy165];with_reducible exact H)|(have H2_:=(Option.bind_some _ _).symm.trans H;rw [hy165];with_reducible exact H2_)|(have H2_:=(Option.bind_some _ _).symm.trans H;with_reducible exact H2_)|with_reducible exact H|(rw [hy165];exact H)|exact H
         have Ny165:=am hy165;clear hy165;obtain rfl:=Option.some.inj H
         go_wp2_with (first|((with_reducible refine gate_dst (N:=43) rfl ?_);refine Kd.R_lit k57 _ 57 ?hg (N:=43) ?hd (xs:=([]:List (S57))) (inner:=[]) (ok:=fun _=>True) (okp:=fun _=>True) ?hr ?hp (fun _ hk=>hk) trivial (Below.refl _ _) (Nat.le_refl _) (by simp) ?_;(case hd=>rfl);(case hg=>rfl);(case hr=>first|(go_simp;done)|(go_simp;rfl));(case hp=>exact (Reps.none _ _));intro v166 w58 ho59 hb hg_ hnew_;clear hg_ hnew_;(first|rw [← Ny165.out] at ho59|(simp only [Int.reduceToNat] at ho59;rw [← Ny165.out] at ho59));have HO167:=am (Kd.R_lower (Kd.R_newB (Kd.R_newB (Kd.R_newB ho59 (g:=gb144) (o:=.cells #[.string (⟨#[68,79,67]⟩:ByteArray),.int .i64 1,.int .i64 1,.string (⟨#[114,100]⟩:ByteArray)] 57 (0,0)) (ks BK144)) (g:=gb145) (o:=.cells #[.string (⟨#[68,79,67]⟩:ByteArray),.int .i64 1,.int .i64 1,.string (⟨#[114,114,100]⟩:ByteArray)] 57 (0,0)) (ks BK145)) (g:=gb146) (o:=.cells #[.string (⟨#[78,79,84]⟩:ByteArray),.int .i64 0,.int .i64 2,.string (⟨#[116]⟩:ByteArray)] 57 (0,0)) (ks BK146)) (below_size (bs HB)));replace BK144:=am (blk_below (g:=gb144) (o:=.cells #[.string (⟨#[68,79,67]⟩:ByteArray),.int .i64 1,.int .i64 1,.string (⟨#[114,100]⟩:ByteArray)] 57 (0,0)) (ks BK144) hb);replace BK145:=am (blk_below (g:=gb145) (o:=.cells #[.string (⟨#[68,79,67]⟩:ByteArray),.int .i64 1,.int .i64 1,.string (⟨#[114,114,100]⟩:ByteArray)] 57 (0,0)) (ks BK145) hb);replace BK146:=am (blk_below (g:=gb146) (o:=.cells #[.string (⟨#[78,79,84]⟩:ByteArray),.int .i64 0,.int .i64 2,.string (⟨#[116]⟩:ByteArray)] 57 (0,0)) (ks BK146) hb);replace HB:=am (below_step (bs HB) hb);clear hb ho59))
         go_ret
         exact ⟨_,ff,by (with_reducible repeat (first|apply Kd.R_alloc|apply Kd.R_drewN|apply Kd.R_drew));exact Kd.R_mono HO167.out (fun _ hk=>trivial),bs HB⟩
set_option maxHeartbeats 8000000 in
set_option maxRecDepth 100000 in
theorem spec_l01Dec.calls (k:Nat) (a0:Int) (r:ByteArray) (w:World) (h:spec_l01Dec.f k a0=some r) :
  Calls Tryd.prog 26 #[.int .i64 a0] w fun e w'=>e=.returned (.string r)∧Below w.heap.size w w':=by
 have HB:=am (Below.refl w.heap.size w);have H:(if a0=0 then (some (⟨#[48]⟩:ByteArray)) else (spec_l01Dec.l0 k a0 (decide (a0<0)) (⟨#[]⟩:ByteArray)))=some r:=h;clear h
 by_cases c2:a0=0
 ·rw [if_pos c2] at H;have c2b0:(a0 == 0)=true:=beq_iff_eq.mpr c2;have c2b1:(a0 != 0)=false:=bne_eq_false_iff_eq.mpr c2;clear c2;obtain rfl:=Option.some.inj H
  go_enter Tryd.func26,Tryd.ntmps26
  go_wp2
  go_ret
  exact ⟨ff,bs HB⟩
 ·rw [if_neg c2] at H;have c2b0:(a0 == 0)=false:=beq_eq_false_iff_ne.mpr c2;have c2b1:(a0 != 0)=true:=bne_iff_ne.mpr c2;have H':=am H;clear H
  go_enter Tryd.func26,Tryd.ntmps26
  go_wp2
  go_loopg [0,4] k (fun kq v0 v4 w'=>∃ (x0_1:Int) (x4_1:ByteArray),v0=.int .i64 x0_1∧v4=.string x4_1∧Aside0 (spec_l01Dec.l0 kq x0_1 (decide (a0<0)) x4_1=some r)∧Aside0 (kq≤k)∧Aside0 (Below w.heap.size w w'))
  case atStart=>exact ⟨(a0),((⟨#[]⟩:ByteArray)),fg,fg,H',⟨Nat.le_refl _⟩,⟨bs HB⟩⟩
  case round =>
   clear H'
   try clear c2
   try clear c2b0
   try clear c2b1
   try clear p2
   obtain ⟨x0_1,x4_1,rfl,rfl,HA,HK1,HB⟩:=hrel
   cases gk with
   | zero=>exact absurd HA.out (by simp [spec_l01Dec.l0])
   | succ k1 =>
    have H:=HA.out;clear HA;simp only [spec_l01Dec.l0] at H
    by_cases c3:x0_1=0
    ·rw [if_pos c3] at H;have c3b0:(x0_1 == 0)=true:=beq_iff_eq.mpr c3;have c3b1:(x0_1 != 0)=false:=bne_eq_false_iff_eq.mpr c3;clear c3
     by_cases c4:(decide (a0<0))=true
     ·rw [if_pos c4] at H;have c4b0:(decide (a0<0))=true:=c4
      (first|rw [c4b0]|skip)
      clear c4
      by_cases c5:1+x4_1.size≤9223372036854775807
      ·rw [if_pos c5] at H;have c5b0:=eq_true c5;have c5b1:decide (1+x4_1.size≤9223372036854775807)=true:=decide_eq_true c5
       try have c5b2:(9223372036854775807<1+x4_1.size)=False:=eq_false (Nat.not_lt.2 c5)
       obtain rfl:=Option.some.inj H
       go_wp2
       go_ret
       exact ⟨ff,bs HB⟩
      ·rw [if_neg c5] at H
       exact absurd H (by simp)
     ·rw [if_neg c4] at H
      have c4b0:(decide (a0<0))=false:=by simpa using c4
      (first|rw [c4b0]|skip)
      clear c4;obtain rfl:=Option.some.inj H
      go_wp2
      go_ret
      exact ⟨ff,bs HB⟩
    ·rw [if_neg c3] at H;have c3b0:(x0_1 == 0)=false:=beq_eq_false_iff_ne.mpr c3;have c3b1:(x0_1 != 0)=true:=bne_iff_ne.mpr c3
     by_cases c6:(Int.tmod x0_1 10)<0
     ·rw [if_pos c6] at H;have c6b0:decide ((Int.tmod x0_1 10)<0)=true:=decide_eq_true c6;clear c6;obtain ⟨y168,hy168⟩:∃ y_:List Int,y_=(([(wrap64 (48+(wrap64 (-(Int.tmod x0_1 10))))) % 256]:List Int)):=⟨_,rfl⟩
      replace H:(if (strOfNums y168).size+x4_1.size≤9223372036854775807 then (spec_l01Dec.l0 k1 (wrap64 (Int.tdiv x0_1 10)) (decide (a0<0)) ((strOfNums y168)++x4_1)) else (none))=some r:=by first|(rw [hy168];with_reducible exact H)|(have H2_:=(Option.bind_some _ _).symm.trans H;rw [hy168];with_reducible exact H2_)|(have H2_:=(Option.bind_some _ _).symm.trans H;with_reducible exact H2_)|with_reducible exact H|(rw [hy168];exact H)|exact H
      have Ny168:=am hy168;clear hy168
      by_cases c7:(strOfNums y168).size+x4_1.size≤9223372036854775807
      ·rw [if_pos c7] at H;have c7b0:=eq_true c7;have c7b1:decide ((strOfNums y168).size+x4_1.size≤9223372036854775807)=true:=decide_eq_true c7
       try have c7b2:(9223372036854775807<(strOfNums y168).size+x4_1.size)=False:=eq_false (Nat.not_lt.2 c7)
       have H':=am H;clear H
       go_wp2_with (first|((with_reducible refine gate_dst (N:=21) rfl ?_);refine Kd.R_lit (Kd.int .u8) _ 5 ?hg (N:=21) ?hd (xs:=([(wrap64 (48+(wrap64 (-(Int.tmod x0_1 10))))) % 256]:List Int)) (inner:=[.int .u8 ((wrap64 (48+(wrap64 (-(Int.tmod x0_1 10))))) % 256)]) (ok:=fun _=>True) (okp:=fun _=>True) ?hr ?hp (fun _ hk=>hk) trivial (Below.refl _ _) (Nat.le_refl _) (by simp) ?_;(case hd=>rfl);(case hg=>rfl);(case hr=>first|(go_simp;done)|(go_simp;rfl));(case hp=>exact (Reps.one (show Kd.M (Kd.int .u8) _ _ _ ((wrap64 (48+(wrap64 (-(Int.tmod x0_1 10))))) % 256) [.int .u8 ((wrap64 (48+(wrap64 (-(Int.tmod x0_1 10))))) % 256)] from rfl) (Reps.none _ _)));intro v169 w8 ho9 hb hg_ hnew_;clear hg_ hnew_;(first|rw [← Ny168.out] at ho9|(simp only [Int.reduceToNat] at ho9;rw [← Ny168.out] at ho9));have HO170:=am (Kd.R_lower ho9 (below_size (bs HB)));replace HB:=am (below_step (bs HB) hb);clear hb ho9;have hcv10:=own_string (P:=Tryd.prog) Tryd.underlying50 Tryd.underlying5 Tryd.underlying9 (Kd.own_of_R HO170.out)))
       go_roundg k1
       case measure=>have:=HK1.out;omega
       case rel=>exact ⟨(wrap64 (Int.tdiv x0_1 10)),((strOfNums y168)++x4_1),fg,fg,H',⟨by have:=HK1.out;omega⟩,⟨bs HB⟩⟩
      ·rw [if_neg c7] at H
       exact absurd H (by simp)
     ·rw [if_neg c6] at H;have c6b0:decide ((Int.tmod x0_1 10)<0)=false:=decide_eq_false c6;clear c6;obtain ⟨y171,hy171⟩:∃ y_:List Int,y_=(([(wrap64 (48+(Int.tmod x0_1 10))) % 256]:List Int)):=⟨_,rfl⟩
      replace H:(if (strOfNums y171).size+x4_1.size≤9223372036854775807 then (spec_l01Dec.l0 k1 (wrap64 (Int.tdiv x0_1 10)) (decide (a0<0)) ((strOfNums y171)++x4_1)) else (none))=some r:=by first|(rw [hy171];with_reducible exact H)|(have H2_:=(Option.bind_some _ _).symm.trans H;rw [hy171];with_reducible exact H2_)|(have H2_:=(Option.bind_some _ _).symm.trans H;with_reducible exact H2_)|with_reducible exact H|(rw [hy171];exact H)|exact H
      have Ny171:=am hy171;clear hy171
      by_cases c11:(strOfNums y171).size+x4_1.size≤9223372036854775807
      ·rw [if_pos c11] at H;have c11b0:=eq_true c11;have c11b1:decide ((strOfNums y171).size+x4_1.size≤9223372036854775807)=true:=decide_eq_true c11
       try have c11b2:(9223372036854775807<(strOfNums y171).size+x4_1.size)=False:=eq_false (Nat.not_lt.2 c11)
       have H':=am H;clear H
       go_wp2_with (first|((with_reducible refine gate_dst (N:=21) rfl ?_);refine Kd.R_lit (Kd.int .u8) _ 5 ?hg (N:=21) ?hd (xs:=([(wrap64 (48+(Int.tmod x0_1 10))) % 256]:List Int)) (inner:=[.int .u8 ((wrap64 (48+(Int.tmod x0_1 10))) % 256)]) (ok:=fun _=>True) (okp:=fun _=>True) ?hr ?hp (fun _ hk=>hk) trivial (Below.refl _ _) (Nat.le_refl _) (by simp) ?_;(case hd=>rfl);(case hg=>rfl);(case hr=>first|(go_simp;done)|(go_simp;rfl));(case hp=>exact (Reps.one (show Kd.M (Kd.int .u8) _ _ _ ((wrap64 (48+(Int.tmod x0_1 10))) % 256) [.int .u8 ((wrap64 (48+(Int.tmod x0_1 10))) % 256)] from rfl) (Reps.none _ _)));intro v172 w12 ho13 hb hg_ hnew_;clear hg_ hnew_;(first|rw [← Ny171.out] at ho13|(simp only [Int.reduceToNat] at ho13;rw [← Ny171.out] at ho13));have HO173:=am (Kd.R_lower ho13 (below_size (bs HB)));replace HB:=am (below_step (bs HB) hb);clear hb ho13;have hcv14:=own_string (P:=Tryd.prog) Tryd.underlying50 Tryd.underlying5 Tryd.underlying9 (Kd.own_of_R HO173.out)))
       go_roundg k1
       case measure=>have:=HK1.out;omega
       case rel=>exact ⟨(wrap64 (Int.tdiv x0_1 10)),((strOfNums y171)++x4_1),fg,fg,H',⟨by have:=HK1.out;omega⟩,⟨bs HB⟩⟩
      ·rw [if_neg c11] at H
       exact absurd H (by simp)
set_option maxHeartbeats 8000000 in
set_option maxRecDepth 100000 in
theorem spec_l01Num.calls (k:Nat) (a0:ByteArray) (r1:Int) (r2:Bool) (w:World) (h:spec_l01Num.f k a0=some (r1,r2)) :
  Calls Tryd.prog 50 #[.string a0] w fun e w'=>e=.returned (.tuple #[.int .i64 r1,.bool r2])∧Below w.heap.size w w':=by
 have HB:=am (Below.refl w.heap.size w);have H:(if (a0.size:Int)>0 then (if 0<(a0.size:Int) then (spec_l01Num.j0 k a0 ((bt a0 0) == 45)) else (none)) else (spec_l01Num.j0 k a0 false))=some (r1,r2):=h;clear h;have HC2:=am H;clear H
 go_enter Tryd.func50,Tryd.ntmps50
 go_upto_region 1 with (fail)
 go_cut [4] (fun v4 wc=>∃ (kq:Nat) (x4_1:Bool),v4=.bool x4_1∧Aside0 (spec_l01Num.j0 kq a0 x4_1=some (r1,r2))∧Aside0 (kq≤k)∧Aside0 (Below w.heap.size w wc))
 case first =>
  have H:=HC2.out;clear HC2
  by_cases c3:(a0.size:Int)>0
  ·rw [if_pos c3] at H;have c3b0:decide (0<(a0.size:Int))=true:=decide_eq_true c3;have c3b1:decide (0<a0.size)=true:=decide_eq_true (by omega);clear c3
   (first|rw [c3b0]|(simp only [i64_w,i32_w];rw [c3b0])|skip)
   by_cases c4:0<(a0.size:Int)
   ·rw [if_pos c4] at H;have c4b0:decide (0<(a0.size:Int))=true:=decide_eq_true c4;have c4b1:decide (0<a0.size)=true:=decide_eq_true (by omega);clear c4;have H':=am H;clear H;have p5:0≤(0:Int):=(by omega);have q5:0<a0.size:=(by have:(0:Int)<(a0.size:Int):=oa;omega);have hx5:∀ h:0<a0.size,((a0[0]'h).toNat:Int)=bt a0 0:=bt_at a0 0;clear p5;have qi5:(0<(a0.size:Int))=True:=eq_true (oa);replace q5:=eq_true q5
    go_wp2
    go_meet
    case rel=>exact ⟨_,(((bt a0 0) == 45)),fg,H',⟨fl⟩,⟨bs HB⟩⟩
   ·rw [if_neg c4] at H
    exact absurd H (by simp)
  ·rw [if_neg c3] at H;have c3b0:decide (0<(a0.size:Int))=false:=decide_eq_false c3;have c3b1:decide (0<a0.size)=false:=decide_eq_false (by omega);clear c3
   (first|rw [c3b0]|(simp only [i64_w,i32_w];rw [c3b0])|skip)
   have H':=am H;clear H
   go_wp2
   go_meet
   case rel=>exact ⟨_,(false),fg,H',⟨fl⟩,⟨bs HB⟩⟩
 case rest =>
  clear HC2
  try clear p2
  try clear c3
  try clear c3b0
  try clear c3b1
  try clear c4
  try clear c4b0
  try clear c4b1
  try clear c5
  try clear p5
  try clear q5
  try clear hx5
  try clear qi5
  try clear p5
  try clear q5
  obtain ⟨kq,x4_1,rfl,HA,HJ1,HB⟩:=hcut
  cases kq with
  | zero=>exact absurd HA.out (by simp [spec_l01Num.j0])
  | succ kj1 =>
   have H:=HA.out;clear HA;simp only [spec_l01Num.j0] at H;have HC6:=am H;clear H
   go_upto_if 17 with (fail)
   go_cut [5] (fun v5 wc=>∃ (kq:Nat) (x5_5:ByteArray),v5=.string x5_5∧Aside0 (spec_l01Num.j1 kq a0 x4_1 x5_5=some (r1,r2))∧Aside0 (kq≤kj1)∧Aside0 (Below w.heap.size w wc))
   case first =>
    have H:=HC6.out;clear HC6
    by_cases c7:x4_1=true
    ·subst c7
     have H1:(if 1≤(a0.size:Int) then (spec_l01Num.j1 kj1 a0 true (a0.extract 1 a0.size)) else (none))=some (r1,r2):=by rw [if_pos rfl] at H;exact H
     clear H;have H:=H1;clear H1
     by_cases c8:1≤(a0.size:Int)
     ·rw [if_pos c8] at H;have c8b0:=eq_true c8;have c8b1:decide (1≤(a0.size:Int))=true:=decide_eq_true c8;clear c8;have H':=am H;clear H
      go_wp2
      go_meet
      case rel=>exact ⟨_,(a0.extract 1 a0.size),fg,H',⟨by have:=HJ1.out;first|omega|exact Nat.le_refl _⟩,⟨bs HB⟩⟩
     ·rw [if_neg c8] at H
      exact absurd H (by simp)
    ·replace c7:=Bool.eq_false_iff.mpr c7;subst c7
     have H1:(spec_l01Num.j1 kj1 a0 false a0)=some (r1,r2):=by rw [if_neg (show ¬ (false=true) by decide)] at H;exact H
     clear H;have H:=H1;clear H1;have H':=am H;clear H
     go_wp2
     go_meet
     case rel=>exact ⟨_,(a0),fg,H',⟨by have:=HJ1.out;first|omega|exact Nat.le_refl _⟩,⟨bs HB⟩⟩
   case rest =>
    clear HC6
    try clear p2
    try clear c3
    try clear c3b0
    try clear c3b1
    try clear c4
    try clear c4b0
    try clear c4b1
    try clear c5
    try clear p5
    try clear q5
    try clear hx5
    try clear qi5
    try clear c7
    try clear c8
    try clear c8b0
    try clear c8b1
    try clear p2
    try clear p5
    try clear q5
    obtain ⟨kq,x5_5,rfl,HA,HJ5,HB⟩:=hcut
    cases kq with
    | zero=>exact absurd HA.out (by simp [spec_l01Num.j1])
    | succ kj5 =>
     have H:=HA.out;clear HA;simp only [spec_l01Num.j1] at H;have HC9:=am H;clear H
     go_upto_region 5 with (fail)
     go_cut [27] (fun v27 wc=>∃ (kq:Nat) (x27_8:Bool),v27=.bool x27_8∧Aside0 (spec_l01Num.j2 kq a0 x4_1 x5_5 x27_8=some (r1,r2))∧Aside0 (kq≤kj5)∧Aside0 (Below w.heap.size w wc))
     case first =>
      have H:=HC9.out;clear HC9
      by_cases c10:(x5_5.size:Int)<1
      ·rw [if_pos c10] at H;have c10b0:decide ((x5_5.size:Int)<1)=true:=decide_eq_true c10;have c10b1:decide (x5_5.size<1)=true:=decide_eq_true (by omega);clear c10
       (first|rw [c10b0]|(simp only [i64_w,i32_w];rw [c10b0])|skip)
       have H':=am H;clear H
       go_wp2
       go_meet
       case rel=>exact ⟨_,(true),fg,H',⟨by have:=HJ1.out;have:=HJ5.out;first|omega|exact Nat.le_refl _⟩,⟨bs HB⟩⟩
      ·rw [if_neg c10] at H;have c10b0:decide ((x5_5.size:Int)<1)=false:=decide_eq_false c10;have c10b1:decide (x5_5.size<1)=false:=decide_eq_false (by omega);clear c10
       (first|rw [c10b0]|(simp only [i64_w,i32_w];rw [c10b0])|skip)
       have H':=am H;clear H
       go_wp2
       go_meet
       case rel=>exact ⟨_,(decide ((x5_5.size:Int)>12)),fg,H',⟨by have:=HJ1.out;have:=HJ5.out;first|omega|exact Nat.le_refl _⟩,⟨bs HB⟩⟩
     case rest =>
      clear HC9
      try clear c1
      try clear p2
      try clear c3
      try clear c3b0
      try clear c3b1
      try clear c4
      try clear c4b0
      try clear c4b1
      try clear c5
      try clear p5
      try clear q5
      try clear hx5
      try clear qi5
      try clear c7
      try clear c8
      try clear c8b0
      try clear c8b1
      try clear c10
      try clear c10b0
      try clear c10b1
      try clear p2
      try clear p5
      try clear q5
      obtain ⟨kq,x27_8,rfl,HA,HJ8,HB⟩:=hcut
      cases kq with
      | zero=>exact absurd HA.out (by simp [spec_l01Num.j2])
      | succ kj8 =>
       have H:=HA.out;clear HA;simp only [spec_l01Num.j2] at H
       by_cases c11:x27_8=true
       ·subst c11
        have H1:(some (0,false))=some (r1,r2):=by rw [if_pos rfl] at H;exact H
        clear H;have H:=H1;clear H1;simp only [Option.some.injEq,Prod.mk.injEq] at H;obtain ⟨rfl,rfl⟩:=H
        go_wp2
        go_ret2
        exact ⟨ff,bs HB⟩
       ·replace c11:=Bool.eq_false_iff.mpr c11;subst c11
        have H1:(spec_l01Num.l0 kj8 a0 x4_1 x5_5 0 0)=some (r1,r2):=by rw [if_neg (show ¬ (false=true) by decide)] at H;exact H
        clear H;have H:=H1;clear H1;have H':=am H;clear H
        go_wp2
        go_loopg [6,7] kj8 (fun kq v6 v7 w'=>∃ (x6_4:Int) (x7_4:Int),v6=.int .i64 x6_4∧v7=.int .i64 x7_4∧Aside0 (spec_l01Num.l0 kq a0 x4_1 x5_5 x6_4 x7_4=some (r1,r2))∧Aside0 (kq≤kj8)∧Aside0 (Below w.heap.size w w'))
        case atStart=>exact ⟨(0),(0),fg,fg,H',⟨Nat.le_refl _⟩,⟨bs HB⟩⟩
        case round =>
         clear H'
         try clear c1
         try clear p2
         try clear c3
         try clear c3b0
         try clear c3b1
         try clear c4
         try clear c4b0
         try clear c4b1
         try clear c5
         try clear p5
         try clear q5
         try clear hx5
         try clear qi5
         try clear c7
         try clear c8
         try clear c8b0
         try clear c8b1
         try clear c10
         try clear c10b0
         try clear c10b1
         try clear c11
         try clear p2
         try clear p5
         try clear q5
         obtain ⟨x6_4,x7_4,rfl,rfl,HA,HK4,HB⟩:=hrel
         cases gk with
         | zero=>exact absurd HA.out (by simp [spec_l01Num.l0])
         | succ k4 =>
          have H:=HA.out;clear HA;simp only [spec_l01Num.l0] at H
          by_cases c12:x7_4<(x5_5.size:Int)
          ·rw [if_pos c12] at H;have c12b0:decide (x7_4<(x5_5.size:Int))=true:=decide_eq_true c12;clear c12
           by_cases c13:0≤x7_4
           ·rw [if_pos c13] at H;have c13b0:decide (0≤x7_4)=true:=decide_eq_true c13;clear c13
            by_cases c15:(bt x5_5 x7_4)<48
            ·rw [if_pos c15] at H;have c15b0:decide ((bt x5_5 x7_4)<48)=true:=decide_eq_true c15;clear c15;simp only [Option.some.injEq,Prod.mk.injEq] at H;obtain ⟨rfl,rfl⟩:=H;have p14:0≤(x7_4:Int):=oa;have q14:x7_4<(x5_5.size:Int):=oa;have hx14:=bt_at x5_5 x7_4;replace p14:=eq_true p14;replace q14:=eq_true q14
             go_wp2
             go_ret2
             exact ⟨ff,bs HB⟩
            ·rw [if_neg c15] at H;have c15b0:decide ((bt x5_5 x7_4)<48)=false:=decide_eq_false c15;clear c15
             by_cases c17:(bt x5_5 x7_4)>57
             ·rw [if_pos c17] at H;have c17b0:decide (57<(bt x5_5 x7_4))=true:=decide_eq_true c17;clear c17;simp only [Option.some.injEq,Prod.mk.injEq] at H;obtain ⟨rfl,rfl⟩:=H;have p14:0≤(x7_4:Int):=oa;have q14:x7_4<(x5_5.size:Int):=oa;have hx14:=bt_at x5_5 x7_4;replace p14:=eq_true p14;replace q14:=eq_true q14;have p16:0≤(x7_4:Int):=oa;have q16:x7_4<(x5_5.size:Int):=oa;have hx16:=bt_at x5_5 x7_4;replace p16:=eq_true p16;replace q16:=eq_true q16
              go_wp2
              go_ret2
              exact ⟨ff,bs HB⟩
             ·rw [if_neg c17] at H;have c17b0:decide (57<(bt x5_5 x7_4))=false:=decide_eq_false c17;clear c17;have H':=am H;clear H;have p14:0≤(x7_4:Int):=oa;have q14:x7_4<(x5_5.size:Int):=oa;have hx14:=bt_at x5_5 x7_4;replace p14:=eq_true p14;replace q14:=eq_true q14;have p16:0≤(x7_4:Int):=oa;have q16:x7_4<(x5_5.size:Int):=oa;have hx16:=bt_at x5_5 x7_4;replace p16:=eq_true p16;replace q16:=eq_true q16;have p18:0≤(x7_4:Int):=oa;have q18:x7_4<(x5_5.size:Int):=oa;have hx18:=bt_at x5_5 x7_4;replace p18:=eq_true p18;replace q18:=eq_true q18
              go_wp2
              go_roundg k4
              case measure=>have:=HJ1.out;have:=HJ5.out;have:=HJ8.out;have:=HK4.out;omega
              case rel=>exact ⟨(wrap64 ((wrap64 (10 * x6_4))+(((bt x5_5 x7_4) - 48) % 256))),(wrap64 (x7_4+1)),fg,fg,H',⟨by have:=HJ1.out;have:=HJ5.out;have:=HJ8.out;have:=HK4.out;omega⟩,⟨bs HB⟩⟩
           ·rw [if_neg c13] at H
            exact absurd H (by simp)
          ·rw [if_neg c12] at H;have c12b0:decide (x7_4<(x5_5.size:Int))=false:=decide_eq_false c12;clear c12
           by_cases c19:x4_1=true
           ·subst c19
            have H1:((spec_l01Dec.f k4 (wrap64 (-x6_4))).bind fun t174=>(some (wrap64 (-x6_4),(t174.toList == a0.toList))))=some (r1,r2):=by rw [if_pos rfl] at H;exact H
            clear H;have H:=H1;clear H1;replace H:=Option.bind_eq_some_iff.mp H;obtain ⟨t174,A200,H⟩:=H;replace H:(some (wrap64 (-x6_4),(t174.toList == a0.toList)))=some (r1,r2):=H;have A20:=am A200;clear A200;simp only [Option.some.injEq,Prod.mk.injEq] at H;obtain ⟨rfl,rfl⟩:=H
            go_wp2_with (first|((first|((with_reducible refine gate_callee (f:=26) rfl ?_);refine goesL_ (some 57) rfl rfl Tryd.func26 (by kernel_rfl) rfl #[.int .i64 (wrap64 (-x6_4))] rfl (by (try simp only [List.map_toArray,List.map_cons,List.map_nil]);first|done|rfl|(simp only [List.length_drop,List.length_take];rfl)) ?_;(with_reducible refine (spec_l01Dec.calls k4 (wrap64 (-x6_4)) t174 _ A20.out).mono ?_);rintro e w21 ⟨rfl,hb⟩;refine ⟨_,rfl,?_⟩)|(go_at_call 26;(with_reducible refine (spec_l01Dec.calls k4 (wrap64 (-x6_4)) t174 _ A20.out).mono ?_);rintro e w21 ⟨rfl,hb⟩));replace HB:=am (below_step (bs HB) hb);(try clear hb);(try clear hb2);(try clear hk);(try clear hi)))
            go_ret2
            exact ⟨ff,bs HB⟩
           ·replace c19:=Bool.eq_false_iff.mpr c19;subst c19
            have H1:((spec_l01Dec.f k4 x6_4).bind fun t175=>(some (x6_4,(t175.toList == a0.toList))))=some (r1,r2):=by rw [if_neg (show ¬ (false=true) by decide)] at H;exact H
            clear H;have H:=H1;clear H1;replace H:=Option.bind_eq_some_iff.mp H;obtain ⟨t175,A220,H⟩:=H;replace H:(some (x6_4,(t175.toList == a0.toList)))=some (r1,r2):=H;have A22:=am A220;clear A220;simp only [Option.some.injEq,Prod.mk.injEq] at H;obtain ⟨rfl,rfl⟩:=H
            go_wp2_with (first|((first|((with_reducible refine gate_callee (f:=26) rfl ?_);refine goesL_ (some 57) rfl rfl Tryd.func26 (by kernel_rfl) rfl #[.int .i64 x6_4] rfl (by (try simp only [List.map_toArray,List.map_cons,List.map_nil]);first|done|rfl|(simp only [List.length_drop,List.length_take];rfl)) ?_;(with_reducible refine (spec_l01Dec.calls k4 x6_4 t175 _ A22.out).mono ?_);rintro e w23 ⟨rfl,hb⟩;refine ⟨_,rfl,?_⟩)|(go_at_call 26;(with_reducible refine (spec_l01Dec.calls k4 x6_4 t175 _ A22.out).mono ?_);rintro e w23 ⟨rfl,hb⟩));replace HB:=am (below_step (bs HB) hb);(try clear hb);(try clear hb2);(try clear hk);(try clear hi)))
            go_ret2
            exact ⟨ff,bs HB⟩
end Go.Proofs.YtjbdljhjplidmaaDoor.QF
