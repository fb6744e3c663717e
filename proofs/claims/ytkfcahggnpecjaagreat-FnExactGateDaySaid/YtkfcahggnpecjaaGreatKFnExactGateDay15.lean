-- Merged by a program of this session (wip/tool/pack.py) out of its own texts for this claim.
import Derived.Test.YtkfcahggnpecjaaGreatKFnExactGateDay14
set_option maxHeartbeats 8000000
set_option maxRecDepth 100000
set_option linter.unusedSimpArgs false
set_option linter.unusedVariables false
namespace Go.Proofs.YtkfcahggnpecjaaGreat.QG
open Go.RowKit Go.Proofs.YtkfcahggnpecjaaGreatW.PrintWords Go.Proofs.YtkfcahggnpecjaaGreatW.PrintLast Go.Proofs.YtkfcahggnpecjaaGreatW.PrintMore
attribute [local go_sem] max2_int min2_int max_two min_two max_three min_three max_four min_four   -- for this text's walks alone
theorem impl_OutboxTick.calls (k:Nat) (A0:Option Addr) (c0:Nat) (l0:List (S102)) (a1:Int) (r1:List (S102)) (r2:List (S104)) (r3:List (S102)) (r4:Int) (w:World) (hr0:Kd.C k102 w A0 l0.length l0) (hc0:l0.length≤c0) (H:impl_OutboxTick.f k l0 a1=some (r1,r2,r3,r4)) :
  Calls Tryz.prog 27 #[.slice A0 l0.length c0,.int .i64 a1] w fun e w'=>∃ v0_ v1_ v2_:Value,e=.returned (.agg #[v0_,v1_,v2_,.int .i64 r4])∧Kd.R k102 102 w' w.heap.size (fun k_=>some k_≠(v2_:Value).ownBlock) v0_ r1∧Kd.R k104 104 w' w.heap.size (fun _=>True) v1_ r2∧Kd.R k102 102 w' w.heap.size (fun k_=>some k_≠(v0_:Value).ownBlock) v2_ r3∧Below w.heap.size w w':=by
 have hu36:=Tryz.underlying36;have hu102:=Tryz.underlying102;have hu104:=Tryz.underlying104;have HR0:=am hr0;have HC0:=am hc0;clear hr0 hc0;have HB:=am (Below.refl w.heap.size w);unfold impl_OutboxTick.f at H;replace H:=bo H;obtain ⟨t83,A3,H⟩:=H
 go_in
 try go_wp2_with (first|((with_reducible refine gate_dst (N:=4) rfl ?_);refine bz 4 (cs:=#[.slice none 0 0,.slice none 0 0,.slice none 0 0,.int .i64 0]) (t:=36) HB ?_;clear HB;intro gb73 hg w4 BK73 GW73 hb HB;clear hb hg))
 go_at_call 67;(with_reducible refine (impl_outboxCode.calls k _ _ l0 t83 _ (Kd.C_below HR0.out (bs HB)) HC0.out A3.out).mono ?_);rintro e w5 ⟨rfl,hb⟩;replace BK73:=bb BK73 hb;replace HB:=bq HB hb;(try clear hb);(try clear hb2);(try clear hk);(try clear hi)
 revert H;refine ie2 ?_ ?_
 ·intro c6b0 c6b1 H;replace H:=bo H;obtain ⟨t84,A7,H⟩:=H
  try go_wp2_with (fail)
  go_at_call 62;(with_reducible refine (impl_isDay.calls a1 t84 _ A7.out).mono ?_);rintro e w' ⟨rfl,⟨nd,rfl⟩⟩
  obtain rfl|rfl:=bt t84
  ·replace H:=itT H;have H':=am H;clear H
   go_wp2_with (first|((with_reducible refine gate_dst (N:=6) rfl ?_);refine bz 6 (cs:=#[.slice none 0 0,.slice none 0 0,.slice none 0 0,.int .i64 0]) (t:=36) HB ?_;clear HB;intro gb72 hg w9 BK72 GW72 hb HB;have NB73_72:=na hg BK73;have NB72_73:=nc hg BK73;replace BK73:=bb BK73 hb;clear hb hg;have hnb10:=NB72_73.out;have hnc10:=NB73_72.out;have hcz11:=cf4 BK72))
   go_loopg [22] k (fun kq v22 w'=>∃ (x22_1:Int) (x76_1:List (S102)) (x78_1:List (S104)) (x77_1:List (S102)) (u500000:Value) (u500001:Value) (u500002:Value),v22=.int .i64 x22_1∧Aside0 (impl_OutboxTick.l0 kq a1 l0 (l0.length:Int) x22_1 x76_1 x78_1 x77_1 0=some (r1,r2,r3,r4))∧Aside0 (kq≤k)∧Aside0 (Kd.R k102 102 w' w.heap.size (fun k_=>some k_≠(u500002:Value).ownBlock) u500000 x76_1)∧Aside0 (Kd.R k104 104 w' w.heap.size (fun _=>True) u500001 x78_1)∧Aside0 (Kd.R k102 102 w' w.heap.size (fun k_=>some k_≠(u500000:Value).ownBlock) u500002 x77_1)∧Aside0 (w'.heap[gb73]? = some (.cells #[(.slice none 0 0),(.slice none 0 0),(.slice none 0 0),.int .i64 0] 36 (0,0)))∧Aside0 (w'.heap[gb72]? = some (.cells #[u500000,u500001,u500002,.int .i64 0] 36 (0,0)))∧Aside0 (Below w.heap.size w w'))
   case atStart=>exact ⟨(0),(([]:List (S102))),(([]:List (S104))),(([]:List (S102))),(.slice none 0 0),(.slice none 0 0),(.slice none 0 0),fg,H',⟨Nat.le_refl _⟩,⟨by first|exact Kd.R_nil _ _ _ _ _|exact Kd.N_nil _ _ _ _ _|exact Kd.V_nil _ _ _ _ _|exact Kd.Q_nil _ _ _ _ _|exact Kd.S_nil _ _ _ _ _⟩,⟨by first|exact Kd.R_nil _ _ _ _ _|exact Kd.N_nil _ _ _ _ _|exact Kd.V_nil _ _ _ _ _|exact Kd.Q_nil _ _ _ _ _|exact Kd.S_nil _ _ _ _ _⟩,⟨by first|exact Kd.R_nil _ _ _ _ _|exact Kd.N_nil _ _ _ _ _|exact Kd.V_nil _ _ _ _ _|exact Kd.Q_nil _ _ _ _ _|exact Kd.S_nil _ _ _ _ _⟩,⟨ks BK73⟩,⟨kp BK72⟩,⟨bs HB⟩⟩
   case round =>
    clear H'
    try clear c6b0
    try clear c6b1
    try clear hcz11
    obtain ⟨x22_1,x76_1,x78_1,x77_1,u500000,u500001,u500002,rfl,HA,HK1,HO_500000,HO_500001,HO_500002,BK73,BK72,HB⟩:=hrel
    cases gk with
    | zero=>exact absurd HA.out (by simp [impl_OutboxTick.l0])
    | succ k1 =>
     have H:=HA.out;clear HA;simp only [impl_OutboxTick.l0] at H
     revert H;refine id2 ?_ ?_
     ·intro c12b0 H
      revert H;refine id1 ?_
      intro c13b0 H
      revert H;refine id1 ?_
      intro c14b0 H;have HC15:=am H;clear H;have p74:0≤(x22_1:Int):=oa;have q74:x22_1<(l0.length:Int):=oa;obtain ⟨ad74,e74,hx74_0,hx74_1,hx74_2,hx74_3,hx74_4⟩:=at_T102 HR0.out x22_1 p74 q74
      cases e74
      replace hx74_0:=cb HB hx74_0;replace hx74_1:=cb HB hx74_1;replace hx74_2:=cb HB hx74_2;replace hx74_3:=cb HB hx74_3;replace hx74_4:=cb HB hx74_4;replace p74:=eq_true p74;replace q74:=eq_true q74
      go_upto_region 10 with (first|((with_reducible refine gate_dst (N:=8) rfl ?_);refine bx 8 (cs:=#[.string (⟨#[]⟩:ByteArray),.int .i64 0,.string (⟨#[]⟩:ByteArray),.int .i64 0,.int .i64 0]) (t:=102) ?_;intro gb70 hg w16 hbox hb;replace HO_500000:=am (Kd.R_below (Kd.R_elderB (rs HO_500000) gb70 (Nat.le_of_eq hg.symm)) hb);replace HO_500001:=am (Kd.R_below (rs HO_500001) hb);replace HO_500002:=am (Kd.R_below (Kd.R_elderB (rs HO_500002) gb70 (Nat.le_of_eq hg.symm)) hb);have BK70:=am (hbox);have GW70:=gw hg HB;replace HB:=bq HB hb;have NB73_70:=na hg BK73;have NB70_73:=nc hg BK73;replace BK73:=bb BK73 hb;have NB72_70:=na hg BK72;have NB70_72:=nc hg BK72;replace BK72:=bb BK72 hb;clear hb hbox hg;have hnb17:=NB70_73.out;have hnc17:=NB73_70.out;have hnb18:=NB70_72.out;have hnc18:=NB72_70.out;have hcz19:=cf5 BK70))
      (try simp only [Act.put,List.setIfInBounds_toArray,List.set_cons_zero,List.set_cons_succ])
      go_cut [34] (fun v34 wc=>∃ (kq:Nat) (x34_14:Bool),v34=.bool x34_14∧Aside0 (impl_OutboxTick.j1 kq a1 l0 (l0.length:Int) x22_1 x34_14 x76_1 x78_1 x77_1 0 ((rd_T102 l0 x22_1).f0) ((rd_T102 l0 x22_1).f1) ((rd_T102 l0 x22_1).f2) ((rd_T102 l0 x22_1).f3) ((rd_T102 l0 x22_1).f4)=some (r1,r2,r3,r4))∧Aside0 (kq≤k1)∧Aside0 (Kd.R k102 102 wc w.heap.size (fun k_=>some k_≠(u500002:Value).ownBlock∧k_≠gb70) u500000 x76_1)∧Aside0 (Kd.R k104 104 wc w.heap.size (fun _=>True) u500001 x78_1)∧Aside0 (Kd.R k102 102 wc w.heap.size (fun k_=>some k_≠(u500000:Value).ownBlock∧k_≠gb70) u500002 x77_1)∧Aside0 (wc.heap[gb73]? = some (.cells #[(.slice none 0 0),(.slice none 0 0),(.slice none 0 0),.int .i64 0] 36 (0,0)))∧Aside0 (wc.heap[gb72]? = some (.cells #[u500000,u500001,u500002,.int .i64 0] 36 (0,0)))∧Aside0 (wc.heap[gb70]? = some (.cells #[.string ((rd_T102 l0 x22_1).f0),.int .i64 ((rd_T102 l0 x22_1).f1),.string ((rd_T102 l0 x22_1).f2),.int .i64 ((rd_T102 l0 x22_1).f3),.int .i64 ((rd_T102 l0 x22_1).f4)] 102 (0,0)))∧Aside0 (Below w.heap.size w wc))
      case first =>
       have H:=HC15.out;clear HC15
       revert H;refine id2 ?_ ?_
       ·intro c20b0 H
        (first|rw [c20b0]|(simp only [i64_w,i32_w];rw [c20b0])|skip)
        have H':=am H;clear H;have hnb21:=NB70_73.out;have hnc21:=NB73_70.out;have hnb22:=NB70_72.out;have hnc22:=NB72_70.out;have hcz23:=cf5 BK70
        go_wp2
        go_meet
        case rel=>exact ⟨_,((((rd_T102 l0 x22_1).f3) == 5)),fg,H',⟨by have:=HK1.out;first|omega|exact Nat.le_refl _⟩,⟨Kd.R_mono (rf (Kd.R_mono HO_500000.out (fun k_ hk=>(⟨hk,hk.2⟩:_∧k_≠gb70)))) (fun _ hk=>⟨hk.1.1,hk.1.2⟩)⟩,⟨Kd.R_mono (rf (Kd.R_types HO_500001.out BK70.out (by decide))) (fun _ hk=>trivial)⟩,⟨Kd.R_mono (rf (Kd.R_mono HO_500002.out (fun k_ hk=>(⟨hk,hk.2⟩:_∧k_≠gb70)))) (fun _ hk=>⟨hk.1.1,hk.1.2⟩)⟩,⟨ks BK73⟩,⟨ks BK72⟩,⟨kp BK70⟩,⟨bs HB⟩⟩
       ·intro c20b0 H
        (first|rw [c20b0]|(simp only [i64_w,i32_w];rw [c20b0])|skip)
        have H':=am H;clear H;have hnb24:=NB70_73.out;have hnc24:=NB73_70.out;have hnb25:=NB70_72.out;have hnc25:=NB72_70.out;have hcz26:=cf5 BK70
        go_wp2
        go_meet
        case rel=>exact ⟨_,(false),fg,H',⟨by have:=HK1.out;first|omega|exact Nat.le_refl _⟩,⟨Kd.R_mono (rf (Kd.R_mono HO_500000.out (fun k_ hk=>(⟨hk,hk.2⟩:_∧k_≠gb70)))) (fun _ hk=>⟨hk.1.1,hk.1.2⟩)⟩,⟨Kd.R_mono (rf (Kd.R_types HO_500001.out BK70.out (by decide))) (fun _ hk=>trivial)⟩,⟨Kd.R_mono (rf (Kd.R_mono HO_500002.out (fun k_ hk=>(⟨hk,hk.2⟩:_∧k_≠gb70)))) (fun _ hk=>⟨hk.1.1,hk.1.2⟩)⟩,⟨ks BK73⟩,⟨ks BK72⟩,⟨kp BK70⟩,⟨bs HB⟩⟩
      case rest =>
       clear HC15
       try clear c6b0
       try clear c6b1
       try clear c12b0
       try clear c13b0
       try clear c14b0
       try clear hcz11
       try clear hcz19
       try clear hx74_0
       try clear hx74_1
       try clear hx74_2
       try clear hx74_3
       try clear hx74_4
       try clear p74
       try clear q74
       obtain ⟨kq,x34_14,rfl,HA,HJ14,HO_500000,HO_500001,HO_500002,BK73,BK72,BK70,HB⟩:=hcut
       cases kq with
       | zero=>exact absurd HA.out (by simp [impl_OutboxTick.j1])
       | succ kj14 =>
        have H:=HA.out;clear HA;simp only [impl_OutboxTick.j1] at H
        obtain rfl|rfl:=bt x34_14
        ·replace H:=itT H
         revert H;refine ip1 ?_
         intro c28 H;have LMc28:=am c28;clear c28;obtain ⟨y79,hy79⟩:∃ y_:List (S102),y_=(x77_1++[(⟨((rd_T102 l0 x22_1).f0),((rd_T102 l0 x22_1).f1),((rd_T102 l0 x22_1).f2),((rd_T102 l0 x22_1).f3),((rd_T102 l0 x22_1).f4)⟩:S102)]):=⟨_,rfl⟩
         replace H:(impl_OutboxTick.l0 kj14 a1 l0 (l0.length:Int) (wrap64 (x22_1+1)) x76_1 x78_1 y79 0)=some (r1,r2,r3,r4):=ye hy79 H
         have Ny79:=am hy79;clear hy79;have H':=am H;clear H;have hnb29:=NB72_73.out;have hnc29:=NB73_72.out;have hnb30:=NB72_70.out;have hnc30:=NB70_72.out;have hcz31:=cf4 BK72;have hnb32:=NB70_73.out;have hnc32:=NB73_70.out;have hcz33:=cf5 BK70
         go_wp2_with (first|((with_reducible refine gate_builtin (b:=.append) (xs:=#[.tmp 36,.tmp 38]) rfl ?_);at_builtin;refine Kd.R_append k102 (w0:=w) w.heap.size rfl (.tmp 36) (.tmp 38) 33 102 (.agg #[(.string ⟨#[]⟩),(.int .i64 0),(.string ⟨#[]⟩),(.int .i64 0),(.int .i64 0)]) 56 rfl Tryz.underlying33 info102 rfl (by decide) (by omega) u500002 x77_1 (⟨((rd_T102 l0 x22_1).f0),((rd_T102 l0 x22_1).f1),((rd_T102 l0 x22_1).f2),((rd_T102 l0 x22_1).f3),((rd_T102 l0 x22_1).f4)⟩:S102) [.string ((rd_T102 l0 x22_1).f0),.int .i64 ((rd_T102 l0 x22_1).f1),.string ((rd_T102 l0 x22_1).f2),.int .i64 ((rd_T102 l0 x22_1).f3),.int .i64 ((rd_T102 l0 x22_1).f4)] (fun k_=>some k_≠(u500000:Value).ownBlock∧k_≠gb70) (fun _=>False) rfl rfl ?aP (fun _ hk=>hk.elim) ?aF ?aO ?aB ?aS ?aL ?_;(case aP=>exact k102_mkM _ _ _ (⟨((rd_T102 l0 x22_1).f0),((rd_T102 l0 x22_1).f1),((rd_T102 l0 x22_1).f2),((rd_T102 l0 x22_1).f3),((rd_T102 l0 x22_1).f4)⟩:S102));(case aB=>exact (bs HB));(case aF=>exact (fun k_ hk=>⟨Kd.fresh' (Kd.R_lt (rs HO_500000)) k_ hk,Kd.freshB (g:=gb70) (o:=.cells #[.string ((rd_T102 l0 x22_1).f0),.int .i64 ((rd_T102 l0 x22_1).f1),.string ((rd_T102 l0 x22_1).f2),.int .i64 ((rd_T102 l0 x22_1).f3),.int .i64 ((rd_T102 l0 x22_1).f4)] 102 (0,0)) (ks BK70) k_ hk⟩));(case aO=>exact (rs HO_500002));(case aS=>exact (below_size (bs HB)));(case aL=>have:=LMc28.out;omega);intro v88 w34 ho hb hg hat;rw [← Ny79.out] at ho;have n0_:=am (Kd.R_after (ok:=(fun k_=>k_≠gb70)) (by (with_reducible repeat (first|apply Kd.R_alloc|apply Kd.R_drewN|apply Kd.R_drew));exact Kd.R_mono HO_500000.out (fun _ hk=>⟨hk.2,hk.1⟩)) hg hat);have n1_:=am (Kd.R_over' (rs HO_500001) (Kd.R_typed (rs HO_500002)) (by decide) hg);have n2_:=am (blk_grown (ks BK73) hg (Kd.R_ne HO_500002.out BK73.out (by decide)));have n3_:=am (blk_grown (ks BK72) hg (Kd.R_ne HO_500002.out BK72.out (by decide)));have n4_:=am (blk_grown (ks BK70) hg (Kd.R_away HO_500002.out (fun _ hk=>hk.2)));have n5_:=am (hb);have n6_:=am (ho);clear HO_500000;clear HO_500001;clear BK73;clear BK72;clear BK70;clear HB;clear HO_500002;have HO_500000:=n0_;have HO_500001:=n1_;have BK73:=n2_;have BK72:=n3_;have BK70:=n4_;have HB:=n5_;have HO85:=n6_;clear n0_ n1_ n2_ n3_ n4_ n5_ n6_;clear ho hb hg hat;obtain ⟨Ao35,co35,eo35⟩:=Kd.R_slice HO85.out;subst eo35;have hcz36:=cf4 BK72))
         go_roundg kj14
         case measure=>have:=HK1.out;have:=HJ14.out;omega
         case rel=>exact ⟨(wrap64 (x22_1+1)),(x76_1),(x78_1),(y79),(u500000),(u500001),(.slice Ao35 y79.length co35),fg,H',⟨by have:=HK1.out;have:=HJ14.out;omega⟩,⟨Kd.R_mono (rf (Kd.R_types HO_500000.out BK72.out (by decide))) (fun _ hk=>hk.1.2)⟩,⟨Kd.R_mono (rf (Kd.R_types HO_500001.out BK72.out (by decide))) (fun _ hk=>trivial)⟩,⟨Kd.R_mono (rf (Kd.R_types HO85.out BK72.out (by decide))) (fun _ hk=>hk.1.1)⟩,⟨ks BK73⟩,⟨kp BK72⟩,⟨bs HB⟩⟩
        ·replace H:=itF H
         revert H;refine id2 ?_ ?_
         ·intro c37b0 H
          revert H;refine ip1 ?_
          intro c38 H;have LMc38:=am c38;clear c38;obtain ⟨y75,hy75⟩:∃ y_:List (S104),y_=(x78_1++[(⟨((rd_T102 l0 x22_1).f0),((rd_T102 l0 x22_1).f1),((rd_T102 l0 x22_1).f2)⟩:S104)]):=⟨_,rfl⟩
          replace H:(if x76_1.length<2513169434916 then (impl_OutboxTick.l0 kj14 a1 l0 (l0.length:Int) (wrap64 (x22_1+1)) (x76_1++[(⟨((rd_T102 l0 x22_1).f0),((rd_T102 l0 x22_1).f1),((rd_T102 l0 x22_1).f2),wrap64 (((rd_T102 l0 x22_1).f3)+1),mn (wrap64 (a1+(wrap64 (3 * (wrap64 (((rd_T102 l0 x22_1).f3)+1)))))) 100000⟩:S102)]) y75 x77_1 0) else (none))=some (r1,r2,r3,r4):=ye hy75 H
          have Ny75:=am hy75;clear hy75;obtain ⟨ji39,hji39⟩:∃ j_:Int,(mn (wrap64 (a1+(wrap64 (3 * (wrap64 (((rd_T102 l0 x22_1).f3)+1)))))) 100000)=j_:=⟨_,rfl⟩
          replace H:(if x76_1.length<2513169434916 then (impl_OutboxTick.l0 kj14 a1 l0 (l0.length:Int) (wrap64 (x22_1+1)) (x76_1++[(⟨((rd_T102 l0 x22_1).f0),((rd_T102 l0 x22_1).f1),((rd_T102 l0 x22_1).f2),wrap64 (((rd_T102 l0 x22_1).f3)+1),ji39⟩:S102)]) y75 x77_1 0) else (none))=some (r1,r2,r3,r4):=by first|(rw [hji39] at H;exact H)|(simp only [hji39] at H ⊢;exact H)
          have hji39_:(if 100000<(wrap64 (a1+(wrap64 (3 * (wrap64 (((rd_T102 l0 x22_1).f3)+1)))))) then 100000 else (wrap64 (a1+(wrap64 (3 * (wrap64 (((rd_T102 l0 x22_1).f3)+1)))))))=ji39:=hji39
          revert H;refine ip1 ?_
          intro c40 H;have LMc40:=am c40;clear c40;obtain ⟨y80,hy80⟩:∃ y_:List (S102),y_=(x76_1++[(⟨((rd_T102 l0 x22_1).f0),((rd_T102 l0 x22_1).f1),((rd_T102 l0 x22_1).f2),wrap64 (((rd_T102 l0 x22_1).f3)+1),ji39⟩:S102)]):=⟨_,rfl⟩
          replace H:(impl_OutboxTick.l0 kj14 a1 l0 (l0.length:Int) (wrap64 (x22_1+1)) y80 y75 x77_1 0)=some (r1,r2,r3,r4):=ye hy80 H
          have Ny80:=am hy80;clear hy80;have H':=am H;clear H;have hnb41:=NB70_73.out;have hnc41:=NB73_70.out;have hnb42:=NB70_72.out;have hnc42:=NB72_70.out;have hcz43:=cf5 BK70;have hnb44:=NB72_73.out;have hnc44:=NB73_72.out;have hcz45:=cf4 BK72
          go_wp2_with (first|((with_reducible refine gate_builtin (b:=.append) (xs:=#[.tmp 46,.tmp 54]) rfl ?_);at_builtin;refine Kd.R_append k104 (w0:=w) w.heap.size rfl (.tmp 46) (.tmp 54) 34 104 (.agg #[(.string ⟨#[]⟩),(.int .i64 0),(.string ⟨#[]⟩)]) 40 rfl Tryz.underlying34 info104 rfl (by decide) (by omega) u500001 x78_1 (⟨((rd_T102 l0 x22_1).f0),((rd_T102 l0 x22_1).f1),((rd_T102 l0 x22_1).f2)⟩:S104) [.string ((rd_T102 l0 x22_1).f0),.int .i64 ((rd_T102 l0 x22_1).f1),.string ((rd_T102 l0 x22_1).f2)] (fun _=>True) (fun _=>False) rfl rfl ?aP (fun _ hk=>hk.elim) ?aF ?aO ?aB ?aS ?aL ?_;(case aP=>exact k104_mkM _ _ _ (⟨((rd_T102 l0 x22_1).f0),((rd_T102 l0 x22_1).f1),((rd_T102 l0 x22_1).f2)⟩:S104));(case aB=>exact (bs HB));(case aF=>exact (fun _ _=>trivial));(case aO=>exact (rs HO_500001));(case aS=>exact (below_size (bs HB)));(case aL=>have:=LMc38.out;omega);intro v89 w46 ho hb hg hat;rw [← Ny75.out] at ho;have n0_:=am (Kd.R_over' (rs HO_500000) (Kd.R_typed (rs HO_500001)) (by decide) hg);have n1_:=am (Kd.R_over' (rs HO_500002) (Kd.R_typed (rs HO_500001)) (by decide) hg);have n2_:=am (blk_grown (ks BK73) hg (Kd.R_ne HO_500001.out BK73.out (by decide)));have n3_:=am (blk_grown (ks BK72) hg (Kd.R_ne HO_500001.out BK72.out (by decide)));have n4_:=am (blk_grown (ks BK70) hg (Kd.R_ne HO_500001.out BK70.out (by decide)));have n5_:=am (hb);have n6_:=am (ho);clear HO_500000;clear HO_500002;clear BK73;clear BK72;clear BK70;clear HB;clear HO_500001;have HO_500000:=n0_;have HO_500002:=n1_;have BK73:=n2_;have BK72:=n3_;have BK70:=n4_;have HB:=n5_;have HO82:=n6_;clear n0_ n1_ n2_ n3_ n4_ n5_ n6_;clear ho hb hg hat;obtain ⟨Ao47,co47,eo47⟩:=Kd.R_slice HO82.out;subst eo47;have hcz48:=cf4 BK72;have hcz49_0:w46.cell? ⟨gb70,0,none⟩=some (.string ((rd_T102 l0 x22_1).f0)):=(blk_cell BK70.out 0).trans rfl;have hcz49_1:w46.cell? ⟨gb70,1,none⟩=some (.int .i64 ((rd_T102 l0 x22_1).f1)):=(blk_cell BK70.out 1).trans rfl;have hcz49_2:w46.cell? ⟨gb70,2,none⟩=some (.string ((rd_T102 l0 x22_1).f2)):=(blk_cell BK70.out 2).trans rfl;have hcz49_3:w46.cell? ⟨gb70,3,none⟩=some (.int .i64 ((rd_T102 l0 x22_1).f3)):=(blk_cell BK70.out 3).trans rfl;have hcz49_4:w46.cell? ⟨gb70,4,none⟩=some (.int .i64 ((rd_T102 l0 x22_1).f4)):=(blk_cell BK70.out 4).trans rfl;have hfz49_0:=blk_frozen BK70.out 0;have hfz49_1:=blk_frozen BK70.out 1;have hfz49_2:=blk_frozen BK70.out 2;have hfz49_3:=blk_frozen BK70.out 3;have hfz49_4:=blk_frozen BK70.out 4)|((with_reducible refine gate_builtin (b:=.append) (xs:=#[.tmp 69,.tmp 71]) rfl ?_);at_builtin;refine Kd.R_append k102 (w0:=w) w.heap.size rfl (.tmp 69) (.tmp 71) 33 102 (.agg #[(.string ⟨#[]⟩),(.int .i64 0),(.string ⟨#[]⟩),(.int .i64 0),(.int .i64 0)]) 56 rfl Tryz.underlying33 info102 rfl (by decide) (by omega) u500000 x76_1 (⟨((rd_T102 l0 x22_1).f0),((rd_T102 l0 x22_1).f1),((rd_T102 l0 x22_1).f2),wrap64 (((rd_T102 l0 x22_1).f3)+1),ji39⟩:S102) [.string ((rd_T102 l0 x22_1).f0),.int .i64 ((rd_T102 l0 x22_1).f1),.string ((rd_T102 l0 x22_1).f2),.int .i64 (wrap64 (((rd_T102 l0 x22_1).f3)+1)),.int .i64 ji39] (fun k_=>some k_≠(u500002:Value).ownBlock∧k_≠gb70) (fun _=>False) rfl (by first|(go_simp;done)|(go_simp;rfl)) ?aP (fun _ hk=>hk.elim) ?aF ?aO ?aB ?aS ?aL ?_;(case aP=>exact k102_mkM _ _ _ (⟨((rd_T102 l0 x22_1).f0),((rd_T102 l0 x22_1).f1),((rd_T102 l0 x22_1).f2),wrap64 (((rd_T102 l0 x22_1).f3)+1),ji39⟩:S102));(case aB=>exact (bs HB));(case aF=>exact (fun k_ hk=>⟨Kd.fresh' (Kd.R_lt (by (with_reducible repeat (first|apply Kd.R_alloc|apply Kd.R_drewN|apply Kd.R_drew));exact (Kd.R_mono (Kd.R_mono (Kd.R_far (p:=⟨gb70,4,none⟩) (Kd.R_far (p:=⟨gb70,3,none⟩) (Kd.R_far (p:=⟨gb72,1,none⟩) (Kd.R_mono (Kd.R_types HO_500002.out BK72.out (by decide)) (fun k_ hk=>(⟨hk,hk.1.2⟩:_∧k_≠gb70))) (fun _ hk=>hk.1.2) (.slice Ao47 y75.length co47)) (fun _ hk=>hk.2) (.int .i64 (wrap64 (((rd_T102 l0 x22_1).f3)+1)))) (fun _ hk=>hk.2) (.int .i64 ji39)) (fun _ h_=>h_.1)) (fun _ h_=>h_.1)))) k_ hk,Kd.freshB (g:=gb70) (o:=.cells #[.string ((rd_T102 l0 x22_1).f0),.int .i64 ((rd_T102 l0 x22_1).f1),.string ((rd_T102 l0 x22_1).f2),.int .i64 (wrap64 (((rd_T102 l0 x22_1).f3)+1)),.int .i64 ji39] 102 (0,0)) (kp BK70) k_ hk⟩));(case aO=>exact (by (with_reducible repeat (first|apply Kd.R_alloc|apply Kd.R_drewN|apply Kd.R_drew));exact Kd.R_mono (Kd.R_far (p:=⟨gb70,4,none⟩) (Kd.R_far (p:=⟨gb70,3,none⟩) (Kd.R_far (p:=⟨gb72,1,none⟩) (Kd.R_mono (Kd.R_types HO_500000.out BK72.out (by decide)) (fun k_ hk=>(⟨hk,hk.1.2⟩:_∧k_≠gb70))) (fun _ hk=>hk.1.2) (.slice Ao47 y75.length co47)) (fun _ hk=>hk.2) (.int .i64 (wrap64 (((rd_T102 l0 x22_1).f3)+1)))) (fun _ hk=>hk.2) (.int .i64 ji39)) (fun _ hk=>⟨hk.1.1.1,hk.1.1.2⟩)));(case aS=>exact (below_size (bs HB)));(case aL=>have:=LMc40.out;omega);intro v90 w50 ho hb hg hat;rw [← Ny80.out] at ho;have n0_:=am (Kd.R_after (ok:=(fun k_=>k_≠gb70)) (by (with_reducible repeat (first|apply Kd.R_alloc|apply Kd.R_drewN|apply Kd.R_drew));exact Kd.R_mono (Kd.R_far (p:=⟨gb70,4,none⟩) (Kd.R_far (p:=⟨gb70,3,none⟩) (Kd.R_far (p:=⟨gb72,1,none⟩) (Kd.R_mono (Kd.R_types HO_500002.out BK72.out (by decide)) (fun k_ hk=>(⟨hk,hk.1.2⟩:_∧k_≠gb70))) (fun _ hk=>hk.1.2) (.slice Ao47 y75.length co47)) (fun _ hk=>hk.2) (.int .i64 (wrap64 (((rd_T102 l0 x22_1).f3)+1)))) (fun _ hk=>hk.2) (.int .i64 ji39)) (fun _ hk=>⟨hk.1.1.2,hk.1.1.1⟩)) hg hat);have n1_:=am (blk_grown (ks BK73) hg (Kd.R_ne HO_500000.out BK73.out (by decide)));have n2_:=am (blk_grown (g:=gb72) (o:=.cells #[u500000,.slice Ao47 y75.length co47,u500002,.int .i64 0] 36 (0,0)) (kp BK72) hg (Kd.R_ne HO_500000.out BK72.out (by decide)));have n3_:=am (blk_grown (g:=gb70) (o:=.cells #[.string ((rd_T102 l0 x22_1).f0),.int .i64 ((rd_T102 l0 x22_1).f1),.string ((rd_T102 l0 x22_1).f2),.int .i64 (wrap64 (((rd_T102 l0 x22_1).f3)+1)),.int .i64 ji39] 102 (0,0)) (kp BK70) hg (Kd.R_away HO_500000.out (fun _ hk=>hk.2)));have n4_:=am (Kd.R_over' (by (with_reducible repeat (first|apply Kd.R_alloc|apply Kd.R_drewN|apply Kd.R_drew));exact (Kd.R_mono (Kd.R_mono (Kd.R_far (p:=⟨gb70,4,none⟩) (Kd.R_far (p:=⟨gb70,3,none⟩) (Kd.R_far (p:=⟨gb72,1,none⟩) (Kd.R_types (Kd.R_types HO82.out BK72.out (by decide)) BK70.out (by decide)) (fun _ hk=>hk.1.2) (.slice Ao47 y75.length co47)) (fun _ hk=>hk.2) (.int .i64 (wrap64 (((rd_T102 l0 x22_1).f3)+1)))) (fun _ hk=>hk.2) (.int .i64 ji39)) (fun _ h_=>h_.1)) (fun _ h_=>h_.1))) (Kd.R_typed (by (with_reducible repeat (first|apply Kd.R_alloc|apply Kd.R_drewN|apply Kd.R_drew));exact (Kd.R_mono (Kd.R_mono (Kd.R_far (p:=⟨gb70,4,none⟩) (Kd.R_far (p:=⟨gb70,3,none⟩) (Kd.R_far (p:=⟨gb72,1,none⟩) (Kd.R_mono (Kd.R_types HO_500000.out BK72.out (by decide)) (fun k_ hk=>(⟨hk,hk.1.2⟩:_∧k_≠gb70))) (fun _ hk=>hk.1.2) (.slice Ao47 y75.length co47)) (fun _ hk=>hk.2) (.int .i64 (wrap64 (((rd_T102 l0 x22_1).f3)+1)))) (fun _ hk=>hk.2) (.int .i64 ji39)) (fun _ h_=>h_.1)) (fun _ h_=>h_.1)))) (by decide) hg);have n5_:=am (hb);have n6_:=am (ho);clear HO_500002;clear BK73;clear BK72;clear BK70;clear HO82;clear HB;clear HO_500000;have HO_500002:=n0_;have BK73:=n1_;have BK72:=n2_;have BK70:=n3_;have HO82:=n4_;have HB:=n5_;have HO86:=n6_;clear n0_ n1_ n2_ n3_ n4_ n5_ n6_;clear ho hb hg hat;obtain ⟨Ao51,co51,eo51⟩:=Kd.R_slice HO86.out;subst eo51;have hcz52:=cf4 BK72))
          go_roundg kj14
          case measure=>have:=HK1.out;have:=HJ14.out;omega
          case rel=>exact ⟨(wrap64 (x22_1+1)),(y80),(y75),(x77_1),(.slice Ao51 y80.length co51),(.slice Ao47 y75.length co47),(u500002),fg,H',⟨by have:=HK1.out;have:=HJ14.out;omega⟩,⟨Kd.R_mono (rf (Kd.R_types HO86.out BK72.out (by decide))) (fun _ hk=>hk.1.1)⟩,⟨Kd.R_mono (rf (Kd.R_types HO82.out BK72.out (by decide))) (fun _ hk=>trivial)⟩,⟨Kd.R_mono (rf (Kd.R_types HO_500002.out BK72.out (by decide))) (fun _ hk=>hk.1.2)⟩,⟨ks BK73⟩,⟨kp BK72⟩,⟨bs HB⟩⟩
         ·intro c37b0 H
          revert H;refine ip1 ?_
          intro c53 H;have LMc53:=am c53;clear c53;obtain ⟨y81,hy81⟩:∃ y_:List (S102),y_=(x76_1++[(⟨((rd_T102 l0 x22_1).f0),((rd_T102 l0 x22_1).f1),((rd_T102 l0 x22_1).f2),((rd_T102 l0 x22_1).f3),((rd_T102 l0 x22_1).f4)⟩:S102)]):=⟨_,rfl⟩
          replace H:(impl_OutboxTick.l0 kj14 a1 l0 (l0.length:Int) (wrap64 (x22_1+1)) y81 x78_1 x77_1 0)=some (r1,r2,r3,r4):=ye hy81 H
          have Ny81:=am hy81;clear hy81;have H':=am H;clear H;have hnb54:=NB70_73.out;have hnc54:=NB73_70.out;have hnb55:=NB70_72.out;have hnc55:=NB72_70.out;have hcz56:=cf5 BK70;have hnb57:=NB72_73.out;have hnc57:=NB73_72.out;have hcz58:=cf4 BK72
          go_wp2_with (first|((with_reducible refine gate_builtin (b:=.append) (xs:=#[.tmp 69,.tmp 71]) rfl ?_);at_builtin;refine Kd.R_append k102 (w0:=w) w.heap.size rfl (.tmp 69) (.tmp 71) 33 102 (.agg #[(.string ⟨#[]⟩),(.int .i64 0),(.string ⟨#[]⟩),(.int .i64 0),(.int .i64 0)]) 56 rfl Tryz.underlying33 info102 rfl (by decide) (by omega) u500000 x76_1 (⟨((rd_T102 l0 x22_1).f0),((rd_T102 l0 x22_1).f1),((rd_T102 l0 x22_1).f2),((rd_T102 l0 x22_1).f3),((rd_T102 l0 x22_1).f4)⟩:S102) [.string ((rd_T102 l0 x22_1).f0),.int .i64 ((rd_T102 l0 x22_1).f1),.string ((rd_T102 l0 x22_1).f2),.int .i64 ((rd_T102 l0 x22_1).f3),.int .i64 ((rd_T102 l0 x22_1).f4)] (fun k_=>some k_≠(u500002:Value).ownBlock∧k_≠gb70) (fun _=>False) rfl rfl ?aP (fun _ hk=>hk.elim) ?aF ?aO ?aB ?aS ?aL ?_;(case aP=>exact k102_mkM _ _ _ (⟨((rd_T102 l0 x22_1).f0),((rd_T102 l0 x22_1).f1),((rd_T102 l0 x22_1).f2),((rd_T102 l0 x22_1).f3),((rd_T102 l0 x22_1).f4)⟩:S102));(case aB=>exact (bs HB));(case aF=>exact (fun k_ hk=>⟨Kd.fresh' (Kd.R_lt (rs HO_500002)) k_ hk,Kd.freshB (g:=gb70) (o:=.cells #[.string ((rd_T102 l0 x22_1).f0),.int .i64 ((rd_T102 l0 x22_1).f1),.string ((rd_T102 l0 x22_1).f2),.int .i64 ((rd_T102 l0 x22_1).f3),.int .i64 ((rd_T102 l0 x22_1).f4)] 102 (0,0)) (ks BK70) k_ hk⟩));(case aO=>exact (rs HO_500000));(case aS=>exact (below_size (bs HB)));(case aL=>have:=LMc53.out;omega);intro v91 w59 ho hb hg hat;rw [← Ny81.out] at ho;have n0_:=am (Kd.R_over' (rs HO_500001) (Kd.R_typed (rs HO_500000)) (by decide) hg);have n1_:=am (Kd.R_after (ok:=(fun k_=>k_≠gb70)) (by (with_reducible repeat (first|apply Kd.R_alloc|apply Kd.R_drewN|apply Kd.R_drew));exact Kd.R_mono HO_500002.out (fun _ hk=>⟨hk.2,hk.1⟩)) hg hat);have n2_:=am (blk_grown (ks BK73) hg (Kd.R_ne HO_500000.out BK73.out (by decide)));have n3_:=am (blk_grown (ks BK72) hg (Kd.R_ne HO_500000.out BK72.out (by decide)));have n4_:=am (blk_grown (ks BK70) hg (Kd.R_away HO_500000.out (fun _ hk=>hk.2)));have n5_:=am (hb);have n6_:=am (ho);clear HO_500001;clear HO_500002;clear BK73;clear BK72;clear BK70;clear HB;clear HO_500000;have HO_500001:=n0_;have HO_500002:=n1_;have BK73:=n2_;have BK72:=n3_;have BK70:=n4_;have HB:=n5_;have HO87:=n6_;clear n0_ n1_ n2_ n3_ n4_ n5_ n6_;clear ho hb hg hat;obtain ⟨Ao60,co60,eo60⟩:=Kd.R_slice HO87.out;subst eo60;have hcz61:=cf4 BK72))
          go_roundg kj14
          case measure=>have:=HK1.out;have:=HJ14.out;omega
          case rel=>exact ⟨(wrap64 (x22_1+1)),(y81),(x78_1),(x77_1),(.slice Ao60 y81.length co60),(u500001),(u500002),fg,H',⟨by have:=HK1.out;have:=HJ14.out;omega⟩,⟨Kd.R_mono (rf (Kd.R_types HO87.out BK72.out (by decide))) (fun _ hk=>hk.1.1)⟩,⟨Kd.R_mono (rf (Kd.R_types HO_500001.out BK72.out (by decide))) (fun _ hk=>trivial)⟩,⟨Kd.R_mono (rf (Kd.R_types HO_500002.out BK72.out (by decide))) (fun _ hk=>hk.1.2)⟩,⟨ks BK73⟩,⟨kp BK72⟩,⟨bs HB⟩⟩
     ·intro c12b0 H;replace H:=sj4 H;obtain ⟨rfl,rfl,rfl,rfl⟩:=H;have hnb62:=NB72_73.out;have hnc62:=NB73_72.out;have hcz63:=cf4 BK72;obtain ⟨Ao64,co64,eo64⟩:=Kd.R_slice HO_500000.out;subst eo64;have hcz65:=cf4 BK73;obtain ⟨Ao66,co66,eo66⟩:=Kd.R_slice HO_500001.out;subst eo66;obtain ⟨Ao67,co67,eo67⟩:=Kd.R_slice HO_500002.out;subst eo67
      go_wp2
      refine bodyPost_ret (results_cell_row rfl _ _ gb73 36 #[.slice Ao64 x76_1.length co64,.slice Ao66 x78_1.length co66,.slice Ao67 x77_1.length co67,.int .i64 0] (0,0) _ rfl (kp BK73) Tryz.underlying36 rfl (by kernel_rfl)) rfl ?_
      exact ⟨_,_,_,ff,Kd.R_mono (rf (Kd.R_types HO_500000.out BK73.out (by decide))) (fun _ hk=>hk.1),Kd.R_mono (rf (Kd.R_types HO_500001.out BK73.out (by decide))) (fun _ hk=>trivial),Kd.R_mono (rf (Kd.R_types HO_500002.out BK73.out (by decide))) (fun _ hk=>hk.1),bs HB⟩
  ·replace H:=itF H;replace H:=sj4 H;obtain ⟨rfl,rfl,rfl,rfl⟩:=H;have hcz68:=cf4 BK73
   go_wp2
   refine bodyPost_ret (results_cell_row rfl _ _ gb73 36 #[.slice none 0 0,.slice none 0 0,.slice none 0 0,.int .i64 1] (0,0) _ rfl (kp BK73) Tryz.underlying36 rfl (by kernel_rfl)) rfl ?_
   exact ⟨_,_,_,ff,by first|exact Kd.R_nil _ _ _ _ _|exact Kd.N_nil _ _ _ _ _|exact Kd.V_nil _ _ _ _ _|exact Kd.Q_nil _ _ _ _ _|exact Kd.S_nil _ _ _ _ _,by first|exact Kd.R_nil _ _ _ _ _|exact Kd.N_nil _ _ _ _ _|exact Kd.V_nil _ _ _ _ _|exact Kd.Q_nil _ _ _ _ _|exact Kd.S_nil _ _ _ _ _,by first|exact Kd.R_nil _ _ _ _ _|exact Kd.N_nil _ _ _ _ _|exact Kd.V_nil _ _ _ _ _|exact Kd.Q_nil _ _ _ _ _|exact Kd.S_nil _ _ _ _ _,bs HB⟩
 ·intro c6 c6b0 c6b1 H;replace H:=sj4 H;obtain ⟨rfl,rfl,rfl,rfl⟩:=H;have hcz69:=cf4 BK73
  go_wp2
  refine bodyPost_ret (results_cell_row rfl _ _ gb73 36 #[.slice none 0 0,.slice none 0 0,.slice none 0 0,.int .i64 t83] (0,0) _ rfl (kp BK73) Tryz.underlying36 rfl (by kernel_rfl)) rfl ?_
  exact ⟨_,_,_,ff,by first|exact Kd.R_nil _ _ _ _ _|exact Kd.N_nil _ _ _ _ _|exact Kd.V_nil _ _ _ _ _|exact Kd.Q_nil _ _ _ _ _|exact Kd.S_nil _ _ _ _ _,by first|exact Kd.R_nil _ _ _ _ _|exact Kd.N_nil _ _ _ _ _|exact Kd.V_nil _ _ _ _ _|exact Kd.Q_nil _ _ _ _ _|exact Kd.S_nil _ _ _ _ _,by first|exact Kd.R_nil _ _ _ _ _|exact Kd.N_nil _ _ _ _ _|exact Kd.V_nil _ _ _ _ _|exact Kd.Q_nil _ _ _ _ _|exact Kd.S_nil _ _ _ _ _,bs HB⟩
theorem impl_GateDay.calls (k:Nat) (a0_0:ByteArray) (a0_1:Int) (A0_2:Option Addr) (c0_2:Nat) (l0_2:List (S101)) (A0_3:Option Addr) (c0_3:Nat) (l0_3:List (S107)) (A0_4:Option Addr) (c0_4:Nat) (l0_4:List (S134)) (A0_5:Option Addr) (c0_5:Nat) (l0_5:List (S140)) (A0_6:Option Addr) (c0_6:Nat) (l0_6:List (S111)) (A0_7:Option Addr) (c0_7:Nat) (l0_7:List (S102)) (r1:List (S102)) (r2:List (S104)) (r3:List (S102)) (r4:Int) (w:World) (hr0_2:Kd.C k101 w A0_2 l0_2.length l0_2) (hc0_2:l0_2.length≤c0_2) (hr0_3:Kd.C k107 w A0_3 l0_3.length l0_3) (hc0_3:l0_3.length≤c0_3) (hr0_4:Kd.C k134 w A0_4 l0_4.length l0_4) (hc0_4:l0_4.length≤c0_4) (hr0_5:Kd.C k140 w A0_5 l0_5.length l0_5) (hc0_5:l0_5.length≤c0_5) (hr0_6:Kd.C k111 w A0_6 l0_6.length l0_6) (hc0_6:l0_6.length≤c0_6) (hr0_7:Kd.C k102 w A0_7 l0_7.length l0_7) (hc0_7:l0_7.length≤c0_7) (H:impl_GateDay.f k a0_0 a0_1 l0_2 l0_3 l0_4 l0_5 l0_6 l0_7=some (r1,r2,r3,r4)) :
  Calls Tryz.prog 7 #[.agg #[.string a0_0,.int .i64 a0_1,.slice A0_2 l0_2.length c0_2,.slice A0_3 l0_3.length c0_3,.slice A0_4 l0_4.length c0_4,.slice A0_5 l0_5.length c0_5,.slice A0_6 l0_6.length c0_6,.slice A0_7 l0_7.length c0_7]] w fun e w'=>∃ v0_ v1_ v2_:Value,e=.returned (.agg #[v0_,v1_,v2_,.int .i64 r4])∧Kd.R k102 102 w' w.heap.size (fun k_=>some k_≠(v2_:Value).ownBlock) v0_ r1∧Kd.R k104 104 w' w.heap.size (fun _=>True) v1_ r2∧Kd.R k102 102 w' w.heap.size (fun k_=>some k_≠(v0_:Value).ownBlock) v2_ r3∧Below w.heap.size w w':=by
 have hu46:=Tryz.underlying46;have hu36:=Tryz.underlying36;have HR0_2:=am hr0_2;have HC0_2:=am hc0_2;clear hr0_2 hc0_2;have HR0_3:=am hr0_3;have HC0_3:=am hc0_3;clear hr0_3 hc0_3;have HR0_4:=am hr0_4;have HC0_4:=am hc0_4;clear hr0_4 hc0_4;have HR0_5:=am hr0_5;have HC0_5:=am hc0_5;clear hr0_5 hc0_5;have HR0_6:=am hr0_6;have HC0_6:=am hc0_6;clear hr0_6 hc0_6;have HR0_7:=am hr0_7;have HC0_7:=am hc0_7;clear hr0_7 hc0_7;have HB:=am (Below.refl w.heap.size w);unfold impl_GateDay.f at H;replace H:=bo H;obtain ⟨t25,A2,H⟩:=H
 go_in
 try go_wp2_with (first|((with_reducible refine gate_dst (N:=1) rfl ?_);refine bz 1 (cs:=#[.string a0_0,.int .i64 a0_1,.slice A0_2 l0_2.length c0_2,.slice A0_3 l0_3.length c0_3,.slice A0_4 l0_4.length c0_4,.slice A0_5 l0_5.length c0_5,.slice A0_6 l0_6.length c0_6,.slice A0_7 l0_7.length c0_7]) (t:=46) HB ?_;clear HB;intro gb20 hg w3 BK20 GW20 hb HB;clear hb hg)|((with_reducible refine gate_dst (N:=2) rfl ?_);refine bz 2 (cs:=#[.slice none 0 0,.slice none 0 0,.slice none 0 0,.int .i64 0]) (t:=36) HB ?_;clear HB;intro gb19 hg w4 BK19 GW19 hb HB;have NB20_19:=na hg BK20;have NB19_20:=nc hg BK20;replace BK20:=bb BK20 hb;clear hb hg;have hnb5:=NB20_19.out;have hnc5:=NB19_20.out;have hcz6:=cf8 BK20))
 go_at_call 26;(with_reducible refine (impl_GateRight.calls k a0_0 a0_1 _ _ l0_2 _ _ l0_3 _ _ l0_4 _ _ l0_5 _ _ l0_6 _ _ l0_7 t25 _ (Kd.C_below HR0_2.out (bs HB)) HC0_2.out (Kd.C_below HR0_3.out (bs HB)) HC0_3.out (Kd.C_below HR0_4.out (bs HB)) HC0_4.out (Kd.C_below HR0_5.out (bs HB)) HC0_5.out (Kd.C_below HR0_6.out (bs HB)) HC0_6.out (Kd.C_below HR0_7.out (bs HB)) HC0_7.out A2.out).mono ?_);rintro e w7 ⟨rfl,hb⟩;replace BK20:=bb BK20 hb;replace BK19:=bb BK19 hb;replace HB:=bq HB hb;(try clear hb);(try clear hb2);(try clear hk);(try clear hi)
 obtain rfl|rfl:=bt t25
 ·replace H:=itT H;replace H:=bo H;obtain ⟨⟨t21,t22,t23,t24⟩,A9,H⟩:=H;(try dsimp only at H);replace H:=sj4 H;obtain ⟨rfl,rfl,rfl,rfl⟩:=H;have hnb10:=NB20_19.out;have hnc10:=NB19_20.out;have hcz11:=cf8 BK20
  go_wp2_with (first|((first|((with_reducible refine gate_callee (f:=27) rfl ?_);refine goesL_ (some 11) rfl rfl Tryz.func27 (by kernel_rfl) rfl #[.slice A0_7 l0_7.length c0_7,.int .i64 a0_1] rfl (by (try simp only [List.map_toArray,List.map_cons,List.map_nil]);first|done|rfl|(simp only [List.length_drop,List.length_take];rfl)) ?_;(with_reducible refine (impl_OutboxTick.calls k _ _ l0_7 a0_1 t21 t22 t23 t24 _ (Kd.C_below HR0_7.out (bs HB)) HC0_7.out A9.out).mono ?_);rintro e w12 ⟨v31,v32,v33,rfl,ho0,ho1,ho2,hb⟩;refine ⟨_,rfl,?_⟩)|(go_at_call 27;(with_reducible refine (impl_OutboxTick.calls k _ _ l0_7 a0_1 t21 t22 t23 t24 _ (Kd.C_below HR0_7.out (bs HB)) HC0_7.out A9.out).mono ?_);rintro e w12 ⟨v31,v32,v33,rfl,ho0,ho1,ho2,hb⟩));have HO28:=am (Kd.R_lower ho0 (below_size (bs HB)));have HO29:=am (Kd.R_lower ho1 (below_size (bs HB)));have HO30:=am (Kd.R_lower ho2 (below_size (bs HB)));replace BK20:=bb BK20 hb;replace BK19:=bb BK19 hb;replace HB:=bq HB hb;(try clear hb);(try clear hb2);(try clear hk);(try clear hi);(try clear ho0);(try clear ho1);(try clear ho2);obtain ⟨Ao13,co13,eo13⟩:=Kd.R_slice HO28.out;subst eo13;have hcz14:=cf4 BK19;obtain ⟨Ao15,co15,eo15⟩:=Kd.R_slice HO29.out;subst eo15;obtain ⟨Ao16,co16,eo16⟩:=Kd.R_slice HO30.out;subst eo16))
  refine bodyPost_ret (results_cell_row rfl _ _ gb19 36 #[.slice Ao13 t21.length co13,.slice Ao15 t22.length co15,.slice Ao16 t23.length co16,.int .i64 t24] (0,0) _ rfl (kp BK19) Tryz.underlying36 rfl (by kernel_rfl)) rfl ?_
  exact ⟨_,_,_,ff,Kd.R_mono (rf (Kd.R_types HO28.out BK19.out (by decide))) (fun _ hk=>hk.1),Kd.R_mono (rf (Kd.R_types HO29.out BK19.out (by decide))) (fun _ hk=>trivial),Kd.R_mono (rf (Kd.R_types HO30.out BK19.out (by decide))) (fun _ hk=>hk.1),bs HB⟩
 ·replace H:=itF H;replace H:=sj4 H;obtain ⟨rfl,rfl,rfl,rfl⟩:=H;have hnb17:=NB19_20.out;have hnc17:=NB20_19.out;have hcz18:=cf4 BK19
  go_wp2
  refine bodyPost_ret (results_cell_row rfl _ _ gb19 36 #[.slice none 0 0,.slice none 0 0,.slice none 0 0,.int .i64 1] (0,0) _ rfl (kp BK19) Tryz.underlying36 rfl (by kernel_rfl)) rfl ?_
  exact ⟨_,_,_,ff,by first|exact Kd.R_nil _ _ _ _ _|exact Kd.N_nil _ _ _ _ _|exact Kd.V_nil _ _ _ _ _|exact Kd.Q_nil _ _ _ _ _|exact Kd.S_nil _ _ _ _ _,by first|exact Kd.R_nil _ _ _ _ _|exact Kd.N_nil _ _ _ _ _|exact Kd.V_nil _ _ _ _ _|exact Kd.Q_nil _ _ _ _ _|exact Kd.S_nil _ _ _ _ _,by first|exact Kd.R_nil _ _ _ _ _|exact Kd.N_nil _ _ _ _ _|exact Kd.V_nil _ _ _ _ _|exact Kd.Q_nil _ _ _ _ _|exact Kd.S_nil _ _ _ _ _,bs HB⟩
theorem laws_eqOut.calls (a0_0:ByteArray) (a0_1:Int) (a0_2:ByteArray) (a0_3:Int) (a0_4:Int) (a1_0:ByteArray) (a1_1:Int) (a1_2:ByteArray) (a1_3:Int) (a1_4:Int) (r:Bool) (w:World) (H:laws_eqOut.f a0_0 a0_1 a0_2 a0_3 a0_4 a1_0 a1_1 a1_2 a1_3 a1_4=some r) :
  Calls Tryz.prog 68 #[.agg #[.string a0_0,.int .i64 a0_1,.string a0_2,.int .i64 a0_3,.int .i64 a0_4],.agg #[.string a1_0,.int .i64 a1_1,.string a1_2,.int .i64 a1_3,.int .i64 a1_4]] w fun e w'=>e=.returned (.bool r)∧Below w.heap.size w w':=by
 have hu102:=Tryz.underlying102;have HB:=am (Below.refl w.heap.size w);unfold laws_eqOut.f at H
 revert H;refine ie2 ?_ ?_
 ·intro c3b0 c3b1 H
  revert H;refine ie2 ?_ ?_
  ·intro c4b0 c4b1 H
   revert H;refine ie2 ?_ ?_
   ·intro c5b0 c5b1 H
    revert H;refine ie2 ?_ ?_
    ·intro c6b0 c6b1 H
     revert H;refine ie2 ?_ ?_
     ·intro c7b0 c7b1 H;obtain rfl:=si H
      go_in
      go_wp2_with (first|((with_reducible refine gate_dst (N:=2) rfl ?_);refine bz 2 (cs:=#[.string a0_0,.int .i64 a0_1,.string a0_2,.int .i64 a0_3,.int .i64 a0_4]) (t:=102) HB ?_;clear HB;intro gb38 hg w8 BK38 GW38 hb HB;clear hb hg)|((with_reducible refine gate_dst (N:=3) rfl ?_);refine bz 3 (cs:=#[.string a1_0,.int .i64 a1_1,.string a1_2,.int .i64 a1_3,.int .i64 a1_4]) (t:=102) HB ?_;clear HB;intro gb39 hg w9 BK39 GW39 hb HB;have NB38_39:=na hg BK38;have NB39_38:=nc hg BK38;replace BK38:=bb BK38 hb;clear hb hg;have hnb10:=NB38_39.out;have hnc10:=NB39_38.out;have hcz11:=cf5 BK38;have hcz12:=cf5 BK39))
      go_ret
      exact ⟨ff,bs HB⟩
     ·intro c7 c7b0 c7b1 H;obtain rfl:=si H
      go_in
      go_wp2_with (first|((with_reducible refine gate_dst (N:=2) rfl ?_);refine bz 2 (cs:=#[.string a0_0,.int .i64 a0_1,.string a0_2,.int .i64 a0_3,.int .i64 a0_4]) (t:=102) HB ?_;clear HB;intro gb38 hg w13 BK38 GW38 hb HB;clear hb hg)|((with_reducible refine gate_dst (N:=3) rfl ?_);refine bz 3 (cs:=#[.string a1_0,.int .i64 a1_1,.string a1_2,.int .i64 a1_3,.int .i64 a1_4]) (t:=102) HB ?_;clear HB;intro gb39 hg w14 BK39 GW39 hb HB;have NB38_39:=na hg BK38;have NB39_38:=nc hg BK38;replace BK38:=bb BK38 hb;clear hb hg;have hnb15:=NB38_39.out;have hnc15:=NB39_38.out;have hcz16:=cf5 BK38;have hcz17:=cf5 BK39))
      go_ret
      exact ⟨ff,bs HB⟩
    ·intro c6 c6b0 c6b1 H;obtain rfl:=si H
     go_in
     go_wp2_with (first|((with_reducible refine gate_dst (N:=2) rfl ?_);refine bz 2 (cs:=#[.string a0_0,.int .i64 a0_1,.string a0_2,.int .i64 a0_3,.int .i64 a0_4]) (t:=102) HB ?_;clear HB;intro gb38 hg w18 BK38 GW38 hb HB;clear hb hg)|((with_reducible refine gate_dst (N:=3) rfl ?_);refine bz 3 (cs:=#[.string a1_0,.int .i64 a1_1,.string a1_2,.int .i64 a1_3,.int .i64 a1_4]) (t:=102) HB ?_;clear HB;intro gb39 hg w19 BK39 GW39 hb HB;have NB38_39:=na hg BK38;have NB39_38:=nc hg BK38;replace BK38:=bb BK38 hb;clear hb hg;have hnb20:=NB38_39.out;have hnc20:=NB39_38.out;have hcz21:=cf5 BK38;have hcz22:=cf5 BK39))
     go_ret
     exact ⟨ff,bs HB⟩
   ·intro c5 c5b0 c5b1 H;obtain rfl:=si H
    go_in
    go_wp2_with (first|((with_reducible refine gate_dst (N:=2) rfl ?_);refine bz 2 (cs:=#[.string a0_0,.int .i64 a0_1,.string a0_2,.int .i64 a0_3,.int .i64 a0_4]) (t:=102) HB ?_;clear HB;intro gb38 hg w23 BK38 GW38 hb HB;clear hb hg)|((with_reducible refine gate_dst (N:=3) rfl ?_);refine bz 3 (cs:=#[.string a1_0,.int .i64 a1_1,.string a1_2,.int .i64 a1_3,.int .i64 a1_4]) (t:=102) HB ?_;clear HB;intro gb39 hg w24 BK39 GW39 hb HB;have NB38_39:=na hg BK38;have NB39_38:=nc hg BK38;replace BK38:=bb BK38 hb;clear hb hg;have hnb25:=NB38_39.out;have hnc25:=NB39_38.out;have hcz26:=cf5 BK38;have hcz27:=cf5 BK39))
    go_ret
    exact ⟨ff,bs HB⟩
  ·intro c4 c4b0 c4b1 H;obtain rfl:=si H
   go_in
   go_wp2_with (first|((with_reducible refine gate_dst (N:=2) rfl ?_);refine bz 2 (cs:=#[.string a0_0,.int .i64 a0_1,.string a0_2,.int .i64 a0_3,.int .i64 a0_4]) (t:=102) HB ?_;clear HB;intro gb38 hg w28 BK38 GW38 hb HB;clear hb hg)|((with_reducible refine gate_dst (N:=3) rfl ?_);refine bz 3 (cs:=#[.string a1_0,.int .i64 a1_1,.string a1_2,.int .i64 a1_3,.int .i64 a1_4]) (t:=102) HB ?_;clear HB;intro gb39 hg w29 BK39 GW39 hb HB;have NB38_39:=na hg BK38;have NB39_38:=nc hg BK38;replace BK38:=bb BK38 hb;clear hb hg;have hnb30:=NB38_39.out;have hnc30:=NB39_38.out;have hcz31:=cf5 BK38;have hcz32:=cf5 BK39))
   go_ret
   exact ⟨ff,bs HB⟩
 ·intro c3 c3b0 c3b1 H;obtain rfl:=si H
  go_in
  go_wp2_with (first|((with_reducible refine gate_dst (N:=2) rfl ?_);refine bz 2 (cs:=#[.string a0_0,.int .i64 a0_1,.string a0_2,.int .i64 a0_3,.int .i64 a0_4]) (t:=102) HB ?_;clear HB;intro gb38 hg w33 BK38 GW38 hb HB;clear hb hg)|((with_reducible refine gate_dst (N:=3) rfl ?_);refine bz 3 (cs:=#[.string a1_0,.int .i64 a1_1,.string a1_2,.int .i64 a1_3,.int .i64 a1_4]) (t:=102) HB ?_;clear HB;intro gb39 hg w34 BK39 GW39 hb HB;have NB38_39:=na hg BK38;have NB39_38:=nc hg BK38;replace BK38:=bb BK38 hb;clear hb hg;have hnb35:=NB38_39.out;have hnc35:=NB39_38.out;have hcz36:=cf5 BK38;have hcz37:=cf5 BK39))
  go_ret
  exact ⟨ff,bs HB⟩
def laws_eqOutS.T6:Bool × List (List Nat × List Nat):=(true,[([],[]),([],[]),([0,1],[0,1]),([2],[2]),([],[]),([],[]),([4,5],[4,5]),([6],[6]),([3,7],[3,7]),([8],[8])])
def laws_eqOutS.B6:List Nat:=[0,0,3,7,0,0,48,112,255,511]
theorem laws_eqOutS.tab6:rtab .any (opsOf Tryz.f28 6)=laws_eqOutS.T6:=by kernel_rfl
theorem laws_eqOutS.bits6:waitsOk laws_eqOutS.T6.2 laws_eqOutS.B6=true:=by kernel_rfl
theorem laws_eqOutS.calls (k:Nat) (A0:Option Addr) (c0:Nat) (l0:List (S102)) (A1:Option Addr) (c1:Nat) (l1:List (S102)) (r:Bool) (w:World) (hr0:Kd.C k102 w A0 l0.length l0) (hc0:l0.length≤c0) (hr1:Kd.C k102 w A1 l1.length l1) (hc1:l1.length≤c1) (H:laws_eqOutS.f k l0 l1=some r) :
  Calls Tryz.prog 28 #[.slice A0 l0.length c0,.slice A1 l1.length c1] w fun e w'=>e=.returned (.bool r)∧Below w.heap.size w w':=by
 have hu102:=Tryz.underlying102;have HR0:=am hr0;have HC0:=am hc0;clear hr0 hc0;have HR1:=am hr1;have HC1:=am hc1;clear hr1 hc1;have HB:=am (Below.refl w.heap.size w);unfold laws_eqOutS.f at H
 revert H;refine ie2k ?_ ?_
 ·intro c3 c3b0 c3b1 H
  have c3b2:(l0.length == l1.length)=true:=by first|simpa using c3|(simp at c3 ⊢;omega)
  clear c3;have H':=am H;clear H
  go_in
  go_wp2
  go_loopg [5] k (fun kq v5 w'=>∃ (x5_1:Int),v5=.int .i64 x5_1∧Aside0 (laws_eqOutS.l0 kq l0 l1 x5_1=some r)∧Aside0 (kq≤k)∧Aside0 (Below w.heap.size w w'))
  case atStart=>exact ⟨(0),fg,H',⟨Nat.le_refl _⟩,⟨bs HB⟩⟩
  case round =>
   clear H'
   try clear c1
   try clear c3
   try clear c3b0
   try clear c3b1
   try clear c3b2
   obtain ⟨x5_1,rfl,HA,HK1,HB⟩:=hrel
   cases gk with
   | zero=>exact absurd HA.out (by simp [laws_eqOutS.l0])
   | succ k1 =>
    have H:=HA.out;clear HA;simp only [laws_eqOutS.l0] at H
    revert H;refine id2 ?_ ?_
    ·intro c4b0 H
     revert H;refine id1 ?_
     intro c5b0 H
     revert H;refine id1 ?_
     intro c6b0 H;replace H:=bo H;obtain ⟨t15,A7,H⟩:=H
     obtain rfl|rfl:=bt t15
     ·replace H:=itT H;have H':=am H;clear H
      try go_wp2
      replace HB:=am (below_drew1 HB.out);have p13:0≤(x5_1:Int):=oa;have q13:x5_1<(l0.length:Int):=oa;obtain ⟨ad13,e13,hx13_0,hx13_1,hx13_2,hx13_3,hx13_4⟩:=at_T102 HR0.out x5_1 p13 q13;have hw13_4:=hx13_4;have hw13_3:=hx13_3;have hw13_2:=hx13_2;have hw13_1:=hx13_1;have hw13_0:=hx13_0
      cases e13
      replace hx13_0:=cb HB hx13_0;replace hx13_1:=cb HB hx13_1;replace hx13_2:=cb HB hx13_2;replace hx13_3:=cb HB hx13_3;replace hx13_4:=cb HB hx13_4;replace p13:=eq_true p13;replace q13:=eq_true q13;have p14:0≤(x5_1:Int):=oa;have q14:x5_1<(l1.length:Int):=oa;obtain ⟨ad14,e14,hx14_0,hx14_1,hx14_2,hx14_3,hx14_4⟩:=at_T102 HR1.out x5_1 p14 q14;have hw14_4:=hx14_4;have hw14_3:=hx14_3;have hw14_2:=hx14_2;have hw14_1:=hx14_1;have hw14_0:=hx14_0
      cases e14
      replace hx14_0:=cb HB hx14_0;replace hx14_1:=cb HB hx14_1;replace hx14_2:=cb HB hx14_2;replace hx14_3:=cb HB hx14_3;replace hx14_4:=cb HB hx14_4;replace p14:=eq_true p14;replace q14:=eq_true q14;refine sta 10 (hca (cb HB hw13_0) (hca (cb HB hw13_1) (hca (cb HB hw13_2) (hca (cb HB hw13_3) (hca (cb HB hw13_4) (hca (cb HB hw14_0) (hca (cb HB hw14_1) (hca (cb HB hw14_2) (hca (cb HB hw14_3) (hc (cb HB hw14_4))))))))))) (fun hHeld=>?_);refine with_tabW laws_eqOutS.tab6 laws_eqOutS.bits6 (fun HT_ HW_=>?_)
      generalize wr.drew=w9 at HB hx13_0 hx13_1 hx13_2 hx13_3 hx13_4 hx14_0 hx14_1 hx14_2 hx14_3 hx14_4 hHeld ⊢
      refine pA 0 17 HT_ ?_;refine pA 1 18 HT_ ?_;refine pA 2 19 HT_ ?_;refine pA 4 21 HT_ ?_;refine pA 5 22 HT_ ?_;refine pA 6 23 HT_ ?_;refine tA 3 20 HT_ HW_ hHeld ?_;refine tA 7 24 HT_ HW_ hHeld ?_;refine oA 8 25 HT_ (fun K hK=>?_);refine gA Tryz.func68 #[.agg #[.string ((rd_T102 l0 x5_1).f0),.int .i64 ((rd_T102 l0 x5_1).f1),.string ((rd_T102 l0 x5_1).f2),.int .i64 ((rd_T102 l0 x5_1).f3),.int .i64 ((rd_T102 l0 x5_1).f4)],.agg #[.string ((rd_T102 l1 x5_1).f0),.int .i64 ((rd_T102 l1 x5_1).f1),.string ((rd_T102 l1 x5_1).f2),.int .i64 ((rd_T102 l1 x5_1).f3),.int .i64 ((rd_T102 l1 x5_1).f4)]] ?_;(with_reducible refine (laws_eqOut.calls ((rd_T102 l0 x5_1).f0) ((rd_T102 l0 x5_1).f1) ((rd_T102 l0 x5_1).f2) ((rd_T102 l0 x5_1).f3) ((rd_T102 l0 x5_1).f4) ((rd_T102 l1 x5_1).f0) ((rd_T102 l1 x5_1).f1) ((rd_T102 l1 x5_1).f2) ((rd_T102 l1 x5_1).f3) ((rd_T102 l1 x5_1).f4) true _ A7.out).mono ?_);rintro e w10 ⟨rfl,hb⟩;refine ⟨_,rfl,?_⟩;replace HB:=bq HB hb;(try clear hb);(try clear hb2);(try clear hk);(try clear hi);refine hK.out _ _ (hca (cb HB hw13_0) (hca (cb HB hw13_1) (hca (cb HB hw13_2) (hca (cb HB hw13_3) (hca (cb HB hw13_4) (hca (cb HB hw14_0) (hca (cb HB hw14_1) (hca (cb HB hw14_2) (hca (cb HB hw14_3) (hc (cb HB hw14_4))))))))))).out (fun hHeld=>?_);clear hK K;refine nA 25 ?_;refine pA 9 26 HT_ ?_;refine done_ (done_of HT_.out (by kernel_rfl)) ?_
      try go_wp2
      go_roundg k1
      case measure=>have:=HK1.out;omega
      case rel=>exact ⟨(wrap64 (x5_1+1)),fg,H',⟨by have:=HK1.out;omega⟩,⟨bs HB⟩⟩
     ·replace H:=itF H;obtain rfl:=si H
      try go_wp2
      replace HB:=am (below_drew1 HB.out);have p13:0≤(x5_1:Int):=oa;have q13:x5_1<(l0.length:Int):=oa;obtain ⟨ad13,e13,hx13_0,hx13_1,hx13_2,hx13_3,hx13_4⟩:=at_T102 HR0.out x5_1 p13 q13;have hw13_4:=hx13_4;have hw13_3:=hx13_3;have hw13_2:=hx13_2;have hw13_1:=hx13_1;have hw13_0:=hx13_0
      cases e13
      replace hx13_0:=cb HB hx13_0;replace hx13_1:=cb HB hx13_1;replace hx13_2:=cb HB hx13_2;replace hx13_3:=cb HB hx13_3;replace hx13_4:=cb HB hx13_4;replace p13:=eq_true p13;replace q13:=eq_true q13;have p14:0≤(x5_1:Int):=oa;have q14:x5_1<(l1.length:Int):=oa;obtain ⟨ad14,e14,hx14_0,hx14_1,hx14_2,hx14_3,hx14_4⟩:=at_T102 HR1.out x5_1 p14 q14;have hw14_4:=hx14_4;have hw14_3:=hx14_3;have hw14_2:=hx14_2;have hw14_1:=hx14_1;have hw14_0:=hx14_0
      cases e14
      replace hx14_0:=cb HB hx14_0;replace hx14_1:=cb HB hx14_1;replace hx14_2:=cb HB hx14_2;replace hx14_3:=cb HB hx14_3;replace hx14_4:=cb HB hx14_4;replace p14:=eq_true p14;replace q14:=eq_true q14;refine sta 10 (hca (cb HB hw13_0) (hca (cb HB hw13_1) (hca (cb HB hw13_2) (hca (cb HB hw13_3) (hca (cb HB hw13_4) (hca (cb HB hw14_0) (hca (cb HB hw14_1) (hca (cb HB hw14_2) (hca (cb HB hw14_3) (hc (cb HB hw14_4))))))))))) (fun hHeld=>?_);refine with_tabW laws_eqOutS.tab6 laws_eqOutS.bits6 (fun HT_ HW_=>?_)
      generalize wr.drew=w11 at HB hx13_0 hx13_1 hx13_2 hx13_3 hx13_4 hx14_0 hx14_1 hx14_2 hx14_3 hx14_4 hHeld ⊢
      refine pA 0 17 HT_ ?_;refine pA 1 18 HT_ ?_;refine pA 2 19 HT_ ?_;refine pA 4 21 HT_ ?_;refine pA 5 22 HT_ ?_;refine pA 6 23 HT_ ?_;refine tA 3 20 HT_ HW_ hHeld ?_;refine tA 7 24 HT_ HW_ hHeld ?_;refine oA 8 25 HT_ (fun K hK=>?_);refine gA Tryz.func68 #[.agg #[.string ((rd_T102 l0 x5_1).f0),.int .i64 ((rd_T102 l0 x5_1).f1),.string ((rd_T102 l0 x5_1).f2),.int .i64 ((rd_T102 l0 x5_1).f3),.int .i64 ((rd_T102 l0 x5_1).f4)],.agg #[.string ((rd_T102 l1 x5_1).f0),.int .i64 ((rd_T102 l1 x5_1).f1),.string ((rd_T102 l1 x5_1).f2),.int .i64 ((rd_T102 l1 x5_1).f3),.int .i64 ((rd_T102 l1 x5_1).f4)]] ?_;(with_reducible refine (laws_eqOut.calls ((rd_T102 l0 x5_1).f0) ((rd_T102 l0 x5_1).f1) ((rd_T102 l0 x5_1).f2) ((rd_T102 l0 x5_1).f3) ((rd_T102 l0 x5_1).f4) ((rd_T102 l1 x5_1).f0) ((rd_T102 l1 x5_1).f1) ((rd_T102 l1 x5_1).f2) ((rd_T102 l1 x5_1).f3) ((rd_T102 l1 x5_1).f4) false _ A7.out).mono ?_);rintro e w12 ⟨rfl,hb⟩;refine ⟨_,rfl,?_⟩;replace HB:=bq HB hb;(try clear hb);(try clear hb2);(try clear hk);(try clear hi);refine hK.out _ _ (hca (cb HB hw13_0) (hca (cb HB hw13_1) (hca (cb HB hw13_2) (hca (cb HB hw13_3) (hca (cb HB hw13_4) (hca (cb HB hw14_0) (hca (cb HB hw14_1) (hca (cb HB hw14_2) (hca (cb HB hw14_3) (hc (cb HB hw14_4))))))))))).out (fun hHeld=>?_);clear hK K;refine nA 25 ?_;refine pA 9 26 HT_ ?_;refine done_ (done_of HT_.out (by kernel_rfl)) ?_
      try go_wp2
      go_ret
      exact ⟨ff,bs HB⟩
    ·intro c4b0 H;obtain rfl:=si H
     go_wp2
     go_ret
     exact ⟨ff,bs HB⟩
 ·intro c3 c3b0 c3b1 H
  have c3b2:(l0.length == l1.length)=false:=by first|simpa using c3|(simp at c3 ⊢;omega)
  obtain rfl:=si H
  go_in
  go_wp2
  go_ret
  exact ⟨ff,bs HB⟩
theorem laws_eqSent.calls (a0_0:ByteArray) (a0_1:Int) (a0_2:ByteArray) (a1_0:ByteArray) (a1_1:Int) (a1_2:ByteArray) (r:Bool) (w:World) (H:laws_eqSent.f a0_0 a0_1 a0_2 a1_0 a1_1 a1_2=some r) :
  Calls Tryz.prog 69 #[.agg #[.string a0_0,.int .i64 a0_1,.string a0_2],.agg #[.string a1_0,.int .i64 a1_1,.string a1_2]] w fun e w'=>e=.returned (.bool r)∧Below w.heap.size w w':=by
 have hu104:=Tryz.underlying104;have HB:=am (Below.refl w.heap.size w);unfold laws_eqSent.f at H
 revert H;refine ie2 ?_ ?_
 ·intro c3b0 c3b1 H
  revert H;refine ie2 ?_ ?_
  ·intro c4b0 c4b1 H
   revert H;refine ie2 ?_ ?_
   ·intro c5b0 c5b1 H;obtain rfl:=si H
    go_in
    go_wp2_with (first|((with_reducible refine gate_dst (N:=2) rfl ?_);refine bz 2 (cs:=#[.string a0_0,.int .i64 a0_1,.string a0_2]) (t:=104) HB ?_;clear HB;intro gb26 hg w6 BK26 GW26 hb HB;clear hb hg)|((with_reducible refine gate_dst (N:=3) rfl ?_);refine bz 3 (cs:=#[.string a1_0,.int .i64 a1_1,.string a1_2]) (t:=104) HB ?_;clear HB;intro gb27 hg w7 BK27 GW27 hb HB;have NB26_27:=na hg BK26;have NB27_26:=nc hg BK26;replace BK26:=bb BK26 hb;clear hb hg;have hnb8:=NB26_27.out;have hnc8:=NB27_26.out;have hcz9:=cf3 BK26;have hcz10:=cf3 BK27))
    go_ret
    exact ⟨ff,bs HB⟩
   ·intro c5 c5b0 c5b1 H;obtain rfl:=si H
    go_in
    go_wp2_with (first|((with_reducible refine gate_dst (N:=2) rfl ?_);refine bz 2 (cs:=#[.string a0_0,.int .i64 a0_1,.string a0_2]) (t:=104) HB ?_;clear HB;intro gb26 hg w11 BK26 GW26 hb HB;clear hb hg)|((with_reducible refine gate_dst (N:=3) rfl ?_);refine bz 3 (cs:=#[.string a1_0,.int .i64 a1_1,.string a1_2]) (t:=104) HB ?_;clear HB;intro gb27 hg w12 BK27 GW27 hb HB;have NB26_27:=na hg BK26;have NB27_26:=nc hg BK26;replace BK26:=bb BK26 hb;clear hb hg;have hnb13:=NB26_27.out;have hnc13:=NB27_26.out;have hcz14:=cf3 BK26;have hcz15:=cf3 BK27))
    go_ret
    exact ⟨ff,bs HB⟩
  ·intro c4 c4b0 c4b1 H;obtain rfl:=si H
   go_in
   go_wp2_with (first|((with_reducible refine gate_dst (N:=2) rfl ?_);refine bz 2 (cs:=#[.string a0_0,.int .i64 a0_1,.string a0_2]) (t:=104) HB ?_;clear HB;intro gb26 hg w16 BK26 GW26 hb HB;clear hb hg)|((with_reducible refine gate_dst (N:=3) rfl ?_);refine bz 3 (cs:=#[.string a1_0,.int .i64 a1_1,.string a1_2]) (t:=104) HB ?_;clear HB;intro gb27 hg w17 BK27 GW27 hb HB;have NB26_27:=na hg BK26;have NB27_26:=nc hg BK26;replace BK26:=bb BK26 hb;clear hb hg;have hnb18:=NB26_27.out;have hnc18:=NB27_26.out;have hcz19:=cf3 BK26;have hcz20:=cf3 BK27))
   go_ret
   exact ⟨ff,bs HB⟩
 ·intro c3 c3b0 c3b1 H;obtain rfl:=si H
  go_in
  go_wp2_with (first|((with_reducible refine gate_dst (N:=2) rfl ?_);refine bz 2 (cs:=#[.string a0_0,.int .i64 a0_1,.string a0_2]) (t:=104) HB ?_;clear HB;intro gb26 hg w21 BK26 GW26 hb HB;clear hb hg)|((with_reducible refine gate_dst (N:=3) rfl ?_);refine bz 3 (cs:=#[.string a1_0,.int .i64 a1_1,.string a1_2]) (t:=104) HB ?_;clear HB;intro gb27 hg w22 BK27 GW27 hb HB;have NB26_27:=na hg BK26;have NB27_26:=nc hg BK26;replace BK26:=bb BK26 hb;clear hb hg;have hnb23:=NB26_27.out;have hnc23:=NB27_26.out;have hcz24:=cf3 BK26;have hcz25:=cf3 BK27))
  go_ret
  exact ⟨ff,bs HB⟩
def laws_eqSentS.T6:Bool × List (List Nat × List Nat):=(true,[([],[]),([],[]),([0,1],[0,1]),([2],[2]),([],[]),([],[]),([4,5],[4,5]),([6],[6]),([3,7],[3,7]),([8],[8])])
def laws_eqSentS.B6:List Nat:=[0,0,3,7,0,0,48,112,255,511]
theorem laws_eqSentS.tab6:rtab .any (opsOf Tryz.f29 6)=laws_eqSentS.T6:=by kernel_rfl
theorem laws_eqSentS.bits6:waitsOk laws_eqSentS.T6.2 laws_eqSentS.B6=true:=by kernel_rfl
theorem laws_eqSentS.calls (k:Nat) (A0:Option Addr) (c0:Nat) (l0:List (S104)) (A1:Option Addr) (c1:Nat) (l1:List (S104)) (r:Bool) (w:World) (hr0:Kd.C k104 w A0 l0.length l0) (hc0:l0.length≤c0) (hr1:Kd.C k104 w A1 l1.length l1) (hc1:l1.length≤c1) (H:laws_eqSentS.f k l0 l1=some r) :
  Calls Tryz.prog 29 #[.slice A0 l0.length c0,.slice A1 l1.length c1] w fun e w'=>e=.returned (.bool r)∧Below w.heap.size w w':=by
 have hu104:=Tryz.underlying104;have HR0:=am hr0;have HC0:=am hc0;clear hr0 hc0;have HR1:=am hr1;have HC1:=am hc1;clear hr1 hc1;have HB:=am (Below.refl w.heap.size w);unfold laws_eqSentS.f at H
 revert H;refine ie2k ?_ ?_
 ·intro c3 c3b0 c3b1 H
  have c3b2:(l0.length == l1.length)=true:=by first|simpa using c3|(simp at c3 ⊢;omega)
  clear c3;have H':=am H;clear H
  go_in
  go_wp2
  go_loopg [5] k (fun kq v5 w'=>∃ (x5_1:Int),v5=.int .i64 x5_1∧Aside0 (laws_eqSentS.l0 kq l0 l1 x5_1=some r)∧Aside0 (kq≤k)∧Aside0 (Below w.heap.size w w'))
  case atStart=>exact ⟨(0),fg,H',⟨Nat.le_refl _⟩,⟨bs HB⟩⟩
  case round =>
   clear H'
   try clear c1
   try clear c3
   try clear c3b0
   try clear c3b1
   try clear c3b2
   obtain ⟨x5_1,rfl,HA,HK1,HB⟩:=hrel
   cases gk with
   | zero=>exact absurd HA.out (by simp [laws_eqSentS.l0])
   | succ k1 =>
    have H:=HA.out;clear HA;simp only [laws_eqSentS.l0] at H
    revert H;refine id2 ?_ ?_
    ·intro c4b0 H
     revert H;refine id1 ?_
     intro c5b0 H
     revert H;refine id1 ?_
     intro c6b0 H;replace H:=bo H;obtain ⟨t15,A7,H⟩:=H
     obtain rfl|rfl:=bt t15
     ·replace H:=itT H;have H':=am H;clear H
      try go_wp2
      replace HB:=am (below_drew1 HB.out);have p13:0≤(x5_1:Int):=oa;have q13:x5_1<(l0.length:Int):=oa;obtain ⟨ad13,e13,hx13_0,hx13_1,hx13_2⟩:=at_T104 HR0.out x5_1 p13 q13;have hw13_2:=hx13_2;have hw13_1:=hx13_1;have hw13_0:=hx13_0
      cases e13
      replace hx13_0:=cb HB hx13_0;replace hx13_1:=cb HB hx13_1;replace hx13_2:=cb HB hx13_2;replace p13:=eq_true p13;replace q13:=eq_true q13;have p14:0≤(x5_1:Int):=oa;have q14:x5_1<(l1.length:Int):=oa;obtain ⟨ad14,e14,hx14_0,hx14_1,hx14_2⟩:=at_T104 HR1.out x5_1 p14 q14;have hw14_2:=hx14_2;have hw14_1:=hx14_1;have hw14_0:=hx14_0
      cases e14
      replace hx14_0:=cb HB hx14_0;replace hx14_1:=cb HB hx14_1;replace hx14_2:=cb HB hx14_2;replace p14:=eq_true p14;replace q14:=eq_true q14;refine sta 10 (hca (cb HB hw13_0) (hca (cb HB hw13_1) (hca (cb HB hw13_2) (hca (cb HB hw14_0) (hca (cb HB hw14_1) (hc (cb HB hw14_2))))))) (fun hHeld=>?_);refine with_tabW laws_eqSentS.tab6 laws_eqSentS.bits6 (fun HT_ HW_=>?_)
      generalize wr.drew=w9 at HB hx13_0 hx13_1 hx13_2 hx14_0 hx14_1 hx14_2 hHeld ⊢
      refine pA 0 17 HT_ ?_;refine pA 1 18 HT_ ?_;refine pA 2 19 HT_ ?_;refine pA 4 21 HT_ ?_;refine pA 5 22 HT_ ?_;refine pA 6 23 HT_ ?_;refine tA 3 20 HT_ HW_ hHeld ?_;refine tA 7 24 HT_ HW_ hHeld ?_;refine oA 8 25 HT_ (fun K hK=>?_);refine gA Tryz.func69 #[.agg #[.string ((rd_T104 l0 x5_1).f0),.int .i64 ((rd_T104 l0 x5_1).f1),.string ((rd_T104 l0 x5_1).f2)],.agg #[.string ((rd_T104 l1 x5_1).f0),.int .i64 ((rd_T104 l1 x5_1).f1),.string ((rd_T104 l1 x5_1).f2)]] ?_;(with_reducible refine (laws_eqSent.calls ((rd_T104 l0 x5_1).f0) ((rd_T104 l0 x5_1).f1) ((rd_T104 l0 x5_1).f2) ((rd_T104 l1 x5_1).f0) ((rd_T104 l1 x5_1).f1) ((rd_T104 l1 x5_1).f2) true _ A7.out).mono ?_);rintro e w10 ⟨rfl,hb⟩;refine ⟨_,rfl,?_⟩;replace HB:=bq HB hb;(try clear hb);(try clear hb2);(try clear hk);(try clear hi);refine hK.out _ _ (hca (cb HB hw13_0) (hca (cb HB hw13_1) (hca (cb HB hw13_2) (hca (cb HB hw14_0) (hca (cb HB hw14_1) (hc (cb HB hw14_2))))))).out (fun hHeld=>?_);clear hK K;refine nA 25 ?_;refine pA 9 26 HT_ ?_;refine done_ (done_of HT_.out (by kernel_rfl)) ?_
      try go_wp2
      go_roundg k1
      case measure=>have:=HK1.out;omega
      case rel=>exact ⟨(wrap64 (x5_1+1)),fg,H',⟨by have:=HK1.out;omega⟩,⟨bs HB⟩⟩
     ·replace H:=itF H;obtain rfl:=si H
      try go_wp2
      replace HB:=am (below_drew1 HB.out);have p13:0≤(x5_1:Int):=oa;have q13:x5_1<(l0.length:Int):=oa;obtain ⟨ad13,e13,hx13_0,hx13_1,hx13_2⟩:=at_T104 HR0.out x5_1 p13 q13;have hw13_2:=hx13_2;have hw13_1:=hx13_1;have hw13_0:=hx13_0
      cases e13
      replace hx13_0:=cb HB hx13_0;replace hx13_1:=cb HB hx13_1;replace hx13_2:=cb HB hx13_2;replace p13:=eq_true p13;replace q13:=eq_true q13;have p14:0≤(x5_1:Int):=oa;have q14:x5_1<(l1.length:Int):=oa;obtain ⟨ad14,e14,hx14_0,hx14_1,hx14_2⟩:=at_T104 HR1.out x5_1 p14 q14;have hw14_2:=hx14_2;have hw14_1:=hx14_1;have hw14_0:=hx14_0
      cases e14
      replace hx14_0:=cb HB hx14_0;replace hx14_1:=cb HB hx14_1;replace hx14_2:=cb HB hx14_2;replace p14:=eq_true p14;replace q14:=eq_true q14;refine sta 10 (hca (cb HB hw13_0) (hca (cb HB hw13_1) (hca (cb HB hw13_2) (hca (cb HB hw14_0) (hca (cb HB hw14_1) (hc (cb HB hw14_2))))))) (fun hHeld=>?_);refine with_tabW laws_eqSentS.tab6 laws_eqSentS.bits6 (fun HT_ HW_=>?_)
      generalize wr.drew=w11 at HB hx13_0 hx13_1 hx13_2 hx14_0 hx14_1 hx14_2 hHeld ⊢
      refine pA 0 17 HT_ ?_;refine pA 1 18 HT_ ?_;refine pA 2 19 HT_ ?_;refine pA 4 21 HT_ ?_;refine pA 5 22 HT_ ?_;refine pA 6 23 HT_ ?_;refine tA 3 20 HT_ HW_ hHeld ?_;refine tA 7 24 HT_ HW_ hHeld ?_;refine oA 8 25 HT_ (fun K hK=>?_);refine gA Tryz.func69 #[.agg #[.string ((rd_T104 l0 x5_1).f0),.int .i64 ((rd_T104 l0 x5_1).f1),.string ((rd_T104 l0 x5_1).f2)],.agg #[.string ((rd_T104 l1 x5_1).f0),.int .i64 ((rd_T104 l1 x5_1).f1),.string ((rd_T104 l1 x5_1).f2)]] ?_;(with_reducible refine (laws_eqSent.calls ((rd_T104 l0 x5_1).f0) ((rd_T104 l0 x5_1).f1) ((rd_T104 l0 x5_1).f2) ((rd_T104 l1 x5_1).f0) ((rd_T104 l1 x5_1).f1) ((rd_T104 l1 x5_1).f2) false _ A7.out).mono ?_);rintro e w12 ⟨rfl,hb⟩;refine ⟨_,rfl,?_⟩;replace HB:=bq HB hb;(try clear hb);(try clear hb2);(try clear hk);(try clear hi);refine hK.out _ _ (hca (cb HB hw13_0) (hca (cb HB hw13_1) (hca (cb HB hw13_2) (hca (cb HB hw14_0) (hca (cb HB hw14_1) (hc (cb HB hw14_2))))))).out (fun hHeld=>?_);clear hK K;refine nA 25 ?_;refine pA 9 26 HT_ ?_;refine done_ (done_of HT_.out (by kernel_rfl)) ?_
      try go_wp2
      go_ret
      exact ⟨ff,bs HB⟩
    ·intro c4b0 H;obtain rfl:=si H
     go_wp2
     go_ret
     exact ⟨ff,bs HB⟩
 ·intro c3 c3b0 c3b1 H
  have c3b2:(l0.length == l1.length)=false:=by first|simpa using c3|(simp at c3 ⊢;omega)
  obtain rfl:=si H
  go_in
  go_wp2
  go_ret
  exact ⟨ff,bs HB⟩
theorem laws_eqOutboxOut.calls (k:Nat) (A0_0:Option Addr) (c0_0:Nat) (l0_0:List (S102)) (A0_1:Option Addr) (c0_1:Nat) (l0_1:List (S104)) (A0_2:Option Addr) (c0_2:Nat) (l0_2:List (S102)) (a0_3:Int) (A1_0:Option Addr) (c1_0:Nat) (l1_0:List (S102)) (A1_1:Option Addr) (c1_1:Nat) (l1_1:List (S104)) (A1_2:Option Addr) (c1_2:Nat) (l1_2:List (S102)) (a1_3:Int) (r:Bool) (w:World) (hr0_0:Kd.C k102 w A0_0 l0_0.length l0_0) (hc0_0:l0_0.length≤c0_0) (hr0_1:Kd.C k104 w A0_1 l0_1.length l0_1) (hc0_1:l0_1.length≤c0_1) (hr0_2:Kd.C k102 w A0_2 l0_2.length l0_2) (hc0_2:l0_2.length≤c0_2) (hr1_0:Kd.C k102 w A1_0 l1_0.length l1_0) (hc1_0:l1_0.length≤c1_0) (hr1_1:Kd.C k104 w A1_1 l1_1.length l1_1) (hc1_1:l1_1.length≤c1_1) (hr1_2:Kd.C k102 w A1_2 l1_2.length l1_2) (hc1_2:l1_2.length≤c1_2) (H:laws_eqOutboxOut.f k l0_0 l0_1 l0_2 a0_3 l1_0 l1_1 l1_2 a1_3=some r) :
  Calls Tryz.prog 8 #[.agg #[.slice A0_0 l0_0.length c0_0,.slice A0_1 l0_1.length c0_1,.slice A0_2 l0_2.length c0_2,.int .i64 a0_3],.agg #[.slice A1_0 l1_0.length c1_0,.slice A1_1 l1_1.length c1_1,.slice A1_2 l1_2.length c1_2,.int .i64 a1_3]] w fun e w'=>e=.returned (.bool r)∧Below w.heap.size w w':=by
 have hu36:=Tryz.underlying36;have HR0_0:=am hr0_0;have HC0_0:=am hc0_0;clear hr0_0 hc0_0;have HR0_1:=am hr0_1;have HC0_1:=am hc0_1;clear hr0_1 hc0_1;have HR0_2:=am hr0_2;have HC0_2:=am hc0_2;clear hr0_2 hc0_2;have HR1_0:=am hr1_0;have HC1_0:=am hc1_0;clear hr1_0 hc1_0;have HR1_1:=am hr1_1;have HC1_1:=am hc1_1;clear hr1_1 hc1_1;have HR1_2:=am hr1_2;have HC1_2:=am hc1_2;clear hr1_2 hc1_2;have HB:=am (Below.refl w.heap.size w);unfold laws_eqOutboxOut.f at H;replace H:=bo H;obtain ⟨t22,A3,H⟩:=H
 go_in
 try go_wp2_with (first|((with_reducible refine gate_dst (N:=2) rfl ?_);refine bz 2 (cs:=#[.slice A0_0 l0_0.length c0_0,.slice A0_1 l0_1.length c0_1,.slice A0_2 l0_2.length c0_2,.int .i64 a0_3]) (t:=36) HB ?_;clear HB;intro gb10 hg w4 BK10 GW10 hb HB;clear hb hg)|((with_reducible refine gate_dst (N:=3) rfl ?_);refine bz 3 (cs:=#[.slice A1_0 l1_0.length c1_0,.slice A1_1 l1_1.length c1_1,.slice A1_2 l1_2.length c1_2,.int .i64 a1_3]) (t:=36) HB ?_;clear HB;intro gb16 hg w5 BK16 GW16 hb HB;have NB10_16:=na hg BK10;have NB16_10:=nc hg BK10;replace BK10:=bb BK10 hb;clear hb hg;have hnb6:=NB10_16.out;have hnc6:=NB16_10.out;have hcz7:=cf4 BK10;have hcz8:=cf4 BK16))
 go_at_call 28;(with_reducible refine (laws_eqOutS.calls k _ _ l0_0 _ _ l1_0 t22 _ (Kd.C_below HR0_0.out (bs HB)) HC0_0.out (Kd.C_below HR1_0.out (bs HB)) HC1_0.out A3.out).mono ?_);rintro e w9 ⟨rfl,hb⟩;replace BK10:=bb BK10 hb;replace BK16:=bb BK16 hb;replace HB:=bq HB hb;(try clear hb);(try clear hb2);(try clear hk);(try clear hi)
 obtain rfl|rfl:=bt t22
 ·replace H:=itT H;replace H:=bo H;obtain ⟨t30,A11,H⟩:=H;have hnb12:=NB10_16.out;have hnc12:=NB16_10.out;have hcz13:=cf4 BK10;have hcz14:=cf4 BK16
  try go_wp2_with (fail)
  go_at_call 29;(with_reducible refine (laws_eqSentS.calls k _ _ l0_1 _ _ l1_1 t30 _ (Kd.C_below HR0_1.out (bs HB)) HC0_1.out (Kd.C_below HR1_1.out (bs HB)) HC1_1.out A11.out).mono ?_);rintro e w15 ⟨rfl,hb⟩;replace BK10:=bb BK10 hb;replace BK16:=bb BK16 hb;replace HB:=bq HB hb;(try clear hb);(try clear hb2);(try clear hk);(try clear hi)
  obtain rfl|rfl:=bt t30
  ·replace H:=itT H;replace H:=bo H;obtain ⟨t31,A17,H⟩:=H;have hnb18:=NB10_16.out;have hnc18:=NB16_10.out;have hcz19:=cf4 BK10;have hcz20:=cf4 BK16
   try go_wp2_with (fail)
   go_at_call 28;(with_reducible refine (laws_eqOutS.calls k _ _ l0_2 _ _ l1_2 t31 _ (Kd.C_below HR0_2.out (bs HB)) HC0_2.out (Kd.C_below HR1_2.out (bs HB)) HC1_2.out A17.out).mono ?_);rintro e w21 ⟨rfl,hb⟩;replace BK10:=bb BK10 hb;replace BK16:=bb BK16 hb;replace HB:=bq HB hb;(try clear hb);(try clear hb2);(try clear hk);(try clear hi)
   obtain rfl|rfl:=bt t31
   ·replace H:=itT H
    revert H;refine ie2 ?_ ?_
    ·intro c23b0 c23b1 H;obtain rfl:=si H;have hnb24:=NB10_16.out;have hnc24:=NB16_10.out;have hcz25:=cf4 BK10;have hcz26:=cf4 BK16
     go_wp2
     go_ret
     exact ⟨ff,bs HB⟩
    ·intro c23 c23b0 c23b1 H;obtain rfl:=si H;have hnb27:=NB10_16.out;have hnc27:=NB16_10.out;have hcz28:=cf4 BK10;have hcz29:=cf4 BK16
     go_wp2
     go_ret
     exact ⟨ff,bs HB⟩
   ·replace H:=itF H;obtain rfl:=si H
    go_wp2
    go_ret
    exact ⟨ff,bs HB⟩
  ·replace H:=itF H;obtain rfl:=si H
   go_wp2
   go_ret
   exact ⟨ff,bs HB⟩
 ·replace H:=itF H;obtain rfl:=si H
  go_wp2
  go_ret
  exact ⟨ff,bs HB⟩
theorem laws_eqSeen.calls (a0_0:Int) (a0_1:Int) (a0_2:Int) (a1_0:Int) (a1_1:Int) (a1_2:Int) (r:Bool) (w:World) (H:laws_eqSeen.f a0_0 a0_1 a0_2 a1_0 a1_1 a1_2=some r) :
  Calls Tryz.prog 115 #[.agg #[.int .i64 a0_0,.int .i64 a0_1,.int .i64 a0_2],.agg #[.int .i64 a1_0,.int .i64 a1_1,.int .i64 a1_2]] w fun e w'=>e=.returned (.bool r)∧Below w.heap.size w w':=by
 have hu137:=Tryz.underlying137;have HB:=am (Below.refl w.heap.size w);unfold laws_eqSeen.f at H
 revert H;refine ie2 ?_ ?_
 ·intro c3b0 c3b1 H
  revert H;refine ie2 ?_ ?_
  ·intro c4b0 c4b1 H
   revert H;refine ie2 ?_ ?_
   ·intro c5b0 c5b1 H;obtain rfl:=si H
    go_in
    go_wp2_with (first|((with_reducible refine gate_dst (N:=2) rfl ?_);refine bz 2 (cs:=#[.int .i64 a0_0,.int .i64 a0_1,.int .i64 a0_2]) (t:=137) HB ?_;clear HB;intro gb26 hg w6 BK26 GW26 hb HB;clear hb hg)|((with_reducible refine gate_dst (N:=3) rfl ?_);refine bz 3 (cs:=#[.int .i64 a1_0,.int .i64 a1_1,.int .i64 a1_2]) (t:=137) HB ?_;clear HB;intro gb27 hg w7 BK27 GW27 hb HB;have NB26_27:=na hg BK26;have NB27_26:=nc hg BK26;replace BK26:=bb BK26 hb;clear hb hg;have hnb8:=NB26_27.out;have hnc8:=NB27_26.out;have hcz9:=cf3 BK26;have hcz10:=cf3 BK27))
    go_ret
    exact ⟨ff,bs HB⟩
   ·intro c5 c5b0 c5b1 H;obtain rfl:=si H
    go_in
    go_wp2_with (first|((with_reducible refine gate_dst (N:=2) rfl ?_);refine bz 2 (cs:=#[.int .i64 a0_0,.int .i64 a0_1,.int .i64 a0_2]) (t:=137) HB ?_;clear HB;intro gb26 hg w11 BK26 GW26 hb HB;clear hb hg)|((with_reducible refine gate_dst (N:=3) rfl ?_);refine bz 3 (cs:=#[.int .i64 a1_0,.int .i64 a1_1,.int .i64 a1_2]) (t:=137) HB ?_;clear HB;intro gb27 hg w12 BK27 GW27 hb HB;have NB26_27:=na hg BK26;have NB27_26:=nc hg BK26;replace BK26:=bb BK26 hb;clear hb hg;have hnb13:=NB26_27.out;have hnc13:=NB27_26.out;have hcz14:=cf3 BK26;have hcz15:=cf3 BK27))
    go_ret
    exact ⟨ff,bs HB⟩
  ·intro c4 c4b0 c4b1 H;obtain rfl:=si H
   go_in
   go_wp2_with (first|((with_reducible refine gate_dst (N:=2) rfl ?_);refine bz 2 (cs:=#[.int .i64 a0_0,.int .i64 a0_1,.int .i64 a0_2]) (t:=137) HB ?_;clear HB;intro gb26 hg w16 BK26 GW26 hb HB;clear hb hg)|((with_reducible refine gate_dst (N:=3) rfl ?_);refine bz 3 (cs:=#[.int .i64 a1_0,.int .i64 a1_1,.int .i64 a1_2]) (t:=137) HB ?_;clear HB;intro gb27 hg w17 BK27 GW27 hb HB;have NB26_27:=na hg BK26;have NB27_26:=nc hg BK26;replace BK26:=bb BK26 hb;clear hb hg;have hnb18:=NB26_27.out;have hnc18:=NB27_26.out;have hcz19:=cf3 BK26;have hcz20:=cf3 BK27))
   go_ret
   exact ⟨ff,bs HB⟩
 ·intro c3 c3b0 c3b1 H;obtain rfl:=si H
  go_in
  go_wp2_with (first|((with_reducible refine gate_dst (N:=2) rfl ?_);refine bz 2 (cs:=#[.int .i64 a0_0,.int .i64 a0_1,.int .i64 a0_2]) (t:=137) HB ?_;clear HB;intro gb26 hg w21 BK26 GW26 hb HB;clear hb hg)|((with_reducible refine gate_dst (N:=3) rfl ?_);refine bz 3 (cs:=#[.int .i64 a1_0,.int .i64 a1_1,.int .i64 a1_2]) (t:=137) HB ?_;clear HB;intro gb27 hg w22 BK27 GW27 hb HB;have NB26_27:=na hg BK26;have NB27_26:=nc hg BK26;replace BK26:=bb BK26 hb;clear hb hg;have hnb23:=NB26_27.out;have hnc23:=NB27_26.out;have hcz24:=cf3 BK26;have hcz25:=cf3 BK27))
  go_ret
  exact ⟨ff,bs HB⟩
end Go.Proofs.YtkfcahggnpecjaaGreat.QG
