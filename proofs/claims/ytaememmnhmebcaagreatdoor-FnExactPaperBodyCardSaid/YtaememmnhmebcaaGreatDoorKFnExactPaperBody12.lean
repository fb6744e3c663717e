-- Merged by a program of this session (wip/tool/pack.py) out of its own texts for this claim.
import Derived.Test.YtaememmnhmebcaaGreatDoorKFnExactPaperBody11
set_option maxHeartbeats 8000000
set_option maxRecDepth 100000
set_option linter.unusedSimpArgs false
set_option linter.unusedVariables false
namespace Go.Proofs.YtaememmnhmebcaaGreatDoor.QB
open Go.RowKit Go.Proofs.YtaememmnhmebcaaGreatDoorW.PrintWords Go.Proofs.YtaememmnhmebcaaGreatDoorW.PrintLast Go.Proofs.YtaememmnhmebcaaGreatDoorW.PrintMore
attribute [local go_sem] max2_int min2_int max_two min_two max_three min_three max_four min_four   -- for this text's walks alone
theorem eqA63 (d:Nat) (w:World) (x0 y0:Int) (x1 y1:ByteArray) (x2 y2:Int) (x3 y3:Int) (x4 y4:ByteArray) :
  (Op.equalIn (d+2) 63 (.agg #[.int .i64 x0,.string x1,.int .i64 x2,.int .i64 x3,.string x4]) (.agg #[.int .i64 y0,.string y1,.int .i64 y2,.int .i64 y3,.string y4])).run Tryz.prog w=.ok (x0 == y0 && (x1.toList == y1.toList && (x2 == y2 && (x3 == y3 && (x4.toList == y4.toList))))) w:=by
 refine eqA_of Tryz.underlying63 (by kernel_rfl) ?_;refine eqf_cons (by rfl) (by go_simp;rfl) (by go_simp;rfl) (by go_simp) ?_;refine eqf_cons (by rfl) (by go_simp;rfl) (by go_simp;rfl) (by go_simp) ?_;refine eqf_cons (by rfl) (by go_simp;rfl) (by go_simp;rfl) (by go_simp) ?_;refine eqf_cons (by rfl) (by go_simp;rfl) (by go_simp;rfl) (by go_simp) ?_
 exact eqf_last (by rfl) (by go_simp;rfl) (by go_simp;rfl) (by go_simp)
end Go.Proofs.YtaememmnhmebcaaGreatDoor.QB
namespace Go.Proofs.YtaememmnhmebcaaGreatDoor.QB
open Go.RowKit Go.Proofs.YtaememmnhmebcaaGreatDoorW.PrintWords Go.Proofs.YtaememmnhmebcaaGreatDoorW.PrintLast Go.Proofs.YtaememmnhmebcaaGreatDoorW.PrintMore
attribute [local go_sem] max2_int min2_int max_two min_two max_three min_three max_four min_four   -- for this text's walks alone
attribute [local go_sem high] eqA63
theorem spec_PaperSame.calls (k:Nat) (a0_0:Int) (a0_1:ByteArray) (a0_2:ByteArray) (a0_3:Int) (A0_4:Option Addr) (c0_4:Nat) (l0_4:List ByteArray) (A0_5:Option Addr) (c0_5:Nat) (l0_5:List (S63)) (a1_0:Int) (a1_1:ByteArray) (a1_2:ByteArray) (a1_3:Int) (A1_4:Option Addr) (c1_4:Nat) (l1_4:List ByteArray) (A1_5:Option Addr) (c1_5:Nat) (l1_5:List (S63)) (r:Bool) (w:World) (hr0_4:Kd.C Kd.string w A0_4 l0_4.length l0_4) (hc0_4:l0_4.length≤c0_4) (hr0_5:Kd.C k63 w A0_5 l0_5.length l0_5) (hc0_5:l0_5.length≤c0_5) (hr1_4:Kd.C Kd.string w A1_4 l1_4.length l1_4) (hc1_4:l1_4.length≤c1_4) (hr1_5:Kd.C k63 w A1_5 l1_5.length l1_5) (hc1_5:l1_5.length≤c1_5) (H:spec_PaperSame.f k a0_0 a0_1 a0_2 a0_3 l0_4 l0_5 a1_0 a1_1 a1_2 a1_3 l1_4 l1_5=some r) :
  Calls Tryz.prog 32 #[.agg #[.int .i64 a0_0,.string a0_1,.string a0_2,.int .i64 a0_3,.slice A0_4 l0_4.length c0_4,.slice A0_5 l0_5.length c0_5],.agg #[.int .i64 a1_0,.string a1_1,.string a1_2,.int .i64 a1_3,.slice A1_4 l1_4.length c1_4,.slice A1_5 l1_5.length c1_5]] w fun e w'=>e=.returned (.bool r)∧Below w.heap.size w w':=by
 have hu31:=Tryz.underlying31;have hu63:=Tryz.underlying63;have HR0_4:=am hr0_4;have HC0_4:=am hc0_4;clear hr0_4 hc0_4;have HR0_5:=am hr0_5;have HC0_5:=am hc0_5;clear hr0_5 hc0_5;have HR1_4:=am hr1_4;have HC1_4:=am hc1_4;clear hr1_4 hc1_4;have HR1_5:=am hr1_5;have HC1_5:=am hc1_5;clear hr1_5 hc1_5;have HB:=am (Below.refl w.heap.size w);unfold spec_PaperSame.f at H;have HC3:=am H;clear H
 go_in
 go_upto_region 1 with (first|((with_reducible refine gate_dst (N:=2) rfl ?_);(try (refine gate_guard (by rfl) ?_;dsimp only));refine bz 2 (cs:=#[.int .i64 a0_0,.string a0_1,.string a0_2,.int .i64 a0_3,.slice A0_4 l0_4.length c0_4,.slice A0_5 l0_5.length c0_5]) (t:=31) HB ?_;clear HB;intro gb29 hg w4 BK29 GW29 hb HB;clear hb hg)|((with_reducible refine gate_dst (N:=3) rfl ?_);(try (refine gate_guard (by rfl) ?_;dsimp only));refine bz 3 (cs:=#[.int .i64 a1_0,.string a1_1,.string a1_2,.int .i64 a1_3,.slice A1_4 l1_4.length c1_4,.slice A1_5 l1_5.length c1_5]) (t:=31) HB ?_;clear HB;intro gb54 hg w5 BK54 GW54 hb HB;have NB29_54:=na hg BK29;have NB54_29:=nc hg BK29;replace BK29:=bb BK29 hb;clear hb hg))
 repeat (go_quiet (first|((with_reducible refine gate_dst (N:=2) rfl ?_);(try (refine gate_guard (by rfl) ?_;dsimp only));refine bz 2 (cs:=#[.int .i64 a0_0,.string a0_1,.string a0_2,.int .i64 a0_3,.slice A0_4 l0_4.length c0_4,.slice A0_5 l0_5.length c0_5]) (t:=31) HB ?_;clear HB;intro gb29 hg w4 BK29 GW29 hb HB;clear hb hg)|((with_reducible refine gate_dst (N:=3) rfl ?_);(try (refine gate_guard (by rfl) ?_;dsimp only));refine bz 3 (cs:=#[.int .i64 a1_0,.string a1_1,.string a1_2,.int .i64 a1_3,.slice A1_4 l1_4.length c1_4,.slice A1_5 l1_5.length c1_5]) (t:=31) HB ?_;clear HB;intro gb54 hg w5 BK54 GW54 hb HB;have NB29_54:=na hg BK29;have NB54_29:=nc hg BK29;replace BK29:=bb BK29 hb;clear hb hg));go_upto_region 1 with (first|((with_reducible refine gate_dst (N:=2) rfl ?_);(try (refine gate_guard (by rfl) ?_;dsimp only));refine bz 2 (cs:=#[.int .i64 a0_0,.string a0_1,.string a0_2,.int .i64 a0_3,.slice A0_4 l0_4.length c0_4,.slice A0_5 l0_5.length c0_5]) (t:=31) HB ?_;clear HB;intro gb29 hg w4 BK29 GW29 hb HB;clear hb hg)|((with_reducible refine gate_dst (N:=3) rfl ?_);(try (refine gate_guard (by rfl) ?_;dsimp only));refine bz 3 (cs:=#[.int .i64 a1_0,.string a1_1,.string a1_2,.int .i64 a1_3,.slice A1_4 l1_4.length c1_4,.slice A1_5 l1_5.length c1_5]) (t:=31) HB ?_;clear HB;intro gb54 hg w5 BK54 GW54 hb HB;have NB29_54:=na hg BK29;have NB54_29:=nc hg BK29;replace BK29:=bb BK29 hb;clear hb hg)))
 (try simp only [Act.put,List.setIfInBounds_toArray,List.set_cons_zero,List.set_cons_succ])
 go_cut [50] (fun v50 wc=>∃ (kq:Nat) (x50_2:Bool),v50=.bool x50_2∧Aside0 (spec_PaperSame.j0 kq x50_2 a0_0 a0_1 a0_2 a0_3 l0_4 l0_5 a1_0 a1_1 a1_2 a1_3 l1_4 l1_5=some r)∧Aside0 (kq≤k)∧Aside0 (wc.heap[gb29]? = some (.cells #[.int .i64 a0_0,.string a0_1,.string a0_2,.int .i64 a0_3,(.slice A0_4 l0_4.length c0_4),(.slice A0_5 l0_5.length c0_5)] 31 (0,0)))∧Aside0 (wc.heap[gb54]? = some (.cells #[.int .i64 a1_0,.string a1_1,.string a1_2,.int .i64 a1_3,(.slice A1_4 l1_4.length c1_4),(.slice A1_5 l1_5.length c1_5)] 31 (0,0)))∧Aside0 (Below w.heap.size w wc))
 case first =>
  have H:=HC3.out;clear HC3
  revert H;refine ie2 ?_ ?_
  ·intro c6b0 c6b1 H
   (first|rw [c6b0]|(simp only [i64_w,i32_w];rw [c6b0])|rw [c6b1]|skip)
   revert H;refine ie2 ?_ ?_
   ·intro c7b0 c7b1 H
    revert H;refine ie2 ?_ ?_
    ·intro c8b0 c8b1 H
     revert H;refine ie2 ?_ ?_
     ·intro c9b0 c9b1 H
      revert H;refine ie2k ?_ ?_
      ·intro c10 c10b0 c10b1 H
       have c10b2:(l0_4.length == l1_4.length)=true:=by first|simpa using c10|(simp at c10 ⊢;omega)
       clear c10;have H':=am H;clear H;have hnb11:=NB29_54.out;have hnc11:=NB54_29.out;have hcz12:=cf6 BK29;have hcz13:=cf6 BK54
       go_wp2
       repeat (go_quiet (fail);try go_wp2)
       go_meet
       case rel=>exact ⟨_,(((l0_5.length:Int) != (l1_5.length:Int))),fg,H',⟨fl⟩,⟨ks BK29⟩,⟨ks BK54⟩,⟨bs HB⟩⟩
      ·intro c10 c10b0 c10b1 H
       have c10b2:(l0_4.length == l1_4.length)=false:=by first|simpa using c10|(simp at c10 ⊢;omega)
       have H':=am H;clear H;have hnb14:=NB29_54.out;have hnc14:=NB54_29.out;have hcz15:=cf6 BK29;have hcz16:=cf6 BK54
       go_wp2
       repeat (go_quiet (fail);try go_wp2)
       go_meet
       case rel=>exact ⟨_,(true),fg,H',⟨fl⟩,⟨ks BK29⟩,⟨ks BK54⟩,⟨bs HB⟩⟩
     ·intro c9 c9b0 c9b1 H;have H':=am H;clear H;have hnb17:=NB29_54.out;have hnc17:=NB54_29.out;have hcz18:=cf6 BK29;have hcz19:=cf6 BK54
      go_wp2
      repeat (go_quiet (fail);try go_wp2)
      go_meet
      case rel=>exact ⟨_,(true),fg,H',⟨fl⟩,⟨ks BK29⟩,⟨ks BK54⟩,⟨bs HB⟩⟩
    ·intro c8 c8b0 c8b1 H;have H':=am H;clear H;have hnb20:=NB29_54.out;have hnc20:=NB54_29.out;have hcz21:=cf6 BK29;have hcz22:=cf6 BK54
     go_wp2
     repeat (go_quiet (fail);try go_wp2)
     go_meet
     case rel=>exact ⟨_,(true),fg,H',⟨fl⟩,⟨ks BK29⟩,⟨ks BK54⟩,⟨bs HB⟩⟩
   ·intro c7 c7b0 c7b1 H;have H':=am H;clear H;have hnb23:=NB29_54.out;have hnc23:=NB54_29.out;have hcz24:=cf6 BK29;have hcz25:=cf6 BK54
    go_wp2
    repeat (go_quiet (fail);try go_wp2)
    go_meet
    case rel=>exact ⟨_,(true),fg,H',⟨fl⟩,⟨ks BK29⟩,⟨ks BK54⟩,⟨bs HB⟩⟩
  ·intro c6 c6b0 c6b1 H
   (first|rw [c6b0]|(simp only [i64_w,i32_w];rw [c6b0])|rw [c6b1]|skip)
   have H':=am H;clear H;have hnb26:=NB29_54.out;have hnc26:=NB54_29.out;have hcz27:=cf6 BK29;have hcz28:=cf6 BK54
   go_wp2
   repeat (go_quiet (fail);try go_wp2)
   go_meet
   case rel=>exact ⟨_,(true),fg,H',⟨fl⟩,⟨ks BK29⟩,⟨ks BK54⟩,⟨bs HB⟩⟩
 case rest =>
  clear HC3
  obtain ⟨kq,x50_2,rfl,HA,HJ2,BK29,BK54,HB⟩:=hcut
  cases kq with
  | zero=>exact absurd HA.out (by simp [spec_PaperSame.j0])
  | succ kj2 =>
   have H:=HA.out;clear HA;simp only [spec_PaperSame.j0] at H
   obtain rfl|rfl:=bt x50_2
   ·replace H:=itT H;obtain rfl:=si H
    go_wp2
    repeat (go_quiet (fail);try go_wp2)
    go_ret
    exact ⟨ff,bs HB⟩
   ·replace H:=itF H;have H':=am H;clear H
    go_wp2
    repeat (go_quiet (fail);try go_wp2)
    go_loopg [5] kj2 (fun kq v5 w'=>∃ (x5_2:Int),v5=.int .i64 x5_2∧Aside0 (spec_PaperSame.l0 kq x5_2 a0_0 a0_1 a0_2 a0_3 l0_4 l0_5 a1_0 a1_1 a1_2 a1_3 l1_4 l1_5=some r)∧Aside0 (kq≤kj2)∧Aside0 (w'.heap[gb29]? = some (.cells #[.int .i64 a0_0,.string a0_1,.string a0_2,.int .i64 a0_3,(.slice A0_4 l0_4.length c0_4),(.slice A0_5 l0_5.length c0_5)] 31 (0,0)))∧Aside0 (w'.heap[gb54]? = some (.cells #[.int .i64 a1_0,.string a1_1,.string a1_2,.int .i64 a1_3,(.slice A1_4 l1_4.length c1_4),(.slice A1_5 l1_5.length c1_5)] 31 (0,0)))∧Aside0 (Below w.heap.size w w'))
    case atStart=>exact ⟨(0),fg,H',⟨Nat.le_refl _⟩,⟨ks BK29⟩,⟨ks BK54⟩,⟨bs HB⟩⟩
    case round =>
     clear H'
     try clear BK29
     try clear BK54
     obtain ⟨x5_2,rfl,HA,HK2,BK29,BK54,HB⟩:=hrel
     cases gk with
     | zero=>exact absurd HA.out (by simp [spec_PaperSame.l0])
     | succ k2 =>
      have H:=HA.out;clear HA;simp only [spec_PaperSame.l0] at H
      revert H;refine id2 ?_ ?_
      ·intro c30b0 H
       revert H;refine id1 ?_
       intro c31b0 H
       revert H;refine id1 ?_
       intro c32b0 H
       revert H;refine ie2 ?_ ?_
       ·intro c33b0 c33b1 H;have H':=am H;clear H;have hnb34:=NB29_54.out;have hnc34:=NB54_29.out;have hcz35:=cf6 BK29;have p57:0≤(x5_2:Int):=oa;have q57:x5_2<(l0_4.length:Int):=oa;obtain ⟨ad57,e57,hx57_0⟩:=Kd.at_string HR0_4.out x5_2 p57 q57
        cases e57
        replace hx57_0:=cb HB hx57_0;replace p57:=eq_true p57;replace q57:=eq_true q57;have hcz36:=cf6 BK54;have p58:0≤(x5_2:Int):=oa;have q58:x5_2<(l1_4.length:Int):=oa;obtain ⟨ad58,e58,hx58_0⟩:=Kd.at_string HR1_4.out x5_2 p58 q58
        cases e58
        replace hx58_0:=cb HB hx58_0;replace p58:=eq_true p58;replace q58:=eq_true q58
        go_wp2
        repeat (go_quiet (fail);try go_wp2)
        go_roundg k2
        case measure=>have:=HJ2.out;have:=HK2.out;omega
        case rel=>exact ⟨(wrap64 (x5_2+1)),fg,H',⟨by have:=HJ2.out;have:=HK2.out;omega⟩,⟨ks BK29⟩,⟨ks BK54⟩,⟨bs HB⟩⟩
       ·intro c33 c33b0 c33b1 H;obtain rfl:=si H;have hnb37:=NB29_54.out;have hnc37:=NB54_29.out;have hcz38:=cf6 BK29;have p57:0≤(x5_2:Int):=oa;have q57:x5_2<(l0_4.length:Int):=oa;obtain ⟨ad57,e57,hx57_0⟩:=Kd.at_string HR0_4.out x5_2 p57 q57
        cases e57
        replace hx57_0:=cb HB hx57_0;replace p57:=eq_true p57;replace q57:=eq_true q57;have hcz39:=cf6 BK54;have p58:0≤(x5_2:Int):=oa;have q58:x5_2<(l1_4.length:Int):=oa;obtain ⟨ad58,e58,hx58_0⟩:=Kd.at_string HR1_4.out x5_2 p58 q58
        cases e58
        replace hx58_0:=cb HB hx58_0;replace p58:=eq_true p58;replace q58:=eq_true q58
        go_wp2
        repeat (go_quiet (fail);try go_wp2)
        go_ret
        exact ⟨ff,bs HB⟩
      ·intro c30b0 H;have H':=am H;clear H;have hnb40:=NB29_54.out;have hnc40:=NB54_29.out;have hcz41:=cf6 BK29
       go_wp2
       repeat (go_quiet (fail);try go_wp2)
       go_loopg [6] k2 (fun kq v6 w'=>∃ (x6_3:Int),v6=.int .i64 x6_3∧Aside0 (spec_PaperSame.l1 kq x6_3 a0_0 a0_1 a0_2 a0_3 l0_4 l0_5 a1_0 a1_1 a1_2 a1_3 l1_4 l1_5=some r)∧Aside0 (kq≤k2)∧Aside0 (w'.heap[gb29]? = some (.cells #[.int .i64 a0_0,.string a0_1,.string a0_2,.int .i64 a0_3,(.slice A0_4 l0_4.length c0_4),(.slice A0_5 l0_5.length c0_5)] 31 (0,0)))∧Aside0 (w'.heap[gb54]? = some (.cells #[.int .i64 a1_0,.string a1_1,.string a1_2,.int .i64 a1_3,(.slice A1_4 l1_4.length c1_4),(.slice A1_5 l1_5.length c1_5)] 31 (0,0)))∧Aside0 (Below w.heap.size w w'))
       case atStart=>exact ⟨(0),fg,H',⟨Nat.le_refl _⟩,⟨ks BK29⟩,⟨ks BK54⟩,⟨bs HB⟩⟩
       case round =>
        clear H'
        try clear c30b0
        try clear hcz41
        try clear BK29
        try clear BK54
        obtain ⟨x6_3,rfl,HA,HK3,BK29,BK54,HB⟩:=hrel
        cases gk with
        | zero=>exact absurd HA.out (by simp [spec_PaperSame.l1])
        | succ k3 =>
         have H:=HA.out;clear HA;simp only [spec_PaperSame.l1] at H
         revert H;refine id2 ?_ ?_
         ·intro c42b0 H
          revert H;refine id1 ?_
          intro c43b0 H
          revert H;refine id1 ?_
          intro c44b0 H
          revert H;refine ip2 ?_ ?_
          ·intro c45 H;have c45b0:(!(((rd_T63 l0_5 x6_3).f0) == ((rd_T63 l1_5 x6_3).f0)) || (!((((rd_T63 l0_5 x6_3).f1).toList) == (((rd_T63 l1_5 x6_3).f1).toList)) || (!(((rd_T63 l0_5 x6_3).f2) == ((rd_T63 l1_5 x6_3).f2)) || (!(((rd_T63 l0_5 x6_3).f3) == ((rd_T63 l1_5 x6_3).f3)) || (!((((rd_T63 l0_5 x6_3).f4).toList) == (((rd_T63 l1_5 x6_3).f4).toList)))))))=true:=c45;clear c45;obtain rfl:=si H;have hnb46:=NB29_54.out;have hnc46:=NB54_29.out;have hcz47:=cf6 BK29;have p55:0≤(x6_3:Int):=oa;have q55:x6_3<(l0_5.length:Int):=oa;obtain ⟨ad55,e55,hx55_0,hx55_1,hx55_2,hx55_3,hx55_4⟩:=at_T63 HR0_5.out x6_3 p55 q55
           cases e55
           replace hx55_0:=cb HB hx55_0;replace hx55_1:=cb HB hx55_1;replace hx55_2:=cb HB hx55_2;replace hx55_3:=cb HB hx55_3;replace hx55_4:=cb HB hx55_4;replace p55:=eq_true p55;replace q55:=eq_true q55;have hcz48:=cf6 BK54;have p56:0≤(x6_3:Int):=oa;have q56:x6_3<(l1_5.length:Int):=oa;obtain ⟨ad56,e56,hx56_0,hx56_1,hx56_2,hx56_3,hx56_4⟩:=at_T63 HR1_5.out x6_3 p56 q56
           cases e56
           replace hx56_0:=cb HB hx56_0;replace hx56_1:=cb HB hx56_1;replace hx56_2:=cb HB hx56_2;replace hx56_3:=cb HB hx56_3;replace hx56_4:=cb HB hx56_4;replace p56:=eq_true p56;replace q56:=eq_true q56
           go_wp2
           repeat (go_quiet (fail);try go_wp2)
           go_ret
           exact ⟨ff,bs HB⟩
          ·intro c45 H
           have c45b0:(!(((rd_T63 l0_5 x6_3).f0) == ((rd_T63 l1_5 x6_3).f0)) || (!((((rd_T63 l0_5 x6_3).f1).toList) == (((rd_T63 l1_5 x6_3).f1).toList)) || (!(((rd_T63 l0_5 x6_3).f2) == ((rd_T63 l1_5 x6_3).f2)) || (!(((rd_T63 l0_5 x6_3).f3) == ((rd_T63 l1_5 x6_3).f3)) || (!((((rd_T63 l0_5 x6_3).f4).toList) == (((rd_T63 l1_5 x6_3).f4).toList)))))))=false:=by simpa using c45
           clear c45;have H':=am H;clear H;have hnb49:=NB29_54.out;have hnc49:=NB54_29.out;have hcz50:=cf6 BK29;have p55:0≤(x6_3:Int):=oa;have q55:x6_3<(l0_5.length:Int):=oa;obtain ⟨ad55,e55,hx55_0,hx55_1,hx55_2,hx55_3,hx55_4⟩:=at_T63 HR0_5.out x6_3 p55 q55
           cases e55
           replace hx55_0:=cb HB hx55_0;replace hx55_1:=cb HB hx55_1;replace hx55_2:=cb HB hx55_2;replace hx55_3:=cb HB hx55_3;replace hx55_4:=cb HB hx55_4;replace p55:=eq_true p55;replace q55:=eq_true q55;have hcz51:=cf6 BK54;have p56:0≤(x6_3:Int):=oa;have q56:x6_3<(l1_5.length:Int):=oa;obtain ⟨ad56,e56,hx56_0,hx56_1,hx56_2,hx56_3,hx56_4⟩:=at_T63 HR1_5.out x6_3 p56 q56
           cases e56
           replace hx56_0:=cb HB hx56_0;replace hx56_1:=cb HB hx56_1;replace hx56_2:=cb HB hx56_2;replace hx56_3:=cb HB hx56_3;replace hx56_4:=cb HB hx56_4;replace p56:=eq_true p56;replace q56:=eq_true q56
           go_wp2
           repeat (go_quiet (fail);try go_wp2)
           go_roundg k3
           case measure=>have:=HJ2.out;have:=HK2.out;have:=HK3.out;omega
           case rel=>exact ⟨(wrap64 (x6_3+1)),fg,H',⟨by have:=HJ2.out;have:=HK2.out;have:=HK3.out;omega⟩,⟨ks BK29⟩,⟨ks BK54⟩,⟨bs HB⟩⟩
         ·intro c42b0 H;obtain rfl:=si H;have hnb52:=NB29_54.out;have hnc52:=NB54_29.out;have hcz53:=cf6 BK29
          go_wp2
          repeat (go_quiet (fail);try go_wp2)
          go_ret
          exact ⟨ff,bs HB⟩
end Go.Proofs.YtaememmnhmebcaaGreatDoor.QB
namespace Go.Proofs.YtaememmnhmebcaaGreatDoor.QB
open Go.RowKit Go.Proofs.YtaememmnhmebcaaGreatDoorW.PrintWords Go.Proofs.YtaememmnhmebcaaGreatDoorW.PrintLast Go.Proofs.YtaememmnhmebcaaGreatDoorW.PrintMore
attribute [local go_sem] max2_int min2_int max_two min_two max_three min_three max_four min_four   -- for this text's walks alone
theorem spec_PaperRight.calls (k:Nat) (a0_0:Int) (a0_1:ByteArray) (a0_2:ByteArray) (a0_3:Int) (A0_4:Option Addr) (c0_4:Nat) (l0_4:List ByteArray) (A0_5:Option Addr) (c0_5:Nat) (l0_5:List (S63)) (r:Bool) (w:World) (hr0_4:Kd.C Kd.string w A0_4 l0_4.length l0_4) (hc0_4:l0_4.length≤c0_4) (hr0_5:Kd.C k63 w A0_5 l0_5.length l0_5) (hc0_5:l0_5.length≤c0_5) (H:spec_PaperRight.f k a0_0 a0_1 a0_2 a0_3 l0_4 l0_5=some r) :
  Calls Tryz.prog 15 #[.agg #[.int .i64 a0_0,.string a0_1,.string a0_2,.int .i64 a0_3,.slice A0_4 l0_4.length c0_4,.slice A0_5 l0_5.length c0_5]] w fun e w'=>e=.returned (.bool r)∧Below w.heap.size w w':=by
 have hu31:=Tryz.underlying31;have hu46:=Tryz.underlying46;have hu57:=Tryz.underlying57;have HR0_4:=am hr0_4;have HC0_4:=am hc0_4;clear hr0_4 hc0_4;have HR0_5:=am hr0_5;have HC0_5:=am hc0_5;clear hr0_5 hc0_5;have HB:=am (Below.refl w.heap.size w);unfold spec_PaperRight.f at H;have HC2:=am H;clear H
 go_in
 go_upto_region 1 with (first|((with_reducible refine gate_dst (N:=1) rfl ?_);(try (refine gate_guard (by rfl) ?_;dsimp only));refine bz 1 (cs:=#[.int .i64 a0_0,.string a0_1,.string a0_2,.int .i64 a0_3,.slice A0_4 l0_4.length c0_4,.slice A0_5 l0_5.length c0_5]) (t:=31) HB ?_;clear HB;intro gb35 hg w3 BK35 GW35 hb HB;clear hb hg))
 (try simp only [Act.put,List.setIfInBounds_toArray,List.set_cons_zero,List.set_cons_succ])
 go_cut [15] (fun v15 wc=>∃ (kq:Nat) (x15_1:Bool),v15=.bool x15_1∧Aside0 (spec_PaperRight.j0 kq x15_1 a0_0 a0_1 a0_2 a0_3 l0_4 l0_5=some r)∧Aside0 (kq≤k)∧Aside0 (wc.heap[gb35]? = some (.cells #[.int .i64 a0_0,.string a0_1,.string a0_2,.int .i64 a0_3,(.slice A0_4 l0_4.length c0_4),(.slice A0_5 l0_5.length c0_5)] 31 (0,0)))∧Aside0 (Below w.heap.size w wc))
 case first =>
  have H:=HC2.out;clear HC2
  revert H;refine ip2 ?_ ?_
  ·intro c4 H;have c4b0:decide (40<(l0_4.length:Int))=true:=decide_eq_true c4;have c4b1:decide (40<l0_4.length)=true:=decide_eq_true (by omega);clear c4
   (first|rw [c4b0]|(simp only [i64_w,i32_w];rw [c4b0])|rw [c4b1]|skip)
   have H':=am H;clear H;have hcz5:=cf6 BK35
   go_wp2
   go_meet
   case rel=>exact ⟨_,(true),fg,H',⟨fl⟩,⟨ks BK35⟩,⟨bs HB⟩⟩
  ·intro c4 H;have c4b0:decide (40<(l0_4.length:Int))=false:=decide_eq_false c4;have c4b1:decide (40<l0_4.length)=false:=decide_eq_false (by omega);clear c4
   (first|rw [c4b0]|(simp only [i64_w,i32_w];rw [c4b0])|rw [c4b1]|skip)
   have H':=am H;clear H;have hcz6:=cf6 BK35
   go_wp2
   go_meet
   case rel=>exact ⟨_,(decide ((l0_5.length:Int)>20)),fg,H',⟨fl⟩,⟨ks BK35⟩,⟨bs HB⟩⟩
 case rest =>
  clear HC2
  obtain ⟨kq,x15_1,rfl,HA,HJ1,BK35,HB⟩:=hcut
  cases kq with
  | zero=>exact absurd HA.out (by simp [spec_PaperRight.j0])
  | succ kj1 =>
   have H:=HA.out;clear HA;simp only [spec_PaperRight.j0] at H
   obtain rfl|rfl:=bt x15_1
   ·replace H:=itT H;obtain rfl:=si H
    go_wp2
    go_ret
    exact ⟨ff,bs HB⟩
   ·replace H:=itF H;replace H:=bo H;obtain ⟨t41,A8,H⟩:=H;have H':=am H;clear H;have hcz9:=cf6 BK35
    go_wp2_with (first|((first|((with_reducible refine gate_callee (f:=16) rfl ?_);refine goesL_ (some 17) rfl rfl Tryz.func16 (by kernel_rfl) rfl #[.agg #[.int .i64 a0_0,.string a0_1,.string a0_2,.int .i64 a0_3,.slice A0_4 l0_4.length c0_4,.slice A0_5 l0_5.length c0_5]] rfl (by (try simp only [List.map_toArray,List.map_cons,List.map_nil]);first|done|rfl|(simp only [List.length_drop,List.length_take];rfl)) ?_;(with_reducible refine (spec_l05Body.calls kj1 a0_0 a0_1 a0_2 a0_3 _ _ l0_4 _ _ l0_5 t41 _ (Kd.C_below HR0_4.out (bs HB)) HC0_4.out (Kd.C_below HR0_5.out (bs HB)) HC0_5.out A8.out).mono ?_);rintro e w10 ⟨v51,rfl,ho0,hb⟩;refine ⟨_,rfl,?_⟩)|(go_at_call 16;(with_reducible refine (spec_l05Body.calls kj1 a0_0 a0_1 a0_2 a0_3 _ _ l0_4 _ _ l0_5 t41 _ (Kd.C_below HR0_4.out (bs HB)) HC0_4.out (Kd.C_below HR0_5.out (bs HB)) HC0_5.out A8.out).mono ?_);rintro e w10 ⟨v51,rfl,ho0,hb⟩));have HO53:=am (Kd.N_lower (Kd.N_mono (ok':=fun k_=>k_≠gb35) ho0 (fun k_ hk_=>(Kd.freshB (g:=gb35) (o:=.cells #[.int .i64 a0_0,.string a0_1,.string a0_2,.int .i64 a0_3,.slice A0_4 l0_4.length c0_4,.slice A0_5 l0_5.length c0_5] 31 (0,0)) (ks BK35) k_ hk_))) (below_size (bs HB)));replace BK35:=bb BK35 hb;replace HB:=bq HB hb;(try clear hb);(try clear hb2);(try clear hk);(try clear hi);(try clear ho0)))
    go_loopg [4] kj1 (fun kq v4 w'=>∃ (x4_2:Int),v4=.int .i64 x4_2∧Aside0 (spec_PaperRight.l0 kq t41 x4_2 a0_0 a0_1 a0_2 a0_3 l0_4 l0_5=some r)∧Aside0 (kq≤kj1)∧Aside0 (Kd.N k46 46 w' w.heap.size (fun k_=>k_≠gb35) v51 t41)∧Aside0 (w'.heap[gb35]? = some (.cells #[.int .i64 a0_0,.string a0_1,.string a0_2,.int .i64 a0_3,(.slice A0_4 l0_4.length c0_4),(.slice A0_5 l0_5.length c0_5)] 31 (0,0)))∧Aside0 (Below w.heap.size w w'))
    case atStart=>exact ⟨(0),fg,H',⟨Nat.le_refl _⟩,⟨by (with_reducible repeat (first|apply Kd.N_alloc|apply Kd.N_drewN|apply Kd.N_drew));exact HO53.out⟩,⟨ks BK35⟩,⟨bs HB⟩⟩
    case round =>
     clear H'
     try clear hcz9
     try clear BK35
     obtain ⟨x4_2,rfl,HA,HK2,HO_3,BK35,HB⟩:=hrel
     cases gk with
     | zero=>exact absurd HA.out (by simp [spec_PaperRight.l0])
     | succ k2 =>
      have H:=HA.out;clear HA;simp only [spec_PaperRight.l0] at H
      revert H;refine id2 ?_ ?_
      ·intro c11b0 H
       revert H;refine id1 ?_
       intro c12b0 H;replace H:=bo H;obtain ⟨t52,A13,H⟩:=H;obtain ⟨Ao14,co14,eo14⟩:=Kd.N_slice HO_3.out;subst eo14;have p37:0≤(x4_2:Int):=oa;have q37:x4_2<(t41.length:Int):=oa;obtain ⟨ad37,A37_1,c37_1,e37,hx37_0,hx37_1,hl37_1,hi37_1⟩:=at_T46 (Kd.N_reads' HO_3.out).2.2 x4_2 p37 q37
       cases e37
       obtain ⟨ce410,hce410,hMe410,hcc410⟩:=Kd.N_get HO_3.out z46 x4_2 p37 (by first|exact q37|exact oa|(have e_:=(Kd.N_reads' HO_3.out).1;omega));obtain ⟨ua410_1,uc410_1,rfl,ul410_1,ge410_1⟩:=k46_openF hMe410;have hv410_1:=hcc410 1 _ rfl
       rw [add_field _ _ 1 (by omega)] at hv410_1
       replace hv410_1:=Option.some.inj (hv410_1.symm.trans hx37_1)
       injection hv410_1 with hva_ hvn_ hvc_
       rw [hva_] at ge410_1
       rw [hvc_] at ul410_1
       have HL410_1:=am (show Kd.V k77 77 _ w.heap.size _ _ ((rd_T46 t41 x4_2).f1) from Kd.V_mk ul410_1 ge410_1);clear hva_ hvn_ hvc_ ge410_1 ul410_1;clear hcc410 hce410;have HR37_1:=am hi37_1;have HC37_1:=am hl37_1;clear hi37_1 hl37_1;replace p37:=eq_true p37;replace q37:=eq_true q37
       try go_wp2_with (fail)
       go_at_call 30;(with_reducible refine (spec_SegmentRight.calls k2 ((rd_T46 t41 x4_2).f0) _ _ ((rd_T46 t41 x4_2).f1) t52 _ ?side1 HC37_1.out A13.out).mono ?_);(case side1=>repeat (first|exact (by repeat (first|(with_reducible exact HR37_1.out)|(with_reducible refine Kd.C_alloc ?_ _)|(with_reducible refine Kd.C_drewN ?_ _)|(with_reducible refine Kd.C_drew ?_)|exact HR37_1.out))|(with_reducible refine Kd.C_alloc ?_ _)|(with_reducible refine Kd.C_drewN ?_ _)|(with_reducible refine Kd.C_drew ?_)));rintro e w15 ⟨rfl,hb⟩;have n0_:=am (Kd.N_below (by (with_reducible repeat (first|apply Kd.N_alloc|apply Kd.N_drewN|apply Kd.N_drew));exact HO_3.out) hb);have n1_:=am (Kd.V_below (by (with_reducible repeat (first|apply Kd.V_alloc|apply Kd.V_drewN|apply Kd.V_drew));exact HL410_1.out) hb);have n2_:=am (blk_below (ks BK35) hb);have n3_:=am (Kd.C_below (by repeat (first|(with_reducible exact HR37_1.out)|(with_reducible refine Kd.C_alloc ?_ _)|(with_reducible refine Kd.C_drewN ?_ _)|(with_reducible refine Kd.C_drew ?_)|exact HR37_1.out)) hb);have n4_:=am (below_step (bs HB) hb);clear HO_3;clear HL410_1;clear BK35;clear HR37_1;clear HB;have HO_3:=n0_;have HL410_1:=n1_;have BK35:=n2_;have HR37_1:=n3_;have HB:=n4_;clear n0_ n1_ n2_ n3_ n4_;(try clear hb);(try clear hb2);(try clear hk);(try clear hi)
       obtain rfl|rfl:=bt t52
       ·replace H:=itT H;have H':=am H;clear H
        go_wp2
        go_roundg k2
        case measure=>have:=HJ1.out;have:=HK2.out;omega
        case rel=>exact ⟨(wrap64 (x4_2+1)),fg,H',⟨by have:=HJ1.out;have:=HK2.out;omega⟩,⟨by (with_reducible repeat (first|apply Kd.N_alloc|apply Kd.N_drewN|apply Kd.N_drew));exact HO_3.out⟩,⟨ks BK35⟩,⟨bs HB⟩⟩
       ·replace H:=itF H;obtain rfl:=si H
        go_wp2
        go_ret
        exact ⟨ff,bs HB⟩
      ·intro c11b0 H;replace H:=bo H;obtain ⟨⟨t44,t45,t47,t48,t42,t43,t49,t50⟩,A17,H⟩:=H;(try dsimp only at H);obtain ⟨Ao18,co18,eo18⟩:=Kd.N_slice HO_3.out;subst eo18;have hcz19:=cf6 BK35
       try go_wp2_with (fail)
       go_at_call 31;(with_reducible refine (spec_PaperOf.calls k2 a0_0 _ _ t41 t44 t45 t47 t48 t42 t43 t49 t50 _ ?side1 ?side2 A17.out).mono ?_);(case side1=>exact sd (Kd.N_reads' HO_3.out).2.2);(case side2=>exact (Kd.N_reads' HO_3.out).2.1);rintro e w20 ⟨v55,v56,rfl,ho0,ho1,hb⟩;have n0_:=am (Kd.N_mono (Kd.N_told (Kd.N_told (Kd.N_old (by (with_reducible repeat (first|apply Kd.N_alloc|apply Kd.N_drewN|apply Kd.N_drew));exact HO_3.out) hb) (Kd.R_base ho0)) (Kd.R_base ho1)) (fun _ h_=>h_.1));have n1_:=am (Kd.R_lower ho0 (below_size (bs HB)));have n2_:=am (Kd.R_lower ho1 (below_size (bs HB)));have n3_:=am (blk_below (ks BK35) hb);have n4_:=am (below_step (bs HB) hb);clear HO_3;clear BK35;clear HB;have HO_3:=n0_;have HO38:=n1_;have HO39:=n2_;have BK35:=n3_;have HB:=n4_;clear n0_ n1_ n2_ n3_ n4_;(try clear hb);(try clear hb2);(try clear hk);(try clear hi);(try clear ho0);(try clear ho1)
       revert H;refine ie2 ?_ ?_
       ·intro c21b0 c21b1 H;replace H:=bo H;obtain ⟨t54,A22,H⟩:=H;obtain rfl:=si H
        go_wp2_with (first|((with_reducible refine gate_dst (N:=5) rfl ?_);(try (refine gate_guard (by rfl) ?_;dsimp only));refine bx 5 (cs:=#[.int .i64 0,.string (⟨#[]⟩:ByteArray),.string (⟨#[]⟩:ByteArray),.int .i64 0,.slice none 0 0,.slice none 0 0,.int .i64 0,.int .i64 0]) (t:=57) ?_;intro gb36 hg w23 hbox hb;have n0_:=am (Kd.N_below (Kd.N_elderB (by (with_reducible repeat (first|apply Kd.N_alloc|apply Kd.N_drewN|apply Kd.N_drew));exact HO_3.out) gb36 (Nat.le_of_eq hg.symm)) hb);have n1_:=am (Kd.R_below (rs HO38) hb);have n2_:=am (Kd.R_below (rs HO39) hb);have n3_:=am (blk_below (ks BK35) hb);have n4_:=am (below_step (bs HB) hb);have n5_:=am (hbox);have n6_:=am ((gs hg (bs HB)));have n7_:=am ((gs hg (bs HB)));have n8_:=am ((gn hg (ks BK35)));have n9_:=am ((gm hg (ks BK35)));clear HO_3;clear HO38;clear HO39;clear BK35;clear HB;have HO_3:=n0_;have HO38:=n1_;have HO39:=n2_;have BK35:=n3_;have HB:=n4_;have BK36:=n5_;have GW36:=n6_;have GE36:=n7_;have NB35_36:=n8_;have NB36_35:=n9_;clear n0_ n1_ n2_ n3_ n4_ n5_ n6_ n7_ n8_ n9_;clear hb hbox hg;have hnb24:=NB36_35.out;have hnc24:=NB35_36.out;have hcz25:=cf8 BK36;obtain ⟨Ao26,co26,eo26⟩:=Kd.R_slice HO38.out;subst eo26;obtain ⟨Ao27,co27,eo27⟩:=Kd.R_slice HO39.out;subst eo27;have hcz28_0:w23.cell? ⟨gb35,0,none⟩=some (.int .i64 a0_0):=(blk_cell BK35.out 0).trans rfl;have hcz28_1:w23.cell? ⟨gb35,1,none⟩=some (.string a0_1):=(blk_cell BK35.out 1).trans rfl;have hcz28_2:w23.cell? ⟨gb35,2,none⟩=some (.string a0_2):=(blk_cell BK35.out 2).trans rfl;have hcz28_3:w23.cell? ⟨gb35,3,none⟩=some (.int .i64 a0_3):=(blk_cell BK35.out 3).trans rfl;have hcz28_4:w23.cell? ⟨gb35,4,none⟩=some (.slice A0_4 l0_4.length c0_4):=(blk_cell BK35.out 4).trans rfl;have hcz28_5:w23.cell? ⟨gb35,5,none⟩=some (.slice A0_5 l0_5.length c0_5):=(blk_cell BK35.out 5).trans rfl;have hfz28_0:=blk_frozen BK35.out 0;have hfz28_1:=blk_frozen BK35.out 1;have hfz28_2:=blk_frozen BK35.out 2;have hfz28_3:=blk_frozen BK35.out 3;have hfz28_4:=blk_frozen BK35.out 4;have hfz28_5:=blk_frozen BK35.out 5)|(go_at_call 32;(with_reducible refine (spec_PaperSame.calls k2 t44 t45 t47 t48 _ _ t42 _ _ t43 a0_0 a0_1 a0_2 a0_3 _ _ l0_4 _ _ l0_5 t54 _ ?side1 ?side2 ?side3 ?side4 ?side5 HC0_4.out ?side7 HC0_5.out A22.out).mono ?_);(case side1=>refine (Kd.R_reads' (e:=9) (base:=w.heap.size) (ok:=fun k_=>True) (n:=t42.length) (c:=co26) ?_).2.2;exact (by (with_reducible repeat (first|apply Kd.R_alloc|apply Kd.R_drewN|apply Kd.R_drew));exact (Kd.R_mono (rf (Kd.R_types HO38.out BK36.out (by decide))) (fun _ h_=>h_.1))));(case side2=>exact (Kd.R_reads' HO38.out).2.1);(case side3=>refine (Kd.R_reads' (e:=63) (base:=w.heap.size) (ok:=fun k_=>True) (n:=t43.length) (c:=co27) ?_).2.2;exact (by (with_reducible repeat (first|apply Kd.R_alloc|apply Kd.R_drewN|apply Kd.R_drew));exact (Kd.R_mono (rf (Kd.R_types HO39.out BK36.out (by decide))) (fun _ h_=>h_.1))));(case side4=>exact (Kd.R_reads' HO39.out).2.1);(case side5=>exact Kd.C_below HR0_4.out (bs HB));(case side7=>exact Kd.C_below HR0_5.out (bs HB));rintro e w29 ⟨rfl,hb⟩;have n0_:=am (Kd.N_below (by (with_reducible repeat (first|apply Kd.N_alloc|apply Kd.N_drewN|apply Kd.N_drew));exact (Kd.N_mono (Kd.N_far (p:=⟨gb36,7,none⟩) (Kd.N_far (p:=⟨gb36,6,none⟩) (Kd.N_far (p:=⟨gb36,5,none⟩) (Kd.N_far (p:=⟨gb36,4,none⟩) (Kd.N_far (p:=⟨gb36,3,none⟩) (Kd.N_far (p:=⟨gb36,2,none⟩) (Kd.N_far (p:=⟨gb36,1,none⟩) (Kd.N_far (p:=⟨gb36,0,none⟩) (Kd.N_mono HO_3.out (fun k_ hk=>(⟨hk,hk.2⟩:_∧k_≠gb36))) (fun _ hk=>hk.2) (.int .i64 t44)) (fun _ hk=>hk.2) (.string t45)) (fun _ hk=>hk.2) (.string t47)) (fun _ hk=>hk.2) (.int .i64 t48)) (fun _ hk=>hk.2) (.slice Ao26 t42.length co26)) (fun _ hk=>hk.2) (.slice Ao27 t43.length co27)) (fun _ hk=>hk.2) (.int .i64 t49)) (fun _ hk=>hk.2) (.int .i64 t50)) (fun _ h_=>h_.1))) hb);have n1_:=am (Kd.R_below (by (with_reducible repeat (first|apply Kd.R_alloc|apply Kd.R_drewN|apply Kd.R_drew));exact (Kd.R_mono (rf (Kd.R_types HO38.out BK36.out (by decide))) (fun _ h_=>h_.1))) hb);have n2_:=am (Kd.R_below (by (with_reducible repeat (first|apply Kd.R_alloc|apply Kd.R_drewN|apply Kd.R_drew));exact (Kd.R_mono (rf (Kd.R_types HO39.out BK36.out (by decide))) (fun _ h_=>h_.1))) hb);have n3_:=am (blk_below (ks BK35) hb);have n4_:=am (blk_below (g:=gb36) (o:=.cells #[.int .i64 t44,.string t45,.string t47,.int .i64 t48,.slice Ao26 t42.length co26,.slice Ao27 t43.length co27,.int .i64 t49,.int .i64 t50] 57 (0,0)) (kp BK36) hb);have n5_:=am (below_step (bs HB) hb);clear HO_3;clear HO38;clear HO39;clear BK35;clear BK36;clear HB;have HO_3:=n0_;have HO38:=n1_;have HO39:=n2_;have BK35:=n3_;have BK36:=n4_;have HB:=n5_;clear n0_ n1_ n2_ n3_ n4_ n5_;(try clear hb);(try clear hb2);(try clear hk);(try clear hi)))
        go_ret
        exact ⟨ff,bs HB⟩
       ·intro c21 c21b0 c21b1 H;obtain rfl:=si H
        go_wp2_with (first|((with_reducible refine gate_dst (N:=5) rfl ?_);(try (refine gate_guard (by rfl) ?_;dsimp only));refine bx 5 (cs:=#[.int .i64 0,.string (⟨#[]⟩:ByteArray),.string (⟨#[]⟩:ByteArray),.int .i64 0,.slice none 0 0,.slice none 0 0,.int .i64 0,.int .i64 0]) (t:=57) ?_;intro gb36 hg w30 hbox hb;have n0_:=am (Kd.N_below (Kd.N_elderB (by (with_reducible repeat (first|apply Kd.N_alloc|apply Kd.N_drewN|apply Kd.N_drew));exact HO_3.out) gb36 (Nat.le_of_eq hg.symm)) hb);have n1_:=am (Kd.R_below (rs HO38) hb);have n2_:=am (Kd.R_below (rs HO39) hb);have n3_:=am (blk_below (ks BK35) hb);have n4_:=am (below_step (bs HB) hb);have n5_:=am (hbox);have n6_:=am ((gs hg (bs HB)));have n7_:=am ((gs hg (bs HB)));have n8_:=am ((gn hg (ks BK35)));have n9_:=am ((gm hg (ks BK35)));clear HO_3;clear HO38;clear HO39;clear BK35;clear HB;have HO_3:=n0_;have HO38:=n1_;have HO39:=n2_;have BK35:=n3_;have HB:=n4_;have BK36:=n5_;have GW36:=n6_;have GE36:=n7_;have NB35_36:=n8_;have NB36_35:=n9_;clear n0_ n1_ n2_ n3_ n4_ n5_ n6_ n7_ n8_ n9_;clear hb hbox hg;have hnb31:=NB36_35.out;have hnc31:=NB35_36.out;have hcz32:=cf8 BK36;obtain ⟨Ao33,co33,eo33⟩:=Kd.R_slice HO38.out;subst eo33;obtain ⟨Ao34,co34,eo34⟩:=Kd.R_slice HO39.out;subst eo34))
        go_ret
        exact ⟨ff,bs HB⟩
theorem spec_PaperBody.calls (k:Nat) (a0_0:Int) (a0_1:ByteArray) (a0_2:ByteArray) (a0_3:Int) (A0_4:Option Addr) (c0_4:Nat) (l0_4:List ByteArray) (A0_5:Option Addr) (c0_5:Nat) (l0_5:List (S63)) (r:List (S46)) (w:World) (hr0_4:Kd.C Kd.string w A0_4 l0_4.length l0_4) (hc0_4:l0_4.length≤c0_4) (hr0_5:Kd.C k63 w A0_5 l0_5.length l0_5) (hc0_5:l0_5.length≤c0_5) (H:spec_PaperBody.f k a0_0 a0_1 a0_2 a0_3 l0_4 l0_5=some r) :
  Calls Tryz.prog 5 #[.agg #[.int .i64 a0_0,.string a0_1,.string a0_2,.int .i64 a0_3,.slice A0_4 l0_4.length c0_4,.slice A0_5 l0_5.length c0_5]] w fun e w'=>∃ v0_:Value,e=.returned (v0_)∧Kd.N k46 46 w' w.heap.size (fun k_=>(w.heap.size≤k_)) v0_ r∧Below w.heap.size w w':=by
 have hu31:=Tryz.underlying31;have HR0_4:=am hr0_4;have HC0_4:=am hc0_4;clear hr0_4 hc0_4;have HR0_5:=am hr0_5;have HC0_5:=am hc0_5;clear hr0_5 hc0_5;have HB:=am (Below.refl w.heap.size w);unfold spec_PaperBody.f at H;replace H:=bo H;obtain ⟨t14,A2,H⟩:=H
 go_in
 try go_wp2_with (first|((with_reducible refine gate_dst (N:=1) rfl ?_);refine bz 1 (cs:=#[.int .i64 a0_0,.string a0_1,.string a0_2,.int .i64 a0_3,.slice A0_4 l0_4.length c0_4,.slice A0_5 l0_5.length c0_5]) (t:=31) HB ?_;clear HB;intro gb12 hg w3 BK12 GW12 hb HB;clear hb hg;have hcz4:=cf6 BK12))
 go_at_call 15;(with_reducible refine (spec_PaperRight.calls k a0_0 a0_1 a0_2 a0_3 _ _ l0_4 _ _ l0_5 t14 _ (Kd.C_below HR0_4.out (bs HB)) HC0_4.out (Kd.C_below HR0_5.out (bs HB)) HC0_5.out A2.out).mono ?_);rintro e w5 ⟨rfl,hb⟩;replace BK12:=bb BK12 hb;replace HB:=bq HB hb;(try clear hb);(try clear hb2);(try clear hk);(try clear hi)
 obtain rfl|rfl:=bt t14
 ·replace H:=itT H;replace H:=bo H;obtain ⟨t17,A7,H⟩:=H;obtain rfl:=si H;have hcz8:=cf6 BK12
  go_wp2_with (first|((first|((with_reducible refine gate_callee (f:=16) rfl ?_);refine goesL_ (some 8) rfl rfl Tryz.func16 (by kernel_rfl) rfl #[.agg #[.int .i64 a0_0,.string a0_1,.string a0_2,.int .i64 a0_3,.slice A0_4 l0_4.length c0_4,.slice A0_5 l0_5.length c0_5]] rfl (by (try simp only [List.map_toArray,List.map_cons,List.map_nil]);first|done|rfl|(simp only [List.length_drop,List.length_take];rfl)) ?_;(with_reducible refine (spec_l05Body.calls k a0_0 a0_1 a0_2 a0_3 _ _ l0_4 _ _ l0_5 t17 _ (Kd.C_below HR0_4.out (bs HB)) HC0_4.out (Kd.C_below HR0_5.out (bs HB)) HC0_5.out A7.out).mono ?_);rintro e w9 ⟨v18,rfl,ho0,hb⟩;refine ⟨_,rfl,?_⟩)|(go_at_call 16;(with_reducible refine (spec_l05Body.calls k a0_0 a0_1 a0_2 a0_3 _ _ l0_4 _ _ l0_5 t17 _ (Kd.C_below HR0_4.out (bs HB)) HC0_4.out (Kd.C_below HR0_5.out (bs HB)) HC0_5.out A7.out).mono ?_);rintro e w9 ⟨v18,rfl,ho0,hb⟩));have HO19:=am (Kd.N_lower (Kd.N_mono (ok':=fun k_=>(w.heap.size≤k_)∧k_≠gb12) ho0 (fun k_ hk_=>⟨(Nat.le_trans (below_size (bs HB)) hk_),(Kd.freshB (g:=gb12) (o:=.cells #[.int .i64 a0_0,.string a0_1,.string a0_2,.int .i64 a0_3,.slice A0_4 l0_4.length c0_4,.slice A0_5 l0_5.length c0_5] 31 (0,0)) (ks BK12) k_ hk_)⟩)) (below_size (bs HB)));replace BK12:=bb BK12 hb;replace HB:=bq HB hb;(try clear hb);(try clear hb2);(try clear hk);(try clear hi);(try clear ho0)))
  go_ret
  exact ⟨_,ff,by (with_reducible repeat (first|apply Kd.N_alloc|apply Kd.N_drewN|apply Kd.N_drew));exact Kd.N_mono HO19.out (fun _ hk=>hk.1),bs HB⟩
 ·replace H:=itF H;obtain ⟨y13,hy13⟩:∃ y_:List (S46),y_=(([]:List (S46))):=⟨_,rfl⟩
  replace H:(some y13)=some r:=ye hy13 H
  have Ny13:=am hy13;clear hy13;obtain rfl:=si H
  go_wp2_with (first|((with_reducible refine gate_dst (N:=6) rfl ?_);refine Kd.N_lit k46 _ 46 ?hg (N':=6) ?hd (xs:=([]:List (S46))) (inner:=[]) (ok:=(fun k_=>(w.heap.size≤k_)∧k_≠gb12)) (okp:=(fun k_=>(w.heap.size≤k_)∧k_≠gb12)) ?hr ?hp (fun _ hk=>hk) ((show ∀ k_,w5.heap.size≤k_→(fun k_=>(w.heap.size≤k_)∧k_≠gb12) k_ from fun k_ hk=>⟨(Nat.le_trans (below_size (bs HB)) hk),Kd.freshB (g:=gb12) (o:=.cells #[.int .i64 a0_0,.string a0_1,.string a0_2,.int .i64 a0_3,.slice A0_4 l0_4.length c0_4,.slice A0_5 l0_5.length c0_5] 31 (0,0)) (ks BK12) k_ hk⟩) _ (Nat.le_refl _)) (Below.refl _ _) (Nat.le_refl _) (by simp) ?_;(case hd=>rfl);(case hg=>rfl);(case hr=>first|(go_simp;done)|(go_simp;rfl));(case hp=>exact (Reps.none _ _));intro v21 w10 ho11 hb hg_ hnew_;clear hg_ hnew_;(first|rw [← Ny13.out] at ho11|(simp only [Int.reduceToNat] at ho11;rw [← Ny13.out] at ho11));have HO20:=am (Kd.N_lower ho11 (below_size (bs HB)));replace BK12:=bb BK12 hb;replace HB:=bq HB hb;clear hb ho11))
  go_ret
  exact ⟨_,ff,by (with_reducible repeat (first|apply Kd.N_alloc|apply Kd.N_drewN|apply Kd.N_drew));exact Kd.N_mono HO20.out (fun _ hk=>hk.1),bs HB⟩
theorem impl_within.calls (a0:Int) (a1:Int) (a2:Int) (r:Bool) (w:World) (H:impl_within.f a0 a1 a2=some r) :
  Calls Tryz.prog 38 #[.int .i64 a0,.int .i64 a1,.int .i64 a2] w fun e w'=>e=.returned (.bool r)∧Drawn0 w w':=by
 unfold impl_within.f at H
 revert H;refine id2 ?_ ?_
 ·intro c4b0 H;obtain rfl:=si H
  go_in
  go_wp2
  go_ret
  exact ⟨fg,dr⟩
 ·intro c4b0 H;obtain rfl:=si H
  go_in
  go_wp2
  go_ret
  exact ⟨fg,dr⟩
theorem impl_hasTwo.calls (a0:Int) (r:Bool) (w:World) (H:impl_hasTwo.f a0=some r) :
  Calls Tryz.prog 43 #[.int .i64 a0] w fun e w'=>e=.returned (.bool r)∧Drawn0 w w':=by
 unfold impl_hasTwo.f at H;replace H:=bo H;obtain ⟨t1,A2,H⟩:=H;obtain rfl:=si H
 go_in
 go_wp2_with (first|((first|((with_reducible refine gate_callee (f:=38) rfl ?_);refine goesL_ (some 4) rfl rfl Tryz.func38 (by kernel_rfl) rfl #[.int .i64 a0,.int .i64 2,.int .i64 4] rfl (by (try simp only [List.map_toArray,List.map_cons,List.map_nil]);first|done|rfl|(simp only [List.length_drop,List.length_take];rfl)) ?_;(with_reducible refine (impl_within.calls a0 2 4 t1 _ A2.out).mono ?_);rintro e w' ⟨rfl,⟨nd,rfl⟩⟩;refine ⟨_,rfl,?_⟩)|(go_at_call 38;(with_reducible refine (impl_within.calls a0 2 4 t1 _ A2.out).mono ?_);rintro e w' ⟨rfl,⟨nd,rfl⟩⟩))))
 go_ret
 exact ⟨fg,dr⟩
def TbF (w : World) : Prop := Lib.TabIs Tryz.prog w "internal/strconv.uint64pow10" .u64 Lib.pow10Tab
theorem tbF {w W:World} (h:Aside0 (TbF w)) (hb:Below w.heap.size w W):TbF W:=Lib.tabBelow_of_tabIs h.out W hb
theorem strconv_FormatInt.calls (a0 a1:Int) (r:ByteArray) (w:World) (hT:TbF w) (h:strconv_FormatInt.f a0 a1=some r) :
  Calls Tryz.prog 72 #[.int .i64 a0,.int .i64 a1] w fun e w'=>e=.returned (.string r)∧Below w.heap.size w w':=by
 unfold strconv_FormatInt.f at h
 by_cases c1:a1=10
 ·rw [if_pos c1] at h
  by_cases c2 : -9223372036854775808≤a0
  ·rw [if_pos c2] at h
   by_cases c3:a0≤9223372036854775807
   ·rw [if_pos c3] at h
    obtain rfl:=Option.some.inj h;subst c1;refine (show Calls Tryz.prog 72 #[.int .i64 a0,.int .i64 10] w _ from Any.strconv_FormatInt_10 Tryz.laysM173 a0 c2 c3 w hT).mono ?_;rintro e w' ⟨rfl,k,os,rfl⟩
    exact ⟨rfl,rfl,rfl,rfl,by simp,fun j hj=>by rw [Go.Sort.heap_grow_old _ _ (by simpa using hj)];rfl⟩
   ·rw [if_neg c3] at h;cases h
  ·rw [if_neg c2] at h;cases h
 ·rw [if_neg c1] at h;cases h
theorem impl_decimal.calls (a0:Int) (r:ByteArray) (w:World) (hTF:TbF w) (H:impl_decimal.f a0=some r) :
  Calls Tryz.prog 45 #[.int .i64 a0] w fun e w'=>e=.returned (.string r)∧Below w.heap.size w w':=by
 have HTF:=am hTF;clear hTF
 have HB:=am (Below.refl w.heap.size w);unfold impl_decimal.f at H;replace H:=bo H;obtain ⟨t1,A2,H⟩:=H;obtain rfl:=si H
 go_in
 go_wp2_with (first|((first|((with_reducible refine gate_callee (f:=72) rfl ?_);refine goesL_ (some 4) rfl rfl Tryz.func72 (by kernel_rfl) rfl #[.int .i64 a0,.int .i64 10] rfl (by (try simp only [List.map_toArray,List.map_cons,List.map_nil]);first|done|rfl|(simp only [List.length_drop,List.length_take];rfl)) ?_;(with_reducible refine (strconv_FormatInt.calls a0 10 t1 _ (tbF HTF (bs HB)) A2.out).mono ?_);rintro e w3 ⟨rfl,hb⟩;refine ⟨_,rfl,?_⟩)|(go_at_call 72;(with_reducible refine (strconv_FormatInt.calls a0 10 t1 _ (tbF HTF (bs HB)) A2.out).mono ?_);rintro e w3 ⟨rfl,hb⟩));replace HB:=bq HB hb;(try clear hb);(try clear hb2);(try clear hk);(try clear hi)))
 go_ret
 exact ⟨ff,bs HB⟩
theorem impl_Segment.calls (A0:Option Addr) (c0:Nat) (l0:List (S46)) (r:Bool) (w:World) (hr0:Kd.C k46 w A0 l0.length l0) (hc0:l0.length≤c0) (H:impl_Segment.f l0=some r) :
  Calls Tryz.prog 61 #[.slice A0 l0.length c0] w fun e w'=>e=.returned (.bool r)∧Drawn0 w w':=by
 have HR0:=am hr0;have HC0:=am hc0;clear hr0 hc0;unfold impl_Segment.f at H;obtain rfl:=si H
 go_in
 go_wp2
 go_ret
 exact ⟨fg,dr⟩
def TbC (w:World):Prop:=∃ m,w.cell? ⟨1,0,none⟩=some (.int .i64 m)
theorem tbC {w W:World} (h:Aside0 (TbC w)) (hb:Below w.heap.size w W):TbC W:=by
 obtain ⟨m,h0⟩:=h.out
 exact ⟨m,(hb.cell (World.block_lt_of_cell? w _ h0)).trans h0⟩
theorem strings_Cut.calls (a0:ByteArray) (a1:ByteArray) (r1:ByteArray) (r2:ByteArray) (r3:Bool) (w:World) (hTC:TbC w) (h:strings_Cut.f a0 a1=some (r1,r2,r3)) :
  Calls Tryz.prog 83 #[.string a0,.string a1] w fun e w'=>e=.returned (.tuple #[.string r1,.string r2,.bool r3])∧Below w.heap.size w w':=by
 unfold strings_Cut.f at h
 by_cases c1:a0.size<4294967281
 ·rw [if_pos c1] at h
  obtain ⟨rfl,rfl,rfl⟩:(⟨(Lib.cut a0.data.toList a1.data.toList).1.toArray⟩:ByteArray)=r1∧(⟨(Lib.cut a0.data.toList a1.data.toList).2.1.toArray⟩:ByteArray)=r2∧(Lib.cut a0.data.toList a1.data.toList).2.2=r3:=by simpa using h
  obtain ⟨m,hm⟩:=hTC;refine (show Calls Tryz.prog 83 #[.string a0,.string a1] w _ from Any.strings_Cut Tryz.lays145 a0 a1 m w c1 hm).mono ?_;rintro e w' ⟨rfl,k,rfl⟩
  exact ⟨rfl,pw_below_drewN (Below.refl _ _) k⟩
 ·rw [if_neg c1] at h;cases h
theorem strings_IndexByte.calls (a0:ByteArray) (a1:Int) (r:Int) (w:World) (h:strings_IndexByte.f a0 a1=some r) :
  Calls Tryz.prog 84 #[.string a0,.int .u8 a1] w fun e w'=>e=.returned (.int .i64 r)∧Drawn0 w w':=by
 obtain rfl:=Option.some.inj h;refine (show Calls Tryz.prog 84 #[.string a0,.int .u8 a1] w _ from Any.strings_IndexByte Tryz.lays137 a0 a1 w).mono ?_;rintro e w' ⟨rfl,rfl⟩
 exact ⟨rfl,Drawn0.refl _⟩
theorem impl_longText_1.calls (a0:ByteArray) (r:Bool) (w:World) (H:impl_longText_1.f a0=some r) :
  Calls Tryz.prog 95 #[.string a0] w fun e w'=>e=.returned (.bool r)∧Drawn0 w w':=by
 unfold impl_longText_1.f at H;obtain rfl:=si H
 go_in
 go_wp2
 go_ret
 exact ⟨fg,dr⟩
theorem slices_IndexFunc_string_string_impl_longText_1.calls (k:Nat) (A0:Option Addr) (c0:Nat) (l0:List ByteArray)  (r:Int) (w:World) (hr0:Kd.C Kd.string w A0 l0.length l0) (hc0:l0.length≤c0) (H:slices_IndexFunc_string_string_impl_longText_1.f k l0=some r) :
  Calls Tryz.prog 110 #[.slice A0 l0.length c0,.func (.func 95) #[] #[]] w fun e w'=>e=.returned (.int .i64 r)∧Drawn0 w w':=by
 have HR0:=am hr0;have HC0:=am hc0;clear hr0 hc0;unfold slices_IndexFunc_string_string_impl_longText_1.f at H;have H':=am H;clear H
 go_in
 go_wp2
 go_loopg [8] k (fun kq v8 w'=>∃ (x8_1:Int),v8=.int .i64 x8_1∧Aside0 (slices_IndexFunc_string_string_impl_longText_1.l0 kq l0 (l0.length:Int) x8_1=some r)∧Aside0 (kq≤k)∧Drawn0 w w')
 case atStart=>exact ⟨(0),fg,H',⟨Nat.le_refl _⟩,by repeat (first|exact Drawn0.refl _|apply Drawn0.step)⟩
 case round =>
  clear H'
  obtain ⟨x8_1,rfl,HA,HK1,⟨m1,rfl⟩⟩:=hrel
  cases gk with
  | zero=>exact absurd HA.out (by simp [slices_IndexFunc_string_string_impl_longText_1.l0])
  | succ k1 =>
   have H:=HA.out;clear HA;simp only [slices_IndexFunc_string_string_impl_longText_1.l0] at H
   revert H;refine id2 ?_ ?_
   ·intro c3b0 H
    revert H;refine id1 ?_
    intro c4b0 H
    revert H;refine id1 ?_
    intro c5b0 H;replace H:=bo H;obtain ⟨t9,A6,H⟩:=H;have p7:0≤(x8_1:Int):=oa;have q7:x8_1<(l0.length:Int):=oa;obtain ⟨ad7,e7,hx7_0⟩:=Kd.at_string HR0.out x8_1 p7 q7
    cases e7
    replace p7:=eq_true p7;replace q7:=eq_true q7
    try go_wp2_with (fail)
    go_at_call 95;(with_reducible refine (impl_longText_1.calls (rdOf ByteArray.empty l0 x8_1) t9 _ A6.out).mono ?_);rintro e w' ⟨rfl,⟨nd,rfl⟩⟩
    obtain rfl|rfl:=bt t9
    ·replace H:=itT H;obtain rfl:=si H
     go_wp2
     go_ret
     exact ⟨fg,dr⟩
    ·replace H:=itF H;have H':=am H;clear H
     go_wp2
     go_roundg k1
     case measure=>have:=HK1.out;omega
     case rel=>exact ⟨(wrap64 (x8_1+1)),fg,H',⟨by have:=HK1.out;omega⟩,by repeat (first|exact Drawn0.refl _|apply Drawn0.step)⟩
   ·intro c3b0 H;obtain rfl:=si H
    go_wp2
    go_ret
    exact ⟨fg,dr⟩
theorem slices_ContainsFunc_string_string_impl_longText_1.calls (k:Nat) (A0:Option Addr) (c0:Nat) (l0:List ByteArray)  (r:Bool) (w:World) (hr0:Kd.C Kd.string w A0 l0.length l0) (hc0:l0.length≤c0) (H:slices_ContainsFunc_string_string_impl_longText_1.f k l0=some r) :
  Calls Tryz.prog 94 #[.slice A0 l0.length c0,.func (.func 95) #[] #[]] w fun e w'=>e=.returned (.bool r)∧Drawn0 w w':=by
 have HR0:=am hr0;have HC0:=am hc0;clear hr0 hc0;unfold slices_ContainsFunc_string_string_impl_longText_1.f at H;replace H:=bo H;obtain ⟨t4,A3,H⟩:=H;obtain rfl:=si H
 go_in
 go_wp2_with (first|((first|((with_reducible refine gate_callee (f:=110) rfl ?_);refine goesL_ (some 7) rfl rfl Tryz.func110 (by kernel_rfl) rfl #[.slice A0 l0.length c0,.func (.func 95) #[] #[]] rfl (by (try simp only [List.map_toArray,List.map_cons,List.map_nil]);first|done|rfl|(simp only [List.length_drop,List.length_take];rfl)) ?_;(with_reducible refine (slices_IndexFunc_string_string_impl_longText_1.calls k _ _ l0  t4 _ ?side1 HC0.out A3.out).mono ?_);(case side1=>exact sd HR0.out);rintro e w' ⟨rfl,⟨nd,rfl⟩⟩;refine ⟨_,rfl,?_⟩)|(go_at_call 110;(with_reducible refine (slices_IndexFunc_string_string_impl_longText_1.calls k _ _ l0  t4 _ ?side1 HC0.out A3.out).mono ?_);(case side1=>exact sd HR0.out);rintro e w' ⟨rfl,⟨nd,rfl⟩⟩))))
 go_ret
 exact ⟨fg,dr⟩
theorem impl_longText.calls (k:Nat) (A0:Option Addr) (c0:Nat) (l0:List ByteArray) (r:Bool) (w:World) (hr0:Kd.C Kd.string w A0 l0.length l0) (hc0:l0.length≤c0) (H:impl_longText.f k l0=some r) :
  Calls Tryz.prog 85 #[.slice A0 l0.length c0] w fun e w'=>e=.returned (.bool r)∧Drawn0 w w':=by
 have HR0:=am hr0;have HC0:=am hc0;clear hr0 hc0;unfold impl_longText.f at H;replace H:=bo H;obtain ⟨t3,A2,H⟩:=H;obtain rfl:=si H
 go_in
 go_wp2_with (first|((first|((with_reducible refine gate_callee (f:=94) rfl ?_);refine goesL_ (some 4) rfl rfl Tryz.func94 (by kernel_rfl) rfl #[.slice A0 l0.length c0,.func (.func 95) #[] #[]] rfl (by (try simp only [List.map_toArray,List.map_cons,List.map_nil]);first|done|rfl|(simp only [List.length_drop,List.length_take];rfl)) ?_;(with_reducible refine (slices_ContainsFunc_string_string_impl_longText_1.calls k _ _ l0  t3 _ ?side1 HC0.out A2.out).mono ?_);(case side1=>exact sd HR0.out);rintro e w' ⟨rfl,⟨nd,rfl⟩⟩;refine ⟨_,rfl,?_⟩)|(go_at_call 94;(with_reducible refine (slices_ContainsFunc_string_string_impl_longText_1.calls k _ _ l0  t3 _ ?side1 HC0.out A2.out).mono ?_);(case side1=>exact sd HR0.out);rintro e w' ⟨rfl,⟨nd,rfl⟩⟩))))
 go_ret
 exact ⟨fg,dr⟩
theorem impl_isGreat.calls (a0:Int) (r:Bool) (w:World) (H:impl_isGreat.f a0=some r) :
  Calls Tryz.prog 111 #[.int .u8 a0] w fun e w'=>e=.returned (.bool r)∧Drawn0 w w':=by
 unfold impl_isGreat.f at H
 revert H;refine ip2 ?_ ?_
 ·intro c2 H;have c2b0:decide (65≤a0)=true:=decide_eq_true c2;clear c2;obtain rfl:=si H
  go_in
  go_wp2
  go_ret
  exact ⟨fg,dr⟩
 ·intro c2 H;have c2b0:decide (65≤a0)=false:=decide_eq_false c2;clear c2;obtain rfl:=si H
  go_in
  go_wp2
  go_ret
  exact ⟨fg,dr⟩
theorem impl_isDigit.calls (a0:Int) (r:Bool) (w:World) (H:impl_isDigit.f a0=some r) :
  Calls Tryz.prog 100 #[.int .u8 a0] w fun e w'=>e=.returned (.bool r)∧Drawn0 w w':=by
 unfold impl_isDigit.f at H
 revert H;refine ip2 ?_ ?_
 ·intro c2 H;have c2b0:decide (48≤a0)=true:=decide_eq_true c2;clear c2;obtain rfl:=si H
  go_in
  go_wp2
  go_ret
  exact ⟨fg,dr⟩
 ·intro c2 H;have c2b0:decide (48≤a0)=false:=decide_eq_false c2;clear c2;obtain rfl:=si H
  go_in
  go_wp2
  go_ret
  exact ⟨fg,dr⟩
theorem impl_isNumber.calls (k:Nat) (a0:ByteArray) (r:Bool) (w:World) (H:impl_isNumber.f k a0=some r) :
  Calls Tryz.prog 88 #[.string a0] w fun e w'=>e=.returned (.bool r)∧Drawn0 w w':=by
 unfold impl_isNumber.f at H;have HC2:=am H;clear H
 go_in
 go_upto_region 2 with (fail)
 go_cut [12] (fun v12 wc=>∃ (kq:Nat) (x12_1:Bool),v12=.bool x12_1∧Aside0 (impl_isNumber.j0 kq a0 a0 x12_1=some r)∧Aside0 (kq≤k)∧Drawn0 w wc)
 case first =>
  have H:=HC2.out;clear HC2
  revert H;refine in2 ?_ ?_
  ·intro c3b0 c3b1 c3b2 H
   (first|rw [c3b0]|simp only [c3b2,Bool.not_true,Bool.not_false]|rw [c3b1]|skip)
   have H':=am H;clear H
   go_wp2
   go_meet
   case rel=>exact ⟨_,(false),fg,H',⟨fl⟩,by repeat (first|exact Drawn0.refl _|apply Drawn0.step)⟩
  ·intro c3 c3b0 c3b1 c3b2 H
   (first|rw [c3b0]|simp only [c3b2,Bool.not_true,Bool.not_false]|rw [c3b1]|skip)
   revert H;refine id1k ?_
   intro c4 c4b0 H;have c4b1:decide (0<a0.size)=true:=decide_eq_true (by omega);clear c4;have H':=am H;clear H;have p5:0≤(0:Int):=(by omega);have q5:0<a0.size:=(by have:(0:Int)<(a0.size:Int):=oa;omega);have hx5:∀ h:0<a0.size,((a0[0]'h).toNat:Int)=bt a0 0:=bt_at a0 0;clear p5;have qi5:(0<(a0.size:Int))=True:=eq_true (oa);replace q5:=eq_true q5
   go_wp2
   go_meet
   case rel=>exact ⟨_,(((bt a0 0) == 45)),fg,H',⟨fl⟩,by repeat (first|exact Drawn0.refl _|apply Drawn0.step)⟩
 case rest =>
  clear HC2
  obtain ⟨kq,x12_1,rfl,HA,HJ1,⟨mc1,rfl⟩⟩:=hcut
  cases kq with
  | zero=>exact absurd HA.out (by simp [impl_isNumber.j0])
  | succ kj1 =>
   have H:=HA.out;clear HA;simp only [impl_isNumber.j0] at H;have HC6:=am H;clear H
   go_upto_if 12 with (fail)
   go_cut [3] (fun v3 wc=>∃ (kq:Nat) (x3_5:ByteArray),v3=.string x3_5∧Aside0 (impl_isNumber.j1 kq a0 x3_5=some r)∧Aside0 (kq≤kj1)∧Drawn0 w wc)
   case first =>
    have H:=HC6.out;clear HC6
    obtain rfl|rfl:=bt x12_1
    ·replace H:=itT H
     revert H;refine ip1 ?_
     intro c8 H;have c8b0:=eq_true c8;have c8b1:decide (1≤(a0.size:Int))=true:=decide_eq_true c8;clear c8;have H':=am H;clear H
     go_wp2
     go_meet
     case rel=>exact ⟨_,(a0.extract 1 a0.size),fg,H',⟨by have:=HJ1.out;first|omega|exact Nat.le_refl _⟩,by repeat (first|exact Drawn0.refl _|apply Drawn0.step)⟩
    ·replace H:=itF H;have H':=am H;clear H
     go_wp2
     go_meet
     case rel=>exact ⟨_,(a0),fg,H',⟨by have:=HJ1.out;first|omega|exact Nat.le_refl _⟩,by repeat (first|exact Drawn0.refl _|apply Drawn0.step)⟩
   case rest =>
    clear HC6
    obtain ⟨kq,x3_5,rfl,HA,HJ5,⟨mc5,rfl⟩⟩:=hcut
    cases kq with
    | zero=>exact absurd HA.out (by simp [impl_isNumber.j1])
    | succ kj5 =>
     have H:=HA.out;clear HA;simp only [impl_isNumber.j1] at H;have H':=am H;clear H
     go_wp2
     go_loopg [17] kj5 (fun kq v17 w'=>∃ (x17_3:Int),v17=.int .i64 x17_3∧Aside0 (impl_isNumber.l0 kq a0 x3_5 (x3_5.size:Int) x17_3=some r)∧Aside0 (kq≤kj5)∧Drawn0 w w')
     case atStart=>exact ⟨(0),fg,H',⟨Nat.le_refl _⟩,by repeat (first|exact Drawn0.refl _|apply Drawn0.step)⟩
     case round =>
      clear H'
      obtain ⟨x17_3,rfl,HA,HK3,⟨m3,rfl⟩⟩:=hrel
      cases gk with
      | zero=>exact absurd HA.out (by simp [impl_isNumber.l0])
      | succ k3 =>
       have H:=HA.out;clear HA;simp only [impl_isNumber.l0] at H
       revert H;refine id2 ?_ ?_
       ·intro c9b0 H
        revert H;refine id1 ?_
        intro c10b0 H
        revert H;refine id1 ?_
        intro c11b0 H;replace H:=bo H;obtain ⟨t7,A13,H⟩:=H;have p12:0≤(x17_3:Int):=oa;have q12:x17_3<(x3_5.size:Int):=oa;have hx12:=bt_at x3_5 x17_3;replace p12:=eq_true p12;replace q12:=eq_true q12
        try go_wp2_with (fail)
        go_at_call 100;(with_reducible refine (impl_isDigit.calls (bt x3_5 x17_3) t7 _ A13.out).mono ?_);rintro e w' ⟨rfl,⟨nd,rfl⟩⟩
        obtain rfl|rfl:=bt t7
        ·replace H:=itT H;have H':=am H;clear H
         go_wp2
         go_roundg k3
         case measure=>have:=HJ1.out;have:=HJ5.out;have:=HK3.out;omega
         case rel=>exact ⟨(wrap64 (x17_3+1)),fg,H',⟨by have:=HJ1.out;have:=HJ5.out;have:=HK3.out;omega⟩,by repeat (first|exact Drawn0.refl _|apply Drawn0.step)⟩
        ·replace H:=itF H;obtain rfl:=si H
         go_wp2
         go_ret
         exact ⟨fg,dr⟩
       ·intro c9b0 H
        revert H;refine in2 ?_ ?_
        ·intro c15b0 c15b1 c15b2 H;obtain rfl:=si H
         go_wp2
         go_ret
         exact ⟨fg,dr⟩
        ·intro c15 c15b0 c15b1 c15b2 H
         by_cases c16:0<(x3_5.size:Int)
         ·rw [if_pos c16] at H;have c16b0:decide (0<(x3_5.size:Int))=true:=decide_eq_true c16;have c16b1:decide (0<x3_5.size)=true:=decide_eq_true (by omega);clear c16
          revert H;refine ie2 ?_ ?_
          ·intro c18b0 c18b1 H;obtain rfl:=si H;have p17:0≤(0:Int):=(by omega);have q17:0<x3_5.size:=(by have:(0:Int)<(x3_5.size:Int):=oa;omega);have hx17:∀ h:0<x3_5.size,((x3_5[0]'h).toNat:Int)=bt x3_5 0:=bt_at x3_5 0;clear p17;have qi17:(0<(x3_5.size:Int))=True:=eq_true (oa);replace q17:=eq_true q17
           go_wp2
           go_ret
           exact ⟨fg,dr⟩
          ·intro c18 c18b0 c18b1 H;obtain rfl:=si H;have p17:0≤(0:Int):=(by omega);have q17:0<x3_5.size:=(by have:(0:Int)<(x3_5.size:Int):=oa;omega);have hx17:∀ h:0<x3_5.size,((x3_5[0]'h).toNat:Int)=bt x3_5 0:=bt_at x3_5 0;clear p17;have qi17:(0<(x3_5.size:Int))=True:=eq_true (oa);replace q17:=eq_true q17
           go_wp2
           go_ret
           exact ⟨fg,dr⟩
         ·rw [if_neg c16] at H
          exact absurd H (by simp)
def TbP (w:World):Prop:=(∃ ev,w.cell? ⟨2,0,none⟩=some ev∧(ev=.nilIface∨∃ te pe,ev=.iface te pe))∧∃ ev,w.cell? ⟨3,0,none⟩=some ev∧(ev=.nilIface∨∃ te pe,ev=.iface te pe)
theorem tbP {w W:World} (h:Aside0 (TbP w)) (hb:Below w.heap.size w W):TbP W:=by
 obtain ⟨⟨e0,h0,g0⟩,e1,h1,g1⟩:=h.out
 exact ⟨⟨e0,(hb.cell (World.block_lt_of_cell? w _ h0)).trans h0,g0⟩,e1,(hb.cell (World.block_lt_of_cell? w _ h1)).trans h1,g1⟩
theorem impl_numberIn.calls (k:Nat) (a0:ByteArray) (a1:Int) (a2:Int) (r1:Int) (r2:Bool) (w:World) (hTP:TbP w) (h:impl_numberIn.f k a0 a1 a2=some (r1,r2)) :
  Calls Tryz.prog 66 #[.string a0,.int .i64 a1,.int .i64 a2] w fun e w'=>e=.returned (.tuple #[.int .i64 r1,.bool r2])∧Below w.heap.size w w':=by
 unfold impl_numberIn.f at h
 by_cases c1:a0.size≤281474976710656
 ·rw [if_pos c1] at h
  obtain ⟨⟨e0,g0,t0⟩,e1,g1,t1⟩:=hTP
  cases hp:Lib.parseIntB 64 a0.data.toList with
  | ok v =>
   simp only [hp] at h
   obtain ⟨b,hb,h⟩:=Option.bind_eq_some_iff.mp h;have A1:=am hb;clear hb
   cases b with
   | true =>
    simp only [if_true] at h
    obtain ⟨c,hc,h⟩:=Option.bind_eq_some_iff.mp h;have A2:=am hc;clear hc;obtain ⟨rfl,rfl⟩:=Prod.mk.inj (Option.some.inj h);clear h
    go_in
    go_wp2_with (go_at_call 87;refine (Any.strconv_ParseInt_10_at64_ok Tryz.laysC174 a0 (by omega) _ hp _).mono ?_;rintro e W1 ⟨rfl,hw⟩)
    have HB:Aside0 (Below w.heap.size w W1):=⟨hw.elim (fun e_=>by rw [e_];exact Below.refl _ _) (fun ⟨t_,e_⟩=>by rw [e_];exact Lib.bytesWorld_below _ _ _)⟩;clear hw
    go_wp2_with (go_at_call 88;refine (impl_isNumber.calls k a0 true _ A1.out).mono ?_;rintro e W2 ⟨rfl,hd⟩;replace HB:=am (below_step HB.out hd.below))
    go_wp2_with (go_at_call 38;refine (impl_within.calls _ a1 a2 _ _ A2.out).mono ?_;rintro e W3 ⟨rfl,hd⟩;replace HB:=am (below_step HB.out hd.below))
    go_ret2
    exact ⟨rfl,HB.out⟩
   | false =>
    simp only [Bool.false_eq_true,if_false] at h
    obtain ⟨rfl,rfl⟩:=Prod.mk.inj (Option.some.inj h);clear h
    go_in
    go_wp2_with (go_at_call 87;refine (Any.strconv_ParseInt_10_at64_ok Tryz.laysC174 a0 (by omega) _ hp _).mono ?_;rintro e W1 ⟨rfl,hw⟩)
    have HB:Aside0 (Below w.heap.size w W1):=⟨hw.elim (fun e_=>by rw [e_];exact Below.refl _ _) (fun ⟨t_,e_⟩=>by rw [e_];exact Lib.bytesWorld_below _ _ _)⟩;clear hw
    go_wp2_with (go_at_call 88;refine (impl_isNumber.calls k a0 false _ A1.out).mono ?_;rintro e W2 ⟨rfl,hd⟩;replace HB:=am (below_step HB.out hd.below))
    go_ret2
    exact ⟨rfl,HB.out⟩
  | «syntax» =>
   simp only [hp] at h
   obtain ⟨rfl,rfl⟩:=Prod.mk.inj (Option.some.inj h);clear h
   go_in
   go_wp2_with (go_at_call 87;refine (Any.strconv_ParseInt_10_at64_syntax Tryz.laysC174 a0 c1 hp e0 _ ?_ t0).mono ?_)
   ·exact g0
   rintro e W1 ⟨N,rfl,-,-,hb⟩
   go_wp2
   go_ret2
   exact ⟨rfl,hb⟩
  | range =>
   simp only [hp] at h
   obtain ⟨rfl,rfl⟩:=Prod.mk.inj (Option.some.inj h);clear h
   go_in
   go_wp2_with (go_at_call 87;refine (Any.strconv_ParseInt_10_at64_range Tryz.laysC174 a0 c1 hp e1 _ ?_ t1).mono ?_)
   ·exact g1
   rintro e W1 ⟨N,rfl,-,-,hb⟩
   go_wp2
   go_ret2
   exact ⟨rfl,hb⟩
 ·rw [if_neg c1] at h;cases h
theorem impl_isPrinted.calls (k:Nat) (a0:ByteArray) (r:Bool) (w:World) (H:impl_isPrinted.f k a0=some r) :
  Calls Tryz.prog 112 #[.string a0] w fun e w'=>e=.returned (.bool r)∧Drawn0 w w':=by
 unfold impl_isPrinted.f at H;have H':=am H;clear H
 go_in
 go_wp2
 go_loopg [6] k (fun kq v6 w'=>∃ (x6_1:Int),v6=.int .i64 x6_1∧Aside0 (impl_isPrinted.l0 kq a0 (a0.size:Int) x6_1=some r)∧Aside0 (kq≤k)∧Drawn0 w w')
 case atStart=>exact ⟨(0),fg,H',⟨Nat.le_refl _⟩,by repeat (first|exact Drawn0.refl _|apply Drawn0.step)⟩
 case round =>
  clear H'
  obtain ⟨x6_1,rfl,HA,HK1,⟨m1,rfl⟩⟩:=hrel
  cases gk with
  | zero=>exact absurd HA.out (by simp [impl_isPrinted.l0])
  | succ k1 =>
   have H:=HA.out;clear HA;simp only [impl_isPrinted.l0] at H
   revert H;refine id2 ?_ ?_
   ·intro c2b0 H
    revert H;refine id1 ?_
    intro c3b0 H
    revert H;refine id1 ?_
    intro c4b0 H
    revert H;refine id2 ?_ ?_
    ·intro c6b0 H;obtain rfl:=si H;have p5:0≤(x6_1:Int):=oa;have q5:x6_1<(a0.size:Int):=oa;have hx5:=bt_at a0 x6_1;replace p5:=eq_true p5;replace q5:=eq_true q5
     go_wp2
     go_ret
     exact ⟨fg,dr⟩
    ·intro c6b0 H
     revert H;refine ip2 ?_ ?_
     ·intro c8 H;have c8b0:decide (126<(bt a0 x6_1))=true:=decide_eq_true c8;clear c8;obtain rfl:=si H;have p5:0≤(x6_1:Int):=oa;have q5:x6_1<(a0.size:Int):=oa;have hx5:=bt_at a0 x6_1;replace p5:=eq_true p5;replace q5:=eq_true q5;have p7:0≤(x6_1:Int):=oa;have q7:x6_1<(a0.size:Int):=oa;have hx7:=bt_at a0 x6_1;replace p7:=eq_true p7;replace q7:=eq_true q7
      go_wp2
      go_ret
      exact ⟨fg,dr⟩
     ·intro c8 H;have c8b0:decide (126<(bt a0 x6_1))=false:=decide_eq_false c8;clear c8;have H':=am H;clear H;have p5:0≤(x6_1:Int):=oa;have q5:x6_1<(a0.size:Int):=oa;have hx5:=bt_at a0 x6_1;replace p5:=eq_true p5;replace q5:=eq_true q5;have p7:0≤(x6_1:Int):=oa;have q7:x6_1<(a0.size:Int):=oa;have hx7:=bt_at a0 x6_1;replace p7:=eq_true p7;replace q7:=eq_true q7
      go_wp2
      go_roundg k1
      case measure=>have:=HK1.out;omega
      case rel=>exact ⟨(wrap64 (x6_1+1)),fg,H',⟨by have:=HK1.out;omega⟩,by repeat (first|exact Drawn0.refl _|apply Drawn0.step)⟩
   ·intro c2b0 H;obtain rfl:=si H
    go_wp2
    go_ret
    exact ⟨fg,dr⟩
theorem impl_isPart.calls (k:Nat) (a0:ByteArray) (r:Bool) (w:World) (H:impl_isPart.f k a0=some r) :
  Calls Tryz.prog 97 #[.string a0] w fun e w'=>e=.returned (.bool r)∧Drawn0 w w':=by
 unfold impl_isPart.f at H
 revert H;refine id2k ?_ ?_
 ·intro c2 c2b0 H;have c2b1:decide (a0.size≤40)=true:=decide_eq_true (by omega);clear c2;replace H:=bo H;obtain ⟨t4,A3,H⟩:=H;obtain rfl:=si H
  go_in
  go_wp2_with (first|(go_at_call 112;(with_reducible refine (impl_isPrinted.calls k a0 t4 _ A3.out).mono ?_);rintro e w' ⟨rfl,⟨nd,rfl⟩⟩))
  go_ret
  exact ⟨fg,dr⟩
 ·intro c2 c2b0 H;have c2b1:decide (a0.size≤40)=false:=decide_eq_false (by omega);clear c2;obtain rfl:=si H
  go_in
  go_wp2
  go_ret
  exact ⟨fg,dr⟩
end Go.Proofs.YtaememmnhmebcaaGreatDoor.QB
