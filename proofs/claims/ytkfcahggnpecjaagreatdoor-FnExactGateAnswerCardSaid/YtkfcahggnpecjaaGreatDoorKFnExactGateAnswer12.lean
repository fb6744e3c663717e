-- Merged by a program of this session (wip/tool/pack.py) out of its own texts for this claim.
import Derived.Test.YtkfcahggnpecjaaGreatDoorKFnExactGateAnswer11
set_option maxHeartbeats 8000000
set_option maxRecDepth 100000
set_option linter.unusedSimpArgs false
set_option linter.unusedVariables false
namespace Go.Proofs.YtkfcahggnpecjaaGreatDoor.QW
open Go.RowKit Go.Proofs.YtkfcahggnpecjaaGreatDoorW.PrintWords Go.Proofs.YtkfcahggnpecjaaGreatDoorW.PrintLast Go.Proofs.YtkfcahggnpecjaaGreatDoorW.PrintMore
attribute [local go_sem] max2_int min2_int max_two min_two max_three min_three max_four min_four   -- for this text's walks alone
def spec_GateRight.T6:Bool × List (List Nat × List Nat):=(true,[([],[]),([0],[0]),([],[]),([1,2],[1,2]),([3],[3]),([4],[4]),([5],[5]),([6,5],[6]),([7],[7]),([8,7],[7,8]),([9,7,7],[7,9]),([10],[10]),([11,10],[10,11]),([10],[10]),([12,13,10],[10,12,13]),([14,10],[10,14]),([15,10],[10,15]),([10],[10]),([17,10],[10,17]),([10],[10]),([19,10],[10,19]),([18,20,10],[10,18,20]),([21,10],[10,21]),([22,10],[10,22]),([16,23,10],[10,16,23]),([10,24,7],[7,10,24]),([7,25],[7,25])])
def spec_GateRight.B6:List Nat:=[0,1,0,7,15,31,63,127,255,511,1023,2047,4095,2047,16383,32767,65535,2047,133119,2047,526335,1968127,4065279,8259583,16777215,33554431,67108863]
theorem spec_GateRight.tab6:rtab .any (opsOf Tryz.f18 6)=spec_GateRight.T6:=by kernel_rfl
theorem spec_GateRight.bits6:waitsOk spec_GateRight.T6.2 spec_GateRight.B6=true:=by kernel_rfl
theorem spec_GateRight.calls (k:Nat) (a0_0:ByteArray) (a0_1:Int) (A0_2:Option Addr) (c0_2:Nat) (l0_2:List (S108)) (A0_3:Option Addr) (c0_3:Nat) (l0_3:List (S111)) (A0_4:Option Addr) (c0_4:Nat) (l0_4:List (S141)) (A0_5:Option Addr) (c0_5:Nat) (l0_5:List (S147)) (A0_6:Option Addr) (c0_6:Nat) (l0_6:List (S115)) (A0_7:Option Addr) (c0_7:Nat) (l0_7:List (S117)) (r:Bool) (w:World) (hr0_2:Kd.C k108 w A0_2 l0_2.length l0_2) (hc0_2:l0_2.length≤c0_2) (hr0_3:Kd.C k111 w A0_3 l0_3.length l0_3) (hc0_3:l0_3.length≤c0_3) (hr0_4:Kd.C k141 w A0_4 l0_4.length l0_4) (hc0_4:l0_4.length≤c0_4) (hr0_5:Kd.C k147 w A0_5 l0_5.length l0_5) (hc0_5:l0_5.length≤c0_5) (hr0_6:Kd.C k115 w A0_6 l0_6.length l0_6) (hc0_6:l0_6.length≤c0_6) (hr0_7:Kd.C k117 w A0_7 l0_7.length l0_7) (hc0_7:l0_7.length≤c0_7) (H:spec_GateRight.f k a0_0 a0_1 l0_2 l0_3 l0_4 l0_5 l0_6 l0_7=some r) :
  Calls Tryz.prog 18 #[.agg #[.string a0_0,.int .i64 a0_1,.slice A0_2 l0_2.length c0_2,.slice A0_3 l0_3.length c0_3,.slice A0_4 l0_4.length c0_4,.slice A0_5 l0_5.length c0_5,.slice A0_6 l0_6.length c0_6,.slice A0_7 l0_7.length c0_7]] w fun e w'=>e=.returned (.bool r)∧Below w.heap.size w w':=by
 have hu47:=Tryz.underlying47;have hu43:=Tryz.underlying43;have hu108:=Tryz.underlying108;have HR0_2:=am hr0_2;have HC0_2:=am hc0_2;clear hr0_2 hc0_2;have HR0_3:=am hr0_3;have HC0_3:=am hc0_3;clear hr0_3 hc0_3;have HR0_4:=am hr0_4;have HC0_4:=am hc0_4;clear hr0_4 hc0_4;have HR0_5:=am hr0_5;have HC0_5:=am hc0_5;clear hr0_5 hc0_5;have HR0_6:=am hr0_6;have HC0_6:=am hc0_6;clear hr0_6 hc0_6;have HR0_7:=am hr0_7;have HC0_7:=am hc0_7;clear hr0_7 hc0_7;have HB:=am (Below.refl w.heap.size w);unfold spec_GateRight.f at H;have HC2:=am H;clear H
 go_in
 go_upto_region 1 with (first|((with_reducible refine gate_dst (N:=1) rfl ?_);(try (refine gate_guard (by rfl) ?_;dsimp only));refine bz 1 (cs:=#[.string a0_0,.int .i64 a0_1,.slice A0_2 l0_2.length c0_2,.slice A0_3 l0_3.length c0_3,.slice A0_4 l0_4.length c0_4,.slice A0_5 l0_5.length c0_5,.slice A0_6 l0_6.length c0_6,.slice A0_7 l0_7.length c0_7]) (t:=47) HB ?_;clear HB;intro gb50 hg w3 BK50 GW50 hb HB;clear hb hg))
 (try simp only [Act.put,List.setIfInBounds_toArray,List.set_cons_zero,List.set_cons_succ])
 go_cut [43] (fun v43 wc=>∃ (kq:Nat) (x43_1:Bool),v43=.bool x43_1∧Aside0 (spec_GateRight.j0 kq x43_1 a0_0 a0_1 l0_2 l0_3 l0_4 l0_5 l0_6 l0_7=some r)∧Aside0 (kq≤k)∧Aside0 (wc.heap[gb50]? = some (.cells #[.string a0_0,.int .i64 a0_1,(.slice A0_2 l0_2.length c0_2),(.slice A0_3 l0_3.length c0_3),(.slice A0_4 l0_4.length c0_4),(.slice A0_5 l0_5.length c0_5),(.slice A0_6 l0_6.length c0_6),(.slice A0_7 l0_7.length c0_7)] 47 (0,0)))∧Aside0 (Below w.heap.size w wc))
 case first =>
  have H:=HC2.out;clear HC2;replace H:=bo H;obtain ⟨t78,A4,H⟩:=H;have hcz5:=cf8 BK50
  try go_wp2_with (fail)
  go_at_call 19;(with_reducible refine (spec_l01Name.calls k a0_0 t78 _ A4.out).mono ?_);rintro e w' ⟨rfl,⟨nd,rfl⟩⟩
  obtain rfl|rfl:=bt t78
  ·replace H:=itT H;replace H:=bo H;obtain ⟨t79,A7,H⟩:=H;have hcz8:=cf8 BK50
   try go_wp2_with (fail)
   go_at_call 56;(with_reducible refine (spec_l01Day.calls a0_1 t79 _ A7.out).mono ?_);rintro e w' ⟨rfl,⟨nd,rfl⟩⟩
   obtain rfl|rfl:=bt t79
   ·replace H:=itT H
    revert H;refine ip2 ?_ ?_
    ·intro c10 H;have c10b0:decide (20<(l0_2.length:Int))=true:=decide_eq_true c10;have c10b1:decide (20<l0_2.length)=true:=decide_eq_true (by omega);clear c10
     (first|rw [c10b0]|(simp only [i64_w,i32_w];rw [c10b0])|rw [c10b1]|skip)
     have H':=am H;clear H;have hcz11:=cf8 BK50
     go_wp2
     go_meet
     case rel=>exact ⟨_,(true),fg,H',⟨fl⟩,⟨ks BK50⟩,⟨bs HB⟩⟩
    ·intro c10 H;have c10b0:decide (20<(l0_2.length:Int))=false:=decide_eq_false c10;have c10b1:decide (20<l0_2.length)=false:=decide_eq_false (by omega);clear c10
     (first|rw [c10b0]|(simp only [i64_w,i32_w];rw [c10b0])|rw [c10b1]|skip)
     replace H:=bo H;obtain ⟨t80,A12,H⟩:=H;have hcz13:=cf8 BK50
     try go_wp2_with (fail)
     go_at_call 57;(with_reducible refine (spec_CrossRight.calls k _ _ l0_3 t80 _ ?side1 HC0_3.out A12.out).mono ?_);(case side1=>repeat (first|exact (Kd.C_below HR0_3.out (bs HB))|(with_reducible refine Kd.C_alloc ?_ _)|(with_reducible refine Kd.C_drewN ?_ _)|(with_reducible refine Kd.C_drew ?_)));rintro e w14 ⟨rfl,hb⟩;replace BK50:=bb BK50 hb;replace HB:=bq HB hb;(try clear hb);(try clear hb2);(try clear hk);(try clear hi)
     obtain rfl|rfl:=bt t80
     ·replace H:=itT H;replace H:=bo H;obtain ⟨t81,A16,H⟩:=H;have hcz17:=cf8 BK50
      try go_wp2_with (fail)
      go_at_call 58;(with_reducible refine (spec_BookRight.calls k _ _ l0_4 _ _ l0_5 t81 _ (Kd.C_below HR0_4.out (bs HB)) HC0_4.out (Kd.C_below HR0_5.out (bs HB)) HC0_5.out A16.out).mono ?_);rintro e w18 ⟨rfl,hb⟩;replace BK50:=bb BK50 hb;replace HB:=bq HB hb;(try clear hb);(try clear hb2);(try clear hk);(try clear hi)
      obtain rfl|rfl:=bt t81
      ·replace H:=itT H
       revert H;refine ip2 ?_ ?_
       ·intro c20 H;have c20b0:decide (200<(l0_6.length:Int))=true:=decide_eq_true c20;have c20b1:decide (200<l0_6.length)=true:=decide_eq_true (by omega);clear c20;have H':=am H;clear H;have hcz21:=cf8 BK50
        go_wp2
        go_meet
        case rel=>exact ⟨_,(true),fg,H',⟨fl⟩,⟨ks BK50⟩,⟨bs HB⟩⟩
       ·intro c20 H;have c20b0:decide (200<(l0_6.length:Int))=false:=decide_eq_false c20;have c20b1:decide (200<l0_6.length)=false:=decide_eq_false (by omega);clear c20;replace H:=bo H;obtain ⟨t82,A22,H⟩:=H;have H':=am H;clear H;have hcz23:=cf8 BK50
        go_wp2_with (first|(go_at_call 59;(with_reducible refine (spec_OutboxRight.calls k _ _ l0_7 t82 _ (Kd.C_below HR0_7.out (bs HB)) HC0_7.out A22.out).mono ?_);rintro e w24 ⟨rfl,hb⟩;replace BK50:=bb BK50 hb;replace HB:=bq HB hb;(try clear hb);(try clear hb2);(try clear hk);(try clear hi)))
        go_meet
        case rel=>exact ⟨_,(!t82),fg,H',⟨fl⟩,⟨ks BK50⟩,⟨bs HB⟩⟩
      ·replace H:=itF H;have H':=am H;clear H
       go_wp2
       go_meet
       case rel=>exact ⟨_,(true),fg,H',⟨fl⟩,⟨ks BK50⟩,⟨bs HB⟩⟩
     ·replace H:=itF H;have H':=am H;clear H
      go_wp2
      go_meet
      case rel=>exact ⟨_,(true),fg,H',⟨fl⟩,⟨ks BK50⟩,⟨bs HB⟩⟩
   ·replace H:=itF H;have H':=am H;clear H
    go_wp2
    go_meet
    case rel=>exact ⟨_,(true),fg,H',⟨fl⟩,⟨ks BK50⟩,⟨bs HB⟩⟩
  ·replace H:=itF H;have H':=am H;clear H
   go_wp2
   go_meet
   case rel=>exact ⟨_,(true),fg,H',⟨fl⟩,⟨ks BK50⟩,⟨bs HB⟩⟩
 case rest =>
  clear HC2
  obtain ⟨kq,x43_1,rfl,HA,HJ1,BK50,HB⟩:=hcut
  cases kq with
  | zero=>exact absurd HA.out (by simp [spec_GateRight.j0])
  | succ kj1 =>
   have H:=HA.out;clear HA;simp only [spec_GateRight.j0] at H
   obtain rfl|rfl:=bt x43_1
   ·replace H:=itT H;obtain rfl:=si H
    go_wp2
    go_ret
    exact ⟨ff,bs HB⟩
   ·replace H:=itF H;have H':=am H;clear H
    go_wp2
    go_loopg [3] kj1 (fun kq v3 w'=>∃ (x3_2:Int),v3=.int .i64 x3_2∧Aside0 (spec_GateRight.l0 kq x3_2 a0_0 a0_1 l0_2 l0_3 l0_4 l0_5 l0_6 l0_7=some r)∧Aside0 (kq≤kj1)∧Aside0 (w'.heap[gb50]? = some (.cells #[.string a0_0,.int .i64 a0_1,(.slice A0_2 l0_2.length c0_2),(.slice A0_3 l0_3.length c0_3),(.slice A0_4 l0_4.length c0_4),(.slice A0_5 l0_5.length c0_5),(.slice A0_6 l0_6.length c0_6),(.slice A0_7 l0_7.length c0_7)] 47 (0,0)))∧Aside0 (Below w.heap.size w w'))
    case atStart=>exact ⟨(0),fg,H',⟨Nat.le_refl _⟩,⟨ks BK50⟩,⟨bs HB⟩⟩
    case round =>
     clear H'
     obtain ⟨x3_2,rfl,HA,HK2,BK50,HB⟩:=hrel
     cases gk with
     | zero=>exact absurd HA.out (by simp [spec_GateRight.l0])
     | succ k2 =>
      have H:=HA.out;clear HA;simp only [spec_GateRight.l0] at H
      revert H;refine id2 ?_ ?_
      ·intro c26b0 H
       revert H;refine id1 ?_
       intro c27b0 H;replace H:=bo H;obtain ⟨t83,A28,H⟩:=H
       obtain rfl|rfl:=bt t83
       ·replace H:=itT H
        revert H;refine ip2 ?_ ?_
        ·intro c30 H;have c30b0:decide (0<x3_2)=true:=decide_eq_true c30;clear c30;obtain ⟨ji31,hji31⟩:∃ j_:Int,(wrap64 (x3_2 - 1))=j_:=⟨_,rfl⟩
         replace H:(if 0≤(ji31) then (if (ji31)<(l0_2.length:Int) then (if ((Op.bytesLess (((rd_T108 l0_2 (ji31)).f0).toList) (((rd_T108 l0_2 x3_2).f0).toList))=true) then (spec_GateRight.l0 k2 (wrap64 (x3_2+1)) a0_0 a0_1 l0_2 l0_3 l0_4 l0_5 l0_6 l0_7) else (some false)) else (none)) else (none))=some r:=by first|(rw [hji31] at H;exact H)|(simp only [hji31] at H ⊢;exact H)
         (try rw [hji31] at A28)
         have hji31w:(IntKind.i64.wrap (x3_2 - 1))=ji31:=(i64_w _).trans hji31
         revert H;refine id1 ?_
         intro c32b0 H
         revert H;refine id1 ?_
         intro c33b0 H
         revert H;refine ip2 ?_ ?_
         ·intro c34 H;have c34b0:(Op.bytesLess (((rd_T108 l0_2 (ji31)).f0).toList) (((rd_T108 l0_2 x3_2).f0).toList))=true:=c34;clear c34;have H':=am H;clear H;have hcz35:=cf8 BK50
          try go_wp2
          replace BK50:=am (blk_drew BK50.out);replace HB:=am (below_drew1 HB.out);have p29:0≤(x3_2:Int):=oa;have q29:x3_2<(l0_2.length:Int):=oa;obtain ⟨ad29,A29_3,c29_3,e29,hx29_0,hx29_1,hx29_2,hx29_3,hl29_3,hi29_3⟩:=at_T108 HR0_2.out x3_2 p29 q29;have hw29_3:=hx29_3;have hw29_2:=hx29_2;have hw29_1:=hx29_1;have hw29_0:=hx29_0
          cases e29
          replace hx29_0:=cb HB hx29_0;replace hx29_1:=cb HB hx29_1;replace hx29_2:=cb HB hx29_2;replace hx29_3:=cb HB hx29_3;have HR29_3:=am hi29_3;have HC29_3:=am hl29_3;clear hi29_3 hl29_3;replace p29:=eq_true p29;replace q29:=eq_true q29;have p48:0≤(x3_2:Int):=oa;have q48:x3_2<(l0_2.length:Int):=oa;obtain ⟨ad48,A48_3,c48_3,e48,hx48_0,hx48_1,hx48_2,hx48_3,hl48_3,hi48_3⟩:=at_T108 HR0_2.out x3_2 p48 q48;have hw48_3:=hx48_3;have hw48_2:=hx48_2;have hw48_1:=hx48_1;have hw48_0:=hx48_0;obtain rfl:ad29=ad48:=(by injection e48);replace hx48_0:=cb HB hx48_0;replace hx48_1:=cb HB hx48_1;replace hx48_2:=cb HB hx48_2;replace hx48_3:=cb HB hx48_3;(try (have ea_:=Option.some.inj ((cb HB hw29_3).symm.trans hx48_3);injection ea_ with ea_ en_ ec_;subst ea_;subst ec_;clear en_));have HR48_3:=am hi48_3;have HC48_3:=am hl48_3;clear hi48_3 hl48_3;replace p48:=eq_true p48;replace q48:=eq_true q48;have p49:0≤((ji31):Int):=oa;have q49:(ji31)<(l0_2.length:Int):=oa;obtain ⟨ad49,A49_3,c49_3,e49,hx49_0,hx49_1,hx49_2,hx49_3,hl49_3,hi49_3⟩:=at_T108 HR0_2.out (ji31) p49 q49;have hw49_3:=hx49_3;have hw49_2:=hx49_2;have hw49_1:=hx49_1;have hw49_0:=hx49_0;obtain rfl:ad29=ad49:=(by injection e49);replace hx49_0:=cb HB hx49_0;replace hx49_1:=cb HB hx49_1;replace hx49_2:=cb HB hx49_2;replace hx49_3:=cb HB hx49_3;(try (have ea_:=Option.some.inj ((cb HB hw29_3).symm.trans hx49_3);injection ea_ with ea_ en_ ec_;subst ea_;subst ec_;clear en_));have HR49_3:=am hi49_3;have HC49_3:=am hl49_3;clear hi49_3 hl49_3;replace p49:=eq_true p49;replace q49:=eq_true q49;refine sta 27 (hb8a BK50 (hca (cb HB hw29_0) (hca (cb HB hw29_1) (hca (cb HB hw29_2) (hca (cb HB hw29_3) (hca (cb HB hw48_0) (hca (cb HB hw48_1) (hca (cb HB hw48_2) (hca (cb HB hw48_3) (hca (cb HB hw49_0) (hca (cb HB hw49_1) (hca (cb HB hw49_2) (hc (cb HB hw49_3)))))))))))))) (fun hHeld=>?_);refine with_tabW spec_GateRight.tab6 spec_GateRight.bits6 (fun HT_ HW_=>?_)
          generalize wr.drew=w36 at BK50 HB HR29_3 HR48_3 HR49_3 hx29_0 hx29_1 hx29_2 hx29_3 hx48_0 hx48_1 hx48_2 hx48_3 hx49_0 hx49_1 hx49_2 hx49_3 hHeld ⊢
          refine pA 0 51 HT_ ?_;refine pA 2 53 HT_ ?_;refine tA 1 52 HT_ HW_ hHeld ?_;refine pA 3 54 HT_ ?_;refine tA 4 55 HT_ HW_ hHeld ?_;refine oA 5 56 HT_ (fun K hK=>?_);refine gA Tryz.func60 #[.agg #[.string ((rd_T108 l0_2 x3_2).f0),.int .i64 ((rd_T108 l0_2 x3_2).f1),.int .i64 ((rd_T108 l0_2 x3_2).f2),.slice A29_3 ((rd_T108 l0_2 x3_2).f3).length c29_3]] ?_;(with_reducible refine (spec_PartnerRight.calls k2 ((rd_T108 l0_2 x3_2).f0) ((rd_T108 l0_2 x3_2).f1) ((rd_T108 l0_2 x3_2).f2) _ _ ((rd_T108 l0_2 x3_2).f3) true _ ?side1 ?side2 A28.out).mono ?_)
          (case side1=>exact sd (Kd.C_below HR29_3.out HB.out))
          (case side2=>exact HC29_3.out)
          rintro e w37 ⟨rfl,hb⟩;refine ⟨_,rfl,?_⟩;replace BK50:=bb BK50 hb;replace HB:=bq HB hb;(try clear hb);(try clear hb2);(try clear hk);(try clear hi);refine hK.out _ _ (hb8a BK50 (hca (cb HB hw29_0) (hca (cb HB hw29_1) (hca (cb HB hw29_2) (hca (cb HB hw29_3) (hca (cb HB hw48_0) (hca (cb HB hw48_1) (hca (cb HB hw48_2) (hca (cb HB hw48_3) (hca (cb HB hw49_0) (hca (cb HB hw49_1) (hca (cb HB hw49_2) (hc (cb HB hw49_3)))))))))))))).out (fun hHeld=>?_);clear hK K;refine nA 56 ?_;refine pA 6 57 HT_ ?_;refine pA 7 58 HT_ ?_;refine pA 8 59 HT_ ?_;refine pA 9 60 HT_ ?_;refine pA 10 61 HT_ ?_;refine pA 11 62 HT_ ?_;refine pA 13 64 HT_ ?_;refine pA 17 68 HT_ ?_;refine pA 19 70 HT_ ?_;refine pA 20 71 HT_ ?_;refine tA 12 63 HT_ HW_ hHeld ?_;refine pA 14 65 HT_ ?_;refine pA 15 66 HT_ ?_;refine tA 16 67 HT_ HW_ hHeld ?_;refine tA 18 69 HT_ HW_ hHeld ?_;refine pA 21 72 HT_ ?_;refine pA 22 73 HT_ ?_;refine tA 23 74 HT_ HW_ hHeld ?_;refine pA 24 75 HT_ ?_;refine pA 25 76 HT_ ?_;refine pA 26 77 HT_ ?_;refine done_ (done_of HT_.out (by kernel_rfl)) ?_
          try go_wp2
          go_roundg k2
          case measure=>have:=HJ1.out;have:=HK2.out;omega
          case rel=>exact ⟨(wrap64 (x3_2+1)),fg,H',⟨by have:=HJ1.out;have:=HK2.out;omega⟩,⟨ks BK50⟩,⟨bs HB⟩⟩
         ·intro c34 H
          have c34b0:(Op.bytesLess (((rd_T108 l0_2 (ji31)).f0).toList) (((rd_T108 l0_2 x3_2).f0).toList))=false:=by simpa using c34
          clear c34;obtain rfl:=si H;have hcz38:=cf8 BK50
          try go_wp2
          replace BK50:=am (blk_drew BK50.out);replace HB:=am (below_drew1 HB.out);have p29:0≤(x3_2:Int):=oa;have q29:x3_2<(l0_2.length:Int):=oa;obtain ⟨ad29,A29_3,c29_3,e29,hx29_0,hx29_1,hx29_2,hx29_3,hl29_3,hi29_3⟩:=at_T108 HR0_2.out x3_2 p29 q29;have hw29_3:=hx29_3;have hw29_2:=hx29_2;have hw29_1:=hx29_1;have hw29_0:=hx29_0
          cases e29
          replace hx29_0:=cb HB hx29_0;replace hx29_1:=cb HB hx29_1;replace hx29_2:=cb HB hx29_2;replace hx29_3:=cb HB hx29_3;have HR29_3:=am hi29_3;have HC29_3:=am hl29_3;clear hi29_3 hl29_3;replace p29:=eq_true p29;replace q29:=eq_true q29;have p48:0≤(x3_2:Int):=oa;have q48:x3_2<(l0_2.length:Int):=oa;obtain ⟨ad48,A48_3,c48_3,e48,hx48_0,hx48_1,hx48_2,hx48_3,hl48_3,hi48_3⟩:=at_T108 HR0_2.out x3_2 p48 q48;have hw48_3:=hx48_3;have hw48_2:=hx48_2;have hw48_1:=hx48_1;have hw48_0:=hx48_0;obtain rfl:ad29=ad48:=(by injection e48);replace hx48_0:=cb HB hx48_0;replace hx48_1:=cb HB hx48_1;replace hx48_2:=cb HB hx48_2;replace hx48_3:=cb HB hx48_3;(try (have ea_:=Option.some.inj ((cb HB hw29_3).symm.trans hx48_3);injection ea_ with ea_ en_ ec_;subst ea_;subst ec_;clear en_));have HR48_3:=am hi48_3;have HC48_3:=am hl48_3;clear hi48_3 hl48_3;replace p48:=eq_true p48;replace q48:=eq_true q48;have p49:0≤((ji31):Int):=oa;have q49:(ji31)<(l0_2.length:Int):=oa;obtain ⟨ad49,A49_3,c49_3,e49,hx49_0,hx49_1,hx49_2,hx49_3,hl49_3,hi49_3⟩:=at_T108 HR0_2.out (ji31) p49 q49;have hw49_3:=hx49_3;have hw49_2:=hx49_2;have hw49_1:=hx49_1;have hw49_0:=hx49_0;obtain rfl:ad29=ad49:=(by injection e49);replace hx49_0:=cb HB hx49_0;replace hx49_1:=cb HB hx49_1;replace hx49_2:=cb HB hx49_2;replace hx49_3:=cb HB hx49_3;(try (have ea_:=Option.some.inj ((cb HB hw29_3).symm.trans hx49_3);injection ea_ with ea_ en_ ec_;subst ea_;subst ec_;clear en_));have HR49_3:=am hi49_3;have HC49_3:=am hl49_3;clear hi49_3 hl49_3;replace p49:=eq_true p49;replace q49:=eq_true q49;refine sta 27 (hb8a BK50 (hca (cb HB hw29_0) (hca (cb HB hw29_1) (hca (cb HB hw29_2) (hca (cb HB hw29_3) (hca (cb HB hw48_0) (hca (cb HB hw48_1) (hca (cb HB hw48_2) (hca (cb HB hw48_3) (hca (cb HB hw49_0) (hca (cb HB hw49_1) (hca (cb HB hw49_2) (hc (cb HB hw49_3)))))))))))))) (fun hHeld=>?_);refine with_tabW spec_GateRight.tab6 spec_GateRight.bits6 (fun HT_ HW_=>?_)
          generalize wr.drew=w39 at BK50 HB HR29_3 HR48_3 HR49_3 hx29_0 hx29_1 hx29_2 hx29_3 hx48_0 hx48_1 hx48_2 hx48_3 hx49_0 hx49_1 hx49_2 hx49_3 hHeld ⊢
          refine pA 0 51 HT_ ?_;refine pA 2 53 HT_ ?_;refine tA 1 52 HT_ HW_ hHeld ?_;refine pA 3 54 HT_ ?_;refine tA 4 55 HT_ HW_ hHeld ?_;refine oA 5 56 HT_ (fun K hK=>?_);refine gA Tryz.func60 #[.agg #[.string ((rd_T108 l0_2 x3_2).f0),.int .i64 ((rd_T108 l0_2 x3_2).f1),.int .i64 ((rd_T108 l0_2 x3_2).f2),.slice A29_3 ((rd_T108 l0_2 x3_2).f3).length c29_3]] ?_;(with_reducible refine (spec_PartnerRight.calls k2 ((rd_T108 l0_2 x3_2).f0) ((rd_T108 l0_2 x3_2).f1) ((rd_T108 l0_2 x3_2).f2) _ _ ((rd_T108 l0_2 x3_2).f3) true _ ?side1 ?side2 A28.out).mono ?_)
          (case side1=>exact sd (Kd.C_below HR29_3.out HB.out))
          (case side2=>exact HC29_3.out)
          rintro e w40 ⟨rfl,hb⟩;refine ⟨_,rfl,?_⟩;replace BK50:=bb BK50 hb;replace HB:=bq HB hb;(try clear hb);(try clear hb2);(try clear hk);(try clear hi);refine hK.out _ _ (hb8a BK50 (hca (cb HB hw29_0) (hca (cb HB hw29_1) (hca (cb HB hw29_2) (hca (cb HB hw29_3) (hca (cb HB hw48_0) (hca (cb HB hw48_1) (hca (cb HB hw48_2) (hca (cb HB hw48_3) (hca (cb HB hw49_0) (hca (cb HB hw49_1) (hca (cb HB hw49_2) (hc (cb HB hw49_3)))))))))))))).out (fun hHeld=>?_);clear hK K;refine nA 56 ?_;refine pA 6 57 HT_ ?_;refine pA 7 58 HT_ ?_;refine pA 8 59 HT_ ?_;refine pA 9 60 HT_ ?_;refine pA 10 61 HT_ ?_;refine pA 11 62 HT_ ?_;refine pA 13 64 HT_ ?_;refine pA 17 68 HT_ ?_;refine pA 19 70 HT_ ?_;refine pA 20 71 HT_ ?_;refine tA 12 63 HT_ HW_ hHeld ?_;refine pA 14 65 HT_ ?_;refine pA 15 66 HT_ ?_;refine tA 16 67 HT_ HW_ hHeld ?_;refine tA 18 69 HT_ HW_ hHeld ?_;refine pA 21 72 HT_ ?_;refine pA 22 73 HT_ ?_;refine tA 23 74 HT_ HW_ hHeld ?_;refine pA 24 75 HT_ ?_;refine pA 25 76 HT_ ?_;refine pA 26 77 HT_ ?_;refine done_ (done_of HT_.out (by kernel_rfl)) ?_
          try go_wp2
          go_ret
          exact ⟨by first|rfl|(simp [errW_none,errW_some] <;> rfl)|(simp only [← hji31];first|rfl|(simp [errW_none,errW_some] <;> rfl))|(simp [*,errW_none,errW_some] <;> rfl),bs HB⟩
        ·intro c30 H;have c30b0:decide (0<x3_2)=false:=decide_eq_false c30;clear c30;have H':=am H;clear H;have hcz41:=cf8 BK50
         try go_wp2
         replace BK50:=am (blk_drew BK50.out);replace HB:=am (below_drew1 HB.out);have p29:0≤(x3_2:Int):=oa;have q29:x3_2<(l0_2.length:Int):=oa;obtain ⟨ad29,A29_3,c29_3,e29,hx29_0,hx29_1,hx29_2,hx29_3,hl29_3,hi29_3⟩:=at_T108 HR0_2.out x3_2 p29 q29;have hw29_3:=hx29_3;have hw29_2:=hx29_2;have hw29_1:=hx29_1;have hw29_0:=hx29_0
         cases e29
         replace hx29_0:=cb HB hx29_0;replace hx29_1:=cb HB hx29_1;replace hx29_2:=cb HB hx29_2;replace hx29_3:=cb HB hx29_3;have HR29_3:=am hi29_3;have HC29_3:=am hl29_3;clear hi29_3 hl29_3;replace p29:=eq_true p29;replace q29:=eq_true q29;refine sta 27 (hb8a BK50 (hca (cb HB hw29_0) (hca (cb HB hw29_1) (hca (cb HB hw29_2) (hc (cb HB hw29_3)))))) (fun hHeld=>?_);refine with_tabW spec_GateRight.tab6 spec_GateRight.bits6 (fun HT_ HW_=>?_)
         generalize wr.drew=w42 at BK50 HB HR29_3 hx29_0 hx29_1 hx29_2 hx29_3 hHeld ⊢
         refine pA 0 51 HT_ ?_;refine pA 2 53 HT_ ?_;refine tA 1 52 HT_ HW_ hHeld ?_;refine pA 3 54 HT_ ?_;refine tA 4 55 HT_ HW_ hHeld ?_;refine oA 5 56 HT_ (fun K hK=>?_);refine gA Tryz.func60 #[.agg #[.string ((rd_T108 l0_2 x3_2).f0),.int .i64 ((rd_T108 l0_2 x3_2).f1),.int .i64 ((rd_T108 l0_2 x3_2).f2),.slice A29_3 ((rd_T108 l0_2 x3_2).f3).length c29_3]] ?_;(with_reducible refine (spec_PartnerRight.calls k2 ((rd_T108 l0_2 x3_2).f0) ((rd_T108 l0_2 x3_2).f1) ((rd_T108 l0_2 x3_2).f2) _ _ ((rd_T108 l0_2 x3_2).f3) true _ ?side1 ?side2 A28.out).mono ?_)
         (case side1=>exact sd (Kd.C_below HR29_3.out HB.out))
         (case side2=>exact HC29_3.out)
         rintro e w43 ⟨rfl,hb⟩;refine ⟨_,rfl,?_⟩;replace BK50:=bb BK50 hb;replace HB:=bq HB hb;(try clear hb);(try clear hb2);(try clear hk);(try clear hi);refine hK.out _ _ (hb8a BK50 (hca (cb HB hw29_0) (hca (cb HB hw29_1) (hca (cb HB hw29_2) (hc (cb HB hw29_3)))))).out (fun hHeld=>?_);clear hK K;refine nA 56 ?_;refine pA 6 57 HT_ ?_;refine pA 7 58 HT_ ?_;refine pA 8 59 HT_ ?_;refine pA 9 60 HT_ ?_;refine pA 10 61 HT_ ?_;refine pB 11 62 HT_ ?_;refine pB 12 63 HT_ ?_;refine pB 13 64 HT_ ?_;refine pB 14 65 HT_ ?_;refine pB 15 66 HT_ ?_;refine pB 16 67 HT_ ?_;refine pB 17 68 HT_ ?_;refine pB 18 69 HT_ ?_;refine pB 19 70 HT_ ?_;refine pB 20 71 HT_ ?_;refine pB 21 72 HT_ ?_;refine pB 22 73 HT_ ?_;refine pB 23 74 HT_ ?_;refine pB 24 75 HT_ ?_;refine pA 25 76 HT_ ?_;refine pA 26 77 HT_ ?_;refine done_ (done_of HT_.out (by kernel_rfl)) ?_
         try go_wp2
         go_roundg k2
         case measure=>have:=HJ1.out;have:=HK2.out;omega
         case rel=>exact ⟨(wrap64 (x3_2+1)),fg,H',⟨by have:=HJ1.out;have:=HK2.out;omega⟩,⟨ks BK50⟩,⟨bs HB⟩⟩
       ·replace H:=itF H;obtain rfl:=si H;have hcz44:=cf8 BK50
        try go_wp2
        replace BK50:=am (blk_drew BK50.out);replace HB:=am (below_drew1 HB.out);have p29:0≤(x3_2:Int):=oa;have q29:x3_2<(l0_2.length:Int):=oa;obtain ⟨ad29,A29_3,c29_3,e29,hx29_0,hx29_1,hx29_2,hx29_3,hl29_3,hi29_3⟩:=at_T108 HR0_2.out x3_2 p29 q29;have hw29_3:=hx29_3;have hw29_2:=hx29_2;have hw29_1:=hx29_1;have hw29_0:=hx29_0
        cases e29
        replace hx29_0:=cb HB hx29_0;replace hx29_1:=cb HB hx29_1;replace hx29_2:=cb HB hx29_2;replace hx29_3:=cb HB hx29_3;have HR29_3:=am hi29_3;have HC29_3:=am hl29_3;clear hi29_3 hl29_3;replace p29:=eq_true p29;replace q29:=eq_true q29;refine sta 27 (hb8a BK50 (hca (cb HB hw29_0) (hca (cb HB hw29_1) (hca (cb HB hw29_2) (hc (cb HB hw29_3)))))) (fun hHeld=>?_);refine with_tabW spec_GateRight.tab6 spec_GateRight.bits6 (fun HT_ HW_=>?_)
        generalize wr.drew=w45 at BK50 HB HR29_3 hx29_0 hx29_1 hx29_2 hx29_3 hHeld ⊢
        refine pA 0 51 HT_ ?_;refine pA 2 53 HT_ ?_;refine tA 1 52 HT_ HW_ hHeld ?_;refine pA 3 54 HT_ ?_;refine tA 4 55 HT_ HW_ hHeld ?_;refine oA 5 56 HT_ (fun K hK=>?_);refine gA Tryz.func60 #[.agg #[.string ((rd_T108 l0_2 x3_2).f0),.int .i64 ((rd_T108 l0_2 x3_2).f1),.int .i64 ((rd_T108 l0_2 x3_2).f2),.slice A29_3 ((rd_T108 l0_2 x3_2).f3).length c29_3]] ?_;(with_reducible refine (spec_PartnerRight.calls k2 ((rd_T108 l0_2 x3_2).f0) ((rd_T108 l0_2 x3_2).f1) ((rd_T108 l0_2 x3_2).f2) _ _ ((rd_T108 l0_2 x3_2).f3) false _ ?side1 ?side2 A28.out).mono ?_)
        (case side1=>exact sd (Kd.C_below HR29_3.out HB.out))
        (case side2=>exact HC29_3.out)
        rintro e w46 ⟨rfl,hb⟩;refine ⟨_,rfl,?_⟩;replace BK50:=bb BK50 hb;replace HB:=bq HB hb;(try clear hb);(try clear hb2);(try clear hk);(try clear hi);refine hK.out _ _ (hb8a BK50 (hca (cb HB hw29_0) (hca (cb HB hw29_1) (hca (cb HB hw29_2) (hc (cb HB hw29_3)))))).out (fun hHeld=>?_);clear hK K;refine nA 56 ?_;refine pA 6 57 HT_ ?_;refine pA 7 58 HT_ ?_;refine pB 8 59 HT_ ?_;refine pB 9 60 HT_ ?_;refine pB 10 61 HT_ ?_;refine pB 11 62 HT_ ?_;refine pB 12 63 HT_ ?_;refine pB 13 64 HT_ ?_;refine pB 14 65 HT_ ?_;refine pB 15 66 HT_ ?_;refine pB 16 67 HT_ ?_;refine pB 17 68 HT_ ?_;refine pB 18 69 HT_ ?_;refine pB 19 70 HT_ ?_;refine pB 20 71 HT_ ?_;refine pB 21 72 HT_ ?_;refine pB 22 73 HT_ ?_;refine pB 23 74 HT_ ?_;refine pB 24 75 HT_ ?_;refine pB 25 76 HT_ ?_;refine pA 26 77 HT_ ?_;refine done_ (done_of HT_.out (by kernel_rfl)) ?_
        try go_wp2
        go_ret
        exact ⟨ff,bs HB⟩
      ·intro c26b0 H;obtain rfl:=si H;have hcz47:=cf8 BK50
       go_wp2
       go_ret
       exact ⟨ff,bs HB⟩
theorem spec_l01Dec.calls (k:Nat) (a0:Int) (r:ByteArray) (w:World) (H:spec_l01Dec.f k a0=some r) :
  Calls Tryz.prog 21 #[.int .i64 a0] w fun e w'=>e=.returned (.string r)∧Below w.heap.size w w':=by
 have HB:=am (Below.refl w.heap.size w);unfold spec_l01Dec.f at H
 revert H;refine ie2 ?_ ?_
 ·intro c2b0 c2b1 H;obtain rfl:=si H
  go_in
  go_wp2
  go_ret
  exact ⟨ff,bs HB⟩
 ·intro c2 c2b0 c2b1 H;have H':=am H;clear H
  go_in
  go_wp2
  go_loopg [0,4] k (fun kq v0 v4 w'=>∃ (x0_1:Int) (x4_1:ByteArray),v0=.int .i64 x0_1∧v4=.string x4_1∧Aside0 (spec_l01Dec.l0 kq x0_1 (decide (a0<0)) x4_1=some r)∧Aside0 (kq≤k)∧Aside0 (Below w.heap.size w w'))
  case atStart=>exact ⟨(a0),((⟨#[]⟩:ByteArray)),fg,fg,H',⟨Nat.le_refl _⟩,⟨bs HB⟩⟩
  case round =>
   clear H'
   try clear c2
   try clear c2b0
   try clear c2b1
   obtain ⟨x0_1,x4_1,rfl,rfl,HA,HK1,HB⟩:=hrel
   cases gk with
   | zero=>exact absurd HA.out (by simp [spec_l01Dec.l0])
   | succ k1 =>
    have H:=HA.out;clear HA;simp only [spec_l01Dec.l0] at H
    revert H;refine ie2 ?_ ?_
    ·intro c3b0 c3b1 H
     revert H;refine ip2 ?_ ?_
     ·intro c4 H;have c4b0:(decide (a0<0))=true:=c4
      (first|rw [c4b0]|skip)
      clear c4
      revert H;refine ip1 ?_
      intro c5 H;have c5b0:=eq_true c5;have c5b1:decide (1+x4_1.size≤9223372036854775807)=true:=decide_eq_true c5
      try have c5b2:(9223372036854775807<1+x4_1.size)=False:=eq_false (Nat.not_lt.2 c5)
      obtain rfl:=si H
      go_wp2
      go_ret
      exact ⟨ff,bs HB⟩
     ·intro c4 H
      have c4b0:(decide (a0<0))=false:=by simpa using c4
      (first|rw [c4b0]|skip)
      clear c4;obtain rfl:=si H
      go_wp2
      go_ret
      exact ⟨ff,bs HB⟩
    ·intro c3 c3b0 c3b1 H
     revert H;refine id2 ?_ ?_
     ·intro c6b0 H;obtain ⟨y15,hy15⟩:∃ y_:List Int,y_=(([(wrap64 (48+(wrap64 (-(Int.tmod x0_1 10))))) % 256]:List Int)):=⟨_,rfl⟩
      replace H:(if (strOfNums y15).size+x4_1.size≤9223372036854775807 then (spec_l01Dec.l0 k1 (wrap64 (Int.tdiv x0_1 10)) (decide (a0<0)) ((strOfNums y15)++x4_1)) else (none))=some r:=ye hy15 H
      have Ny15:=am hy15;clear hy15
      revert H;refine ip1 ?_
      intro c7 H;have c7b0:=eq_true c7;have c7b1:decide ((strOfNums y15).size+x4_1.size≤9223372036854775807)=true:=decide_eq_true c7
      try have c7b2:(9223372036854775807<(strOfNums y15).size+x4_1.size)=False:=eq_false (Nat.not_lt.2 c7)
      have H':=am H;clear H
      go_wp2_with (first|((with_reducible refine gate_dst (N:=21) rfl ?_);refine rl (Kd.int .u8) 5 (N:=21) (xs:=([(wrap64 (48+(wrap64 (-(Int.tmod x0_1 10))))) % 256]:List Int)) (inner:=[.int .u8 ((wrap64 (48+(wrap64 (-(Int.tmod x0_1 10))))) % 256)]) ?hp ?_;(case hp=>exact (Reps.one (show Kd.M (Kd.int .u8) _ _ _ ((wrap64 (48+(wrap64 (-(Int.tmod x0_1 10))))) % 256) [.int .u8 ((wrap64 (48+(wrap64 (-(Int.tmod x0_1 10))))) % 256)] from rfl) (Reps.none _ _)));intro v19 w8 ho9 hb hg_ hnew_;clear hg_ hnew_;(first|rw [← Ny15.out] at ho9|(simp only [Int.reduceToNat] at ho9;rw [← Ny15.out] at ho9));have HO17:=am (Kd.R_lower ho9 (below_size (bs HB)));replace HB:=bq HB hb;clear hb ho9;have hcv10:=own_string (P:=Tryz.prog) Tryz.underlying109 Tryz.underlying5 Tryz.underlying9 (Kd.own_of_R HO17.out)))
      go_roundg k1
      case measure=>have:=HK1.out;omega
      case rel=>exact ⟨(wrap64 (Int.tdiv x0_1 10)),((strOfNums y15)++x4_1),fg,fg,H',⟨by have:=HK1.out;omega⟩,⟨bs HB⟩⟩
     ·intro c6b0 H;obtain ⟨y16,hy16⟩:∃ y_:List Int,y_=(([(wrap64 (48+(Int.tmod x0_1 10))) % 256]:List Int)):=⟨_,rfl⟩
      replace H:(if (strOfNums y16).size+x4_1.size≤9223372036854775807 then (spec_l01Dec.l0 k1 (wrap64 (Int.tdiv x0_1 10)) (decide (a0<0)) ((strOfNums y16)++x4_1)) else (none))=some r:=ye hy16 H
      have Ny16:=am hy16;clear hy16
      revert H;refine ip2 ?_ ?_
      ·intro c11 H;have c11b0:=eq_true c11;have c11b1:decide ((strOfNums y16).size+x4_1.size≤9223372036854775807)=true:=decide_eq_true c11
       try have c11b2:(9223372036854775807<(strOfNums y16).size+x4_1.size)=False:=eq_false (Nat.not_lt.2 c11)
       have H':=am H;clear H
       go_wp2_with (first|((with_reducible refine gate_dst (N:=21) rfl ?_);refine rl (Kd.int .u8) 5 (N:=21) (xs:=([(wrap64 (48+(Int.tmod x0_1 10))) % 256]:List Int)) (inner:=[.int .u8 ((wrap64 (48+(Int.tmod x0_1 10))) % 256)]) ?hp ?_;(case hp=>exact (Reps.one (show Kd.M (Kd.int .u8) _ _ _ ((wrap64 (48+(Int.tmod x0_1 10))) % 256) [.int .u8 ((wrap64 (48+(Int.tmod x0_1 10))) % 256)] from rfl) (Reps.none _ _)));intro v20 w12 ho13 hb hg_ hnew_;clear hg_ hnew_;(first|rw [← Ny16.out] at ho13|(simp only [Int.reduceToNat] at ho13;rw [← Ny16.out] at ho13));have HO18:=am (Kd.R_lower ho13 (below_size (bs HB)));replace HB:=bq HB hb;clear hb ho13;have hcv14:=own_string (P:=Tryz.prog) Tryz.underlying109 Tryz.underlying5 Tryz.underlying9 (Kd.own_of_R HO18.out)))
       go_roundg k1
       case measure=>have:=HK1.out;omega
       case rel=>exact ⟨(wrap64 (Int.tdiv x0_1 10)),((strOfNums y16)++x4_1),fg,fg,H',⟨by have:=HK1.out;omega⟩,⟨bs HB⟩⟩
      ·intro c11 H
       exact absurd H (by simp)
def spec_GateAnswer.T3:Bool × List (List Nat × List Nat):=(true,[([],[]),([0],[0]),([1],[1]),([],[]),([3],[3]),([],[]),([],[]),([],[]),([5,6,7],[5,6,7]),([8],[8]),([2,4,9],[2,4,9]),([10,1,0,1,2,3,4,5,6,7,8,9,10],[10])])
def spec_GateAnswer.B3:List Nat:=[0,1,3,0,8,0,0,0,224,480,1023,2047]
theorem spec_GateAnswer.tab3:rtab .any (opsOf Tryz.f5 3)=spec_GateAnswer.T3:=by kernel_rfl
theorem spec_GateAnswer.bits3:waitsOk spec_GateAnswer.T3.2 spec_GateAnswer.B3=true:=by kernel_rfl
theorem spec_GateAnswer.calls (k:Nat) (a0_0:ByteArray) (a0_1:Int) (A0_2:Option Addr) (c0_2:Nat) (l0_2:List (S108)) (A0_3:Option Addr) (c0_3:Nat) (l0_3:List (S111)) (A0_4:Option Addr) (c0_4:Nat) (l0_4:List (S141)) (A0_5:Option Addr) (c0_5:Nat) (l0_5:List (S147)) (A0_6:Option Addr) (c0_6:Nat) (l0_6:List (S115)) (A0_7:Option Addr) (c0_7:Nat) (l0_7:List (S117)) (a1:ByteArray) (a2:Int) (a3:Int) (a4:Int) (r1:Int) (r2:ByteArray) (r3:ByteArray) (r4:Int) (r5:List ByteArray) (r6:List (S64)) (w:World) (hr0_2:Kd.C k108 w A0_2 l0_2.length l0_2) (hc0_2:l0_2.length≤c0_2) (hr0_3:Kd.C k111 w A0_3 l0_3.length l0_3) (hc0_3:l0_3.length≤c0_3) (hr0_4:Kd.C k141 w A0_4 l0_4.length l0_4) (hc0_4:l0_4.length≤c0_4) (hr0_5:Kd.C k147 w A0_5 l0_5.length l0_5) (hc0_5:l0_5.length≤c0_5) (hr0_6:Kd.C k115 w A0_6 l0_6.length l0_6) (hc0_6:l0_6.length≤c0_6) (hr0_7:Kd.C k117 w A0_7 l0_7.length l0_7) (hc0_7:l0_7.length≤c0_7) (H:spec_GateAnswer.f k a0_0 a0_1 l0_2 l0_3 l0_4 l0_5 l0_6 l0_7 a1 a2 a3 a4=some (r1,r2,r3,r4,r5,r6)) :
  Calls Tryz.prog 5 #[.agg #[.string a0_0,.int .i64 a0_1,.slice A0_2 l0_2.length c0_2,.slice A0_3 l0_3.length c0_3,.slice A0_4 l0_4.length c0_4,.slice A0_5 l0_5.length c0_5,.slice A0_6 l0_6.length c0_6,.slice A0_7 l0_7.length c0_7],.string a1,.int .i64 a2,.int .i64 a3,.int .i64 a4] w fun e w'=>∃ v4_ v5_:Value,e=.returned (.agg #[.int .i64 r1,.string r2,.string r3,.int .i64 r4,v4_,v5_])∧Kd.R Kd.string 9 w' w.heap.size (fun _=>True) v4_ r5∧Kd.R k64 64 w' w.heap.size (fun _=>True) v5_ r6∧Below w.heap.size w w':=by
 have hu47:=Tryz.underlying47;have hu36:=Tryz.underlying36;have hu64:=Tryz.underlying64;have HR0_2:=am hr0_2;have HC0_2:=am hc0_2;clear hr0_2 hc0_2;have HR0_3:=am hr0_3;have HC0_3:=am hc0_3;clear hr0_3 hc0_3;have HR0_4:=am hr0_4;have HC0_4:=am hc0_4;clear hr0_4 hc0_4;have HR0_5:=am hr0_5;have HC0_5:=am hc0_5;clear hr0_5 hc0_5;have HR0_6:=am hr0_6;have HC0_6:=am hc0_6;clear hr0_6 hc0_6;have HR0_7:=am hr0_7;have HC0_7:=am hc0_7;clear hr0_7 hc0_7;have HB:=am (Below.refl w.heap.size w);unfold spec_GateAnswer.f at H
 revert H;refine ip2 ?_ ?_
 ·intro c6 H;have c6b0:decide (20000<(a1.size:Int))=true:=decide_eq_true c6;have c6b1:decide (20000<a1.size)=true:=decide_eq_true (by omega);clear c6;replace H:=sj6 H;obtain ⟨rfl,rfl,rfl,rfl,rfl,rfl⟩:=H
  go_in
  go_wp2_with (first|((with_reducible refine gate_dst (N:=5) rfl ?_);refine bz 5 (cs:=#[.string a0_0,.int .i64 a0_1,.slice A0_2 l0_2.length c0_2,.slice A0_3 l0_3.length c0_3,.slice A0_4 l0_4.length c0_4,.slice A0_5 l0_5.length c0_5,.slice A0_6 l0_6.length c0_6,.slice A0_7 l0_7.length c0_7]) (t:=47) HB ?_;clear HB;intro gb39 hg w7 BK39 GW39 hb HB;clear hb hg)|((with_reducible refine gate_dst (N:=10) rfl ?_);refine bz 10 (cs:=#[.int .i64 0,.string (⟨#[]⟩:ByteArray),.string (⟨#[]⟩:ByteArray),.int .i64 0,.slice none 0 0,.slice none 0 0]) (t:=36) HB ?_;clear HB;intro gb17 hg w8 BK17 GW17 hb HB;have NB39_17:=na hg BK39;have NB17_39:=nc hg BK39;replace BK39:=bb BK39 hb;clear hb hg;have hnb9:=NB17_39.out;have hnc9:=NB39_17.out;have hcz10:=cf6 BK17))
  refine bodyPost_ret (results_cell_row rfl _ _ gb17 36 #[.int .i64 0,.string (⟨#[]⟩:ByteArray),.string (⟨#[]⟩:ByteArray),.int .i64 0,.slice none 0 0,.slice none 0 0] (0,0) _ rfl (kp BK17) Tryz.underlying36 rfl (by kernel_rfl)) rfl ?_
  exact ⟨_,_,ff,by first|exact Kd.R_nil _ _ _ _ _|exact Kd.N_nil _ _ _ _ _|exact Kd.V_nil _ _ _ _ _|exact Kd.Q_nil _ _ _ _ _|exact Kd.S_nil _ _ _ _ _,by first|exact Kd.R_nil _ _ _ _ _|exact Kd.N_nil _ _ _ _ _|exact Kd.V_nil _ _ _ _ _|exact Kd.Q_nil _ _ _ _ _|exact Kd.S_nil _ _ _ _ _,bs HB⟩
 ·intro c6 H;have c6b0:decide (20000<(a1.size:Int))=false:=decide_eq_false c6;have c6b1:decide (20000<a1.size)=false:=decide_eq_false (by omega);clear c6;replace H:=bo H;obtain ⟨t59,A11,H⟩:=H
  go_in
  try go_wp2_with (first|((with_reducible refine gate_dst (N:=5) rfl ?_);refine bz 5 (cs:=#[.string a0_0,.int .i64 a0_1,.slice A0_2 l0_2.length c0_2,.slice A0_3 l0_3.length c0_3,.slice A0_4 l0_4.length c0_4,.slice A0_5 l0_5.length c0_5,.slice A0_6 l0_6.length c0_6,.slice A0_7 l0_7.length c0_7]) (t:=47) HB ?_;clear HB;intro gb39 hg w12 BK39 GW39 hb HB;clear hb hg)|((with_reducible refine gate_dst (N:=10) rfl ?_);refine bz 10 (cs:=#[.int .i64 0,.string (⟨#[]⟩:ByteArray),.string (⟨#[]⟩:ByteArray),.int .i64 0,.slice none 0 0,.slice none 0 0]) (t:=36) HB ?_;clear HB;intro gb17 hg w13 BK17 GW17 hb HB;have NB39_17:=na hg BK39;have NB17_39:=nc hg BK39;replace BK39:=bb BK39 hb;clear hb hg;have hnb14:=NB39_17.out;have hnc14:=NB17_39.out;have hcz15:=cf8 BK39))
  go_at_call 18;(with_reducible refine (spec_GateRight.calls k a0_0 a0_1 _ _ l0_2 _ _ l0_3 _ _ l0_4 _ _ l0_5 _ _ l0_6 _ _ l0_7 t59 _ (Kd.C_below HR0_2.out (bs HB)) HC0_2.out (Kd.C_below HR0_3.out (bs HB)) HC0_3.out (Kd.C_below HR0_4.out (bs HB)) HC0_4.out (Kd.C_below HR0_5.out (bs HB)) HC0_5.out (Kd.C_below HR0_6.out (bs HB)) HC0_6.out (Kd.C_below HR0_7.out (bs HB)) HC0_7.out A11.out).mono ?_);rintro e w16 ⟨rfl,hb⟩;replace BK39:=bb BK39 hb;replace BK17:=bb BK17 hb;replace HB:=bq HB hb;(try clear hb);(try clear hb2);(try clear hk);(try clear hi)
  obtain rfl|rfl:=bt t59
  ·replace H:=itT H;replace H:=bo H;obtain ⟨t60,A18,H⟩:=H
   try go_wp2_with (fail)
   go_at_call 19;(with_reducible refine (spec_l01Name.calls k a1 t60 _ A18.out).mono ?_);rintro e w' ⟨rfl,⟨nd,rfl⟩⟩
   obtain rfl|rfl:=bt t60
   ·replace H:=itT H;replace H:=bo H;obtain ⟨t61,A20,H⟩:=H
    try go_wp2_with (fail)
    go_at_call 20;(with_reducible refine (spec_l01Control.calls a2 t61 _ A20.out).mono ?_);rintro e w' ⟨rfl,⟨nd,rfl⟩⟩
    obtain rfl|rfl:=bt t61
    ·replace H:=itT H
     revert H;refine id2 ?_ ?_
     ·intro c22b0 H;replace H:=sj6 H;obtain ⟨rfl,rfl,rfl,rfl,rfl,rfl⟩:=H;have hnb23:=NB17_39.out;have hnc23:=NB39_17.out;have hcz24:=cf6 BK17
      go_wp2
      refine bodyPost_ret (results_cell_row rfl _ _ gb17 36 #[.int .i64 0,.string (⟨#[]⟩:ByteArray),.string (⟨#[]⟩:ByteArray),.int .i64 0,.slice none 0 0,.slice none 0 0] (0,0) _ rfl (kp BK17) Tryz.underlying36 rfl (by kernel_rfl)) rfl ?_
      exact ⟨_,_,ff,by first|exact Kd.R_nil _ _ _ _ _|exact Kd.N_nil _ _ _ _ _|exact Kd.V_nil _ _ _ _ _|exact Kd.Q_nil _ _ _ _ _|exact Kd.S_nil _ _ _ _ _,by first|exact Kd.R_nil _ _ _ _ _|exact Kd.N_nil _ _ _ _ _|exact Kd.V_nil _ _ _ _ _|exact Kd.Q_nil _ _ _ _ _|exact Kd.S_nil _ _ _ _ _,bs HB⟩
     ·intro c22b0 H
      revert H;refine ip2 ?_ ?_
      ·intro c25 H;have c25b0:decide (13<a3)=true:=decide_eq_true c25;clear c25;replace H:=sj6 H;obtain ⟨rfl,rfl,rfl,rfl,rfl,rfl⟩:=H;have hnb26:=NB17_39.out;have hnc26:=NB39_17.out;have hcz27:=cf6 BK17
       go_wp2
       refine bodyPost_ret (results_cell_row rfl _ _ gb17 36 #[.int .i64 0,.string (⟨#[]⟩:ByteArray),.string (⟨#[]⟩:ByteArray),.int .i64 0,.slice none 0 0,.slice none 0 0] (0,0) _ rfl (kp BK17) Tryz.underlying36 rfl (by kernel_rfl)) rfl ?_
       exact ⟨_,_,ff,by first|exact Kd.R_nil _ _ _ _ _|exact Kd.N_nil _ _ _ _ _|exact Kd.V_nil _ _ _ _ _|exact Kd.Q_nil _ _ _ _ _|exact Kd.S_nil _ _ _ _ _,by first|exact Kd.R_nil _ _ _ _ _|exact Kd.N_nil _ _ _ _ _|exact Kd.V_nil _ _ _ _ _|exact Kd.Q_nil _ _ _ _ _|exact Kd.S_nil _ _ _ _ _,bs HB⟩
      ·intro c25 H;have c25b0:decide (13<a3)=false:=decide_eq_false c25;clear c25
       revert H;refine id2 ?_ ?_
       ·intro c28b0 H;replace H:=sj6 H;obtain ⟨rfl,rfl,rfl,rfl,rfl,rfl⟩:=H;have hnb29:=NB17_39.out;have hnc29:=NB39_17.out;have hcz30:=cf6 BK17
        go_wp2
        refine bodyPost_ret (results_cell_row rfl _ _ gb17 36 #[.int .i64 0,.string (⟨#[]⟩:ByteArray),.string (⟨#[]⟩:ByteArray),.int .i64 0,.slice none 0 0,.slice none 0 0] (0,0) _ rfl (kp BK17) Tryz.underlying36 rfl (by kernel_rfl)) rfl ?_
        exact ⟨_,_,ff,by first|exact Kd.R_nil _ _ _ _ _|exact Kd.N_nil _ _ _ _ _|exact Kd.V_nil _ _ _ _ _|exact Kd.Q_nil _ _ _ _ _|exact Kd.S_nil _ _ _ _ _,by first|exact Kd.R_nil _ _ _ _ _|exact Kd.N_nil _ _ _ _ _|exact Kd.V_nil _ _ _ _ _|exact Kd.Q_nil _ _ _ _ _|exact Kd.S_nil _ _ _ _ _,bs HB⟩
       ·intro c28b0 H
        revert H;refine ip2 ?_ ?_
        ·intro c31 H;have c31b0:decide (1000000000<a4)=true:=decide_eq_true c31;clear c31;replace H:=sj6 H;obtain ⟨rfl,rfl,rfl,rfl,rfl,rfl⟩:=H;have hnb32:=NB17_39.out;have hnc32:=NB39_17.out;have hcz33:=cf6 BK17
         go_wp2
         refine bodyPost_ret (results_cell_row rfl _ _ gb17 36 #[.int .i64 0,.string (⟨#[]⟩:ByteArray),.string (⟨#[]⟩:ByteArray),.int .i64 0,.slice none 0 0,.slice none 0 0] (0,0) _ rfl (kp BK17) Tryz.underlying36 rfl (by kernel_rfl)) rfl ?_
         exact ⟨_,_,ff,by first|exact Kd.R_nil _ _ _ _ _|exact Kd.N_nil _ _ _ _ _|exact Kd.V_nil _ _ _ _ _|exact Kd.Q_nil _ _ _ _ _|exact Kd.S_nil _ _ _ _ _,by first|exact Kd.R_nil _ _ _ _ _|exact Kd.N_nil _ _ _ _ _|exact Kd.V_nil _ _ _ _ _|exact Kd.Q_nil _ _ _ _ _|exact Kd.S_nil _ _ _ _ _,bs HB⟩
        ·intro c31 H;have c31b0:decide (1000000000<a4)=false:=decide_eq_false c31;clear c31;replace H:=bo H;obtain ⟨t41,A34,H⟩:=H
         revert H;refine ip1 ?_
         intro c35 H;have c35b0:=eq_true c35;have c35b1:decide (1+t41.size≤9223372036854775807)=true:=decide_eq_true c35
         try have c35b2:(9223372036854775807<1+t41.size)=False:=eq_false (Nat.not_lt.2 c35)
         obtain ⟨y57,hy57⟩:∃ y_:List (S64),y_=(([(⟨a3,(⟨#[]⟩:ByteArray),a2,a4,(⟨#[]⟩:ByteArray)⟩:S64)]:List (S64))):=⟨_,rfl⟩
         replace H:(some (7,(⟨#[65]⟩:ByteArray)++t41,(⟨#[]⟩:ByteArray),a0_1,([]:List ByteArray),y57))=some (r1,r2,r3,r4,r5,r6):=ye hy57 H
         have Ny57:=am hy57;clear hy57;replace H:=sj6 H;obtain ⟨rfl,rfl,rfl,rfl,rfl,rfl⟩:=H
         try go_wp2
         (try (rw [drewN_self w16];generalize hq_:World.drewN w16 _=w16;have n0_:Aside0 (w16.heap[gb39]? = some (.cells #[.string a0_0,.int .i64 a0_1,.slice A0_2 l0_2.length c0_2,.slice A0_3 l0_3.length c0_3,.slice A0_4 l0_4.length c0_4,.slice A0_5 l0_5.length c0_5,.slice A0_6 l0_6.length c0_6,.slice A0_7 l0_7.length c0_7] 47 (0,0))):=⟨by rw [← hq_];exact (ks BK39)⟩;have n1_:Aside0 (w16.heap[gb17]? = some (.cells #[.int .i64 0,.string (⟨#[]⟩:ByteArray),.string (⟨#[]⟩:ByteArray),.int .i64 0,.slice none 0 0,.slice none 0 0] 36 (0,0))):=⟨by rw [← hq_];exact (ks BK17)⟩;have n2_:Aside0 (Below w.heap.size w w16):=⟨by rw [← hq_];exact (bs HB)⟩;clear BK39 BK17 HB hq_;have BK39:=n0_;have BK17:=n1_;have HB:=n2_;clear n0_ n1_ n2_))
         replace BK39:=am (blk_drew BK39.out);replace BK17:=am (blk_drew BK17.out);replace HB:=am (below_drew1 HB.out);refine start_ (n:=12) (S:=fun w'=>True) (ds:=[]) _ (by kernel_rfl) rfl rfl trivial (fun hHeld=>?_);refine with_tabW spec_GateAnswer.tab3 spec_GateAnswer.bits3 (fun HT_ HW_=>?_)
         generalize w16.drew=w36 at BK39 BK17 HB hHeld ⊢
         refine pA 0 46 HT_ ?_;refine pA 3 49 HT_ ?_;refine pA 5 51 HT_ ?_;refine pA 6 52 HT_ ?_;refine pA 7 53 HT_ ?_;refine inv_at [1,2,4,8,9,10,11] (fun a0_ b a w'=>∃ (v40:Value) (m10_:Value),a=putSel a0_ b [(1,47,.string t41),(2,48,.string ((⟨#[65]⟩:ByteArray)++t41)),(4,50,.int .i64 a0_1),(8,54,.agg #[.int .i64 a3,.string (⟨#[]⟩:ByteArray),.int .i64 a2,.int .i64 a4,.string (⟨#[]⟩:ByteArray)]),(9,55,v40),(10,56,m10_)]∧(w'.heap[gb39]? = some (.cells #[.string a0_0,.int .i64 a0_1,.slice A0_2 l0_2.length c0_2,.slice A0_3 l0_3.length c0_3,.slice A0_4 l0_4.length c0_4,.slice A0_5 l0_5.length c0_5,.slice A0_6 l0_6.length c0_6,.slice A0_7 l0_7.length c0_7] 47 (0,0)))∧(b 11=false→w'.heap[gb17]? = some (.cells #[.int .i64 0,.string (⟨#[]⟩:ByteArray),.string (⟨#[]⟩:ByteArray),.int .i64 0,.slice none 0 0,.slice none 0 0] 36 (0,0)))∧(Below w.heap.size w w')∧(b 9=true→Kd.R k64 64 w' w.heap.size (fun _=>True) v40 y57)∧(b 11=true→w'.heap[gb17]? = some (.cells #[.int .i64 7,.string ((⟨#[65]⟩:ByteArray)++t41),.string (⟨#[]⟩:ByteArray),.int .i64 a0_1,.slice none 0 0,v40] 36 (0,0)))∧(b 10=true→(m10_:Value)=.agg #[.int .i64 7,.string ((⟨#[65]⟩:ByteArray)++t41),.string (⟨#[]⟩:ByteArray),.int .i64 a0_1,.slice none 0 0,v40])) HT_.out HW_.out (by kernel_rfl) (by kernel_rfl) ?_ ?_ ?_
         ·exact ⟨.bool false,.bool false,by simp only [putSel,Bool.false_eq_true,if_false],BK39.out,fun _=>BK17.out,HB.out,fun h_=>absurd h_ (by decide),fun h_=>absurd h_ (by decide),fun h_=>absurd h_ (by decide)⟩
         ·skip
          clear BK39 BK17 HB;refine steps_cons ?_ ?_
          ·rintro b a w' ⟨v40,m10_,ha,Q_BK316,Q_BK317,Q_HB,Q_HO324,Q_BK317_e11,Q_X10_⟩ hb_ hon hoff;refine ⟨_,rfl,fun K hK=>?_⟩
           have e46:a.tmps[46]? = some (.int .i64 a2):=by rw [ha];exact (putSel_off rfl).trans rfl
           replace ha:=am ha;have BK39:=am Q_BK316;have BK17:=am (Q_BK317 (hoff 11 (by kernel_rfl)));have HB:=am Q_HB;refine goes_ Tryz.func21 (by kernel_rfl) rfl #[.int .i64 a2] (by rfl) rfl rfl (by first|(simp only [List.map_toArray,List.map_cons,List.map_nil,Act.eval,Array.getD_eq_getD_getElem?,Option.getD_some,e46];done)|(simp only [List.map_toArray,List.map_cons,List.map_nil,Act.eval,Array.getD_eq_getD_getElem?,Option.getD_some,e46];rfl)) ?_;(with_reducible refine (spec_l01Dec.calls k a2 t41 _ A34.out).mono ?_);rintro e w37 ⟨rfl,hb⟩;refine ⟨_,rfl,?_⟩;have n0_:=am (blk_below (ks BK39) hb);have n1_:=am (blk_below (ks BK17) hb);have n2_:=am (below_step (bs HB) hb)
           have z_HO324:=fun (h0_:b 9=true)=>(show Kd.R k64 64 w37 w.heap.size (fun _=>True) v40 y57 from by first|exact (Kd.R_below (by (with_reducible repeat (first|apply Kd.R_alloc|apply Kd.R_drewN|apply Kd.R_drew));exact (Q_HO324 h0_)) hb)|exact Kd.R_mono (Kd.R_below (by (with_reducible repeat (first|apply Kd.R_alloc|apply Kd.R_drewN|apply Kd.R_drew));exact (Q_HO324 h0_)) hb) (fun _ h_=>by first|trivial|exact h_|exact h_.1))
           clear BK39;clear BK17;clear HB;have BK39:=n0_;have BK17:=n1_;have HB:=n2_;clear n0_ n1_ n2_;(try clear hb);(try clear hb2);(try clear hk);(try clear hi);refine hK.out _ _ ⟨v40,m10_,(by rw [ha.out];exact putSel_upk 0 hb_ rfl rfl rfl),(ks BK39),fun _=>(ks BK17),(bs HB),z_HO324,fun h0_=>absurd ((hoff 11 (by kernel_rfl)).symm.trans h0_) (by decide),fun h0_=>absurd ((hoff 10 (by kernel_rfl)).symm.trans h0_) (by decide)⟩
          refine steps_cons ?_ ?_
          ·rintro b a w' ⟨v40,m10_,ha,Q_BK316,Q_BK317,Q_HB,Q_HO324,Q_BK317_e11,Q_X10_⟩ hb_ hon hoff;refine ⟨_,rfl,fun K hK=>?_⟩
           have e47:a.tmps[47]? = some (.string t41):=by rw [ha];exact putSel_on (e:=(1,47,.string t41)) 0 rfl rfl (hon 1 (by kernel_rfl)) rfl
           replace ha:=am ha;have BK39:=am Q_BK316;have BK17:=am (Q_BK317 (hoff 11 (by kernel_rfl)));have HB:=am Q_HB;refine value_ (w1:=w') (v:=.string ((⟨#[65]⟩:ByteArray)++t41)) (by rfl) rfl ?_ ?_
           ·go_simp
            (try simp only [i64_w])
            try rfl
           refine hK.out _ _ ⟨v40,m10_,(by rw [ha.out];exact putSel_upk 1 hb_ rfl rfl rfl),Q_BK316,Q_BK317,Q_HB,Q_HO324,fun h0_=>absurd ((hoff 11 (by kernel_rfl)).symm.trans h0_) (by decide),fun h0_=>absurd ((hoff 10 (by kernel_rfl)).symm.trans h0_) (by decide)⟩
          refine steps_cons ?_ ?_
          ·rintro b a w' ⟨v40,m10_,ha,Q_BK316,Q_BK317,Q_HB,Q_HO324,Q_BK317_e11,Q_X10_⟩ hb_ hon hoff;refine ⟨_,rfl,fun K hK=>?_⟩
           have e49:a.tmps[49]? = some (.pointer (some ⟨gb39,1,none⟩)):=by rw [ha];exact (putSel_off rfl).trans rfl
           replace ha:=am ha;have BK39:=am Q_BK316;have BK17:=am (Q_BK317 (hoff 11 (by kernel_rfl)));have HB:=am Q_HB;have hc0_:w'.cell? ⟨gb39,0,none⟩=some (.string a0_0):=(blk_cell BK39.out 0).trans rfl;have hc1_:w'.cell? ⟨gb39,1,none⟩=some (.int .i64 a0_1):=(blk_cell BK39.out 1).trans rfl;have hc2_:w'.cell? ⟨gb39,2,none⟩=some (.slice A0_2 l0_2.length c0_2):=(blk_cell BK39.out 2).trans rfl;have hc3_:w'.cell? ⟨gb39,3,none⟩=some (.slice A0_3 l0_3.length c0_3):=(blk_cell BK39.out 3).trans rfl;have hc4_:w'.cell? ⟨gb39,4,none⟩=some (.slice A0_4 l0_4.length c0_4):=(blk_cell BK39.out 4).trans rfl;have hc5_:w'.cell? ⟨gb39,5,none⟩=some (.slice A0_5 l0_5.length c0_5):=(blk_cell BK39.out 5).trans rfl;have hc6_:w'.cell? ⟨gb39,6,none⟩=some (.slice A0_6 l0_6.length c0_6):=(blk_cell BK39.out 6).trans rfl;have hc7_:w'.cell? ⟨gb39,7,none⟩=some (.slice A0_7 l0_7.length c0_7):=(blk_cell BK39.out 7).trans rfl;refine value_ (w1:=w') (v:=.int .i64 a0_1) (by rfl) rfl ?_ ?_
           ·go_simp
            (try simp only [i64_w])
            try rfl
           refine hK.out _ _ ⟨v40,m10_,(by rw [ha.out];exact putSel_upk 2 hb_ rfl rfl rfl),Q_BK316,Q_BK317,Q_HB,Q_HO324,fun h0_=>absurd ((hoff 11 (by kernel_rfl)).symm.trans h0_) (by decide),fun h0_=>absurd ((hoff 10 (by kernel_rfl)).symm.trans h0_) (by decide)⟩
          refine steps_cons ?_ ?_
          ·rintro b a w' ⟨v40,m10_,ha,Q_BK316,Q_BK317,Q_HB,Q_HO324,Q_BK317_e11,Q_X10_⟩ hb_ hon hoff;refine ⟨_,rfl,fun K hK=>?_⟩
           have e51:a.tmps[51]? = some (.int .i64 a3):=by rw [ha];exact (putSel_off rfl).trans rfl
           have e52:a.tmps[52]? = some (.int .i64 a2):=by rw [ha];exact (putSel_off rfl).trans rfl
           have e53:a.tmps[53]? = some (.int .i64 a4):=by rw [ha];exact (putSel_off rfl).trans rfl
           replace ha:=am ha;have BK39:=am Q_BK316;have BK17:=am (Q_BK317 (hoff 11 (by kernel_rfl)));have HB:=am Q_HB;refine value_ (w1:=w') (v:=.agg #[.int .i64 a3,.string (⟨#[]⟩:ByteArray),.int .i64 a2,.int .i64 a4,.string (⟨#[]⟩:ByteArray)]) (by rfl) rfl ?_ ?_
           ·go_simp
            (try simp only [i64_w])
            try rfl
           refine hK.out _ _ ⟨v40,m10_,(by rw [ha.out];exact putSel_upk 3 hb_ rfl rfl rfl),Q_BK316,Q_BK317,Q_HB,fun h0_=>absurd ((hoff 9 (by kernel_rfl)).symm.trans h0_) (by decide),fun h0_=>absurd ((hoff 11 (by kernel_rfl)).symm.trans h0_) (by decide),fun h0_=>absurd ((hoff 10 (by kernel_rfl)).symm.trans h0_) (by decide)⟩
          refine steps_cons ?_ ?_
          ·rintro b a w' ⟨v40,m10_,ha,Q_BK316,Q_BK317,Q_HB,Q_HO324,Q_BK317_e11,Q_X10_⟩ hb_ hon hoff;refine ⟨_,rfl,fun K hK=>?_⟩
           have e54:a.tmps[54]? = some (.agg #[.int .i64 a3,.string (⟨#[]⟩:ByteArray),.int .i64 a2,.int .i64 a4,.string (⟨#[]⟩:ByteArray)]):=by rw [ha];exact putSel_on (e:=(8,54,.agg #[.int .i64 a3,.string (⟨#[]⟩:ByteArray),.int .i64 a2,.int .i64 a4,.string (⟨#[]⟩:ByteArray)])) 3 rfl rfl (hon 8 (by kernel_rfl)) rfl
           replace ha:=am ha;have BK39:=am Q_BK316;have BK17:=am (Q_BK317 (hoff 11 (by kernel_rfl)));have HB:=am Q_HB;refine Kd.R_lit_step k64 _ 64 ?hg (N:=55) ?hd (xs:=([(⟨a3,(⟨#[]⟩:ByteArray),a2,a4,(⟨#[]⟩:ByteArray)⟩:S64)]:List (S64))) (inner:=[.int .i64 a3,.string (⟨#[]⟩:ByteArray),.int .i64 a2,.int .i64 a4,.string (⟨#[]⟩:ByteArray)]) (ok:=fun _=>True) (okp:=fun _=>True) ?hr ?hp (fun _ hk=>hk) trivial (Below.refl _ _) (Nat.le_refl _) (by simp) ?_;(case hd=>rfl);(case hg=>rfl);(case hr=>first|(go_simp;done)|(go_simp;rfl));(case hp=>exact (Reps.c5 (show Kd.M k64 _ _ _ (⟨a3,(⟨#[]⟩:ByteArray),a2,a4,(⟨#[]⟩:ByteArray)⟩:S64) [.int .i64 a3,.string (⟨#[]⟩:ByteArray),.int .i64 a2,.int .i64 a4,.string (⟨#[]⟩:ByteArray)] from (k64_mkM _ _ _ (⟨a3,(⟨#[]⟩:ByteArray),a2,a4,(⟨#[]⟩:ByteArray)⟩:S64) )) (Reps.none _ _)));intro v40 w37 ho38 hb hg_ hnew_;clear hg_ hnew_
           (first|rw [← Ny57.out] at ho38|(simp only [Int.reduceToNat] at ho38;rw [← Ny57.out] at ho38))
           have HO58:=am (Kd.R_lower ho38 (below_size (bs HB)));replace BK39:=bb BK39 hb;replace BK17:=bb BK17 hb;replace HB:=bq HB hb;clear hb ho38;refine hK.out _ _ ⟨v40,m10_,(by rw [ha.out];exact putSel_upk 4 hb_ rfl rfl rfl),(ks BK39),fun _=>(ks BK17),(bs HB),fun _=>(rs HO58),fun h0_=>absurd ((hoff 11 (by kernel_rfl)).symm.trans h0_) (by decide),fun h0_=>absurd ((hoff 10 (by kernel_rfl)).symm.trans h0_) (by decide)⟩
          refine steps_cons ?_ ?_
          ·rintro b a w' ⟨v40,m10_,ha,Q_BK316,Q_BK317,Q_HB,Q_HO324,Q_BK317_e11,Q_X10_⟩ hb_ hon hoff;refine ⟨_,rfl,fun K hK=>?_⟩
           have e48:a.tmps[48]? = some (.string ((⟨#[65]⟩:ByteArray)++t41)):=by rw [ha];exact putSel_on (e:=(2,48,.string ((⟨#[65]⟩:ByteArray)++t41))) 1 rfl rfl (hon 2 (by kernel_rfl)) rfl
           have e50:a.tmps[50]? = some (.int .i64 a0_1):=by rw [ha];exact putSel_on (e:=(4,50,.int .i64 a0_1)) 2 rfl rfl (hon 4 (by kernel_rfl)) rfl
           have e55:a.tmps[55]? = some (v40):=by rw [ha];exact putSel_on (e:=(9,55,v40)) 4 rfl rfl (hon 9 (by kernel_rfl)) rfl
           replace ha:=am ha;have BK39:=am Q_BK316;have BK17:=am (Q_BK317 (hoff 11 (by kernel_rfl)));have HB:=am Q_HB;have HO58:=am (Q_HO324 (hon 9 (by kernel_rfl)));obtain ⟨Ao10_0,co10_0,eo_⟩:=Kd.R_slice HO58.out;subst eo_;refine value_ (w1:=w') (v:=.agg #[.int .i64 7,.string ((⟨#[65]⟩:ByteArray)++t41),.string (⟨#[]⟩:ByteArray),.int .i64 a0_1,.slice none 0 0,.slice Ao10_0 y57.length co10_0]) (by rfl) rfl ?_ ?_
           ·go_simp
            (try simp only [i64_w])
            try rfl
           refine hK.out _ _ ⟨.slice Ao10_0 y57.length co10_0,(.agg #[.int .i64 7,.string ((⟨#[65]⟩:ByteArray)++t41),.string (⟨#[]⟩:ByteArray),.int .i64 a0_1,.slice none 0 0,.slice Ao10_0 y57.length co10_0]),(by rw [ha.out];exact putSel_upk 5 hb_ rfl rfl rfl),Q_BK316,Q_BK317,Q_HB,Q_HO324,fun h0_=>absurd ((hoff 11 (by kernel_rfl)).symm.trans h0_) (by decide),fun _=>rfl⟩
          refine steps_cons ?_ ?_
          ·rintro b a w' ⟨v40,m10_,ha,Q_BK316,Q_BK317,Q_HB,Q_HO324,Q_BK317_e11,Q_X10_⟩ hb_ hon hoff;refine ⟨_,rfl,fun K hK=>?_⟩
           have e10:a.tmps[10]? = some (.pointer (some ⟨gb17,0,none⟩)):=by rw [ha];exact (putSel_off rfl).trans rfl
           have e56:a.tmps[56]? = some (m10_):=by rw [ha];exact putSel_on (e:=(10,56,m10_)) 5 rfl rfl (hon 10 (by kernel_rfl)) rfl
           rw [Q_X10_ (hon 10 (by kernel_rfl))] at e56
           replace ha:=am ha;have BK39:=am Q_BK316;have BK17:=am (Q_BK317 hb_);have HB:=am Q_HB;have HO58:=am (Q_HO324 (hon 9 (by kernel_rfl)));obtain ⟨Ao42,co42,eo42⟩:=Kd.R_slice HO58.out
           (first|subst eo42|(injection eo42 with f1_ f2_ f3_;have f4_:=f1_.symm;have f5_:=f3_.symm;clear f1_ f2_ f3_;subst f4_;subst f5_))
           have hs43:w'.cell? ⟨gb17,0,none⟩=some (.int .i64 0):=(blk_cell BK17.out 0).trans rfl;have hfs43:=blk_frozen BK17.out 0;have hns43_0:=NB39_17.out;have hms43_0:=NB17_39.out;have hs44:w'.cell? ⟨gb17,1,none⟩=some (.string (⟨#[]⟩:ByteArray)):=(blk_cell BK17.out 1).trans rfl;have hfs44:=blk_frozen BK17.out 1;have hns44_0:=NB39_17.out;have hms44_0:=NB17_39.out;have hs45:w'.cell? ⟨gb17,2,none⟩=some (.string (⟨#[]⟩:ByteArray)):=(blk_cell BK17.out 2).trans rfl;have hfs45:=blk_frozen BK17.out 2;have hns45_0:=NB39_17.out;have hms45_0:=NB17_39.out;have hs46:w'.cell? ⟨gb17,3,none⟩=some (.int .i64 0):=(blk_cell BK17.out 3).trans rfl;have hfs46:=blk_frozen BK17.out 3;have hns46_0:=NB39_17.out;have hms46_0:=NB17_39.out;have hs47:w'.cell? ⟨gb17,4,none⟩=some (.slice none 0 0):=(blk_cell BK17.out 4).trans rfl;have hfs47:=blk_frozen BK17.out 4;have hns47_0:=NB39_17.out;have hms47_0:=NB17_39.out;have hs48:w'.cell? ⟨gb17,5,none⟩=some (.slice none 0 0):=(blk_cell BK17.out 5).trans rfl;have hfs48:=blk_frozen BK17.out 5;have hns48_0:=NB39_17.out;have hms48_0:=NB17_39.out;refine skip_ (w1:=?_) (by rfl) rfl ?_ ?_
           rotate_left
           ·go_simp
            rfl
           refine hK.out _ _ ⟨.slice Ao42 y57.length co42,m10_,(by rw [ha.out];exact putSel_none (v:=undef) rfl),(ks BK39),fun h0_=>absurd ((up_self b 11).symm.trans h0_) (by decide),(bs HB),fun _=>(Kd.R_mono (rf (Kd.R_types HO58.out BK17.out (by decide))) (fun _ hk=>trivial)),fun _=>(kp BK17),Q_X10_⟩
          exact steps_nil
         rintro b a w47 hall ⟨v40,m10_,ha,Q_BK316,Q_BK317,Q_HB,Q_HO324,Q_BK317_e11,Q_X10_⟩;clear BK39 BK17 HB;have hb1_:=hall 1 (by kernel_rfl);have hb2_:=hall 2 (by kernel_rfl);have hb4_:=hall 4 (by kernel_rfl);have hb8_:=hall 8 (by kernel_rfl);have hb9_:=hall 9 (by kernel_rfl);have hb10_:=hall 10 (by kernel_rfl);have hb11_:=hall 11 (by kernel_rfl);subst ha;obtain rfl:=Q_X10_ hb10_;simp only [putSel,hb1_,hb2_,hb4_,hb8_,hb9_,hb10_,hb11_,if_true,Act.put,List.setIfInBounds_toArray,List.set_cons_zero,List.set_cons_succ];have BK39:=am Q_BK316;clear Q_BK316;clear Q_BK317;have HB:=am Q_HB;clear Q_HB;have HO58:=am (Q_HO324 hb9_);clear Q_HO324;have BK17:=am (Q_BK317_e11 hb11_);clear Q_BK317_e11;clear hall hb1_ hb2_ hb4_ hb8_ hb9_ hb10_ hb11_;obtain ⟨Ao48,co48,eo48⟩:=Kd.R_slice HO58.out
         (first|subst eo48|(injection eo48 with f1_ f2_ f3_;have f4_:=f1_.symm;have f5_:=f3_.symm;clear f1_ f2_ f3_;subst f4_;subst f5_))
         try go_wp2
         refine bodyPost_ret (results_cell_row rfl _ _ gb17 36 #[.int .i64 7,.string ((⟨#[65]⟩:ByteArray)++t41),.string (⟨#[]⟩:ByteArray),.int .i64 a0_1,.slice none 0 0,.slice Ao48 y57.length co48] (0,0) _ rfl (ks BK17) Tryz.underlying36 rfl (by kernel_rfl)) rfl ?_
         exact ⟨_,_,ff,by first|exact Kd.R_nil _ _ _ _ _|exact Kd.N_nil _ _ _ _ _|exact Kd.V_nil _ _ _ _ _|exact Kd.Q_nil _ _ _ _ _|exact Kd.S_nil _ _ _ _ _,by (with_reducible repeat (first|apply Kd.R_alloc|apply Kd.R_drewN|apply Kd.R_drew));exact HO58.out,bs HB⟩
    ·replace H:=itF H;replace H:=sj6 H;obtain ⟨rfl,rfl,rfl,rfl,rfl,rfl⟩:=H;have hnb49:=NB17_39.out;have hnc49:=NB39_17.out;have hcz50:=cf6 BK17
     go_wp2
     refine bodyPost_ret (results_cell_row rfl _ _ gb17 36 #[.int .i64 0,.string (⟨#[]⟩:ByteArray),.string (⟨#[]⟩:ByteArray),.int .i64 0,.slice none 0 0,.slice none 0 0] (0,0) _ rfl (kp BK17) Tryz.underlying36 rfl (by kernel_rfl)) rfl ?_
     exact ⟨_,_,ff,by first|exact Kd.R_nil _ _ _ _ _|exact Kd.N_nil _ _ _ _ _|exact Kd.V_nil _ _ _ _ _|exact Kd.Q_nil _ _ _ _ _|exact Kd.S_nil _ _ _ _ _,by first|exact Kd.R_nil _ _ _ _ _|exact Kd.N_nil _ _ _ _ _|exact Kd.V_nil _ _ _ _ _|exact Kd.Q_nil _ _ _ _ _|exact Kd.S_nil _ _ _ _ _,bs HB⟩
   ·replace H:=itF H;replace H:=sj6 H;obtain ⟨rfl,rfl,rfl,rfl,rfl,rfl⟩:=H;have hnb51:=NB17_39.out;have hnc51:=NB39_17.out;have hcz52:=cf6 BK17
    go_wp2
    refine bodyPost_ret (results_cell_row rfl _ _ gb17 36 #[.int .i64 0,.string (⟨#[]⟩:ByteArray),.string (⟨#[]⟩:ByteArray),.int .i64 0,.slice none 0 0,.slice none 0 0] (0,0) _ rfl (kp BK17) Tryz.underlying36 rfl (by kernel_rfl)) rfl ?_
    exact ⟨_,_,ff,by first|exact Kd.R_nil _ _ _ _ _|exact Kd.N_nil _ _ _ _ _|exact Kd.V_nil _ _ _ _ _|exact Kd.Q_nil _ _ _ _ _|exact Kd.S_nil _ _ _ _ _,by first|exact Kd.R_nil _ _ _ _ _|exact Kd.N_nil _ _ _ _ _|exact Kd.V_nil _ _ _ _ _|exact Kd.Q_nil _ _ _ _ _|exact Kd.S_nil _ _ _ _ _,bs HB⟩
  ·replace H:=itF H;replace H:=sj6 H;obtain ⟨rfl,rfl,rfl,rfl,rfl,rfl⟩:=H;have hnb53:=NB17_39.out;have hnc53:=NB39_17.out;have hcz54:=cf6 BK17
   go_wp2
   refine bodyPost_ret (results_cell_row rfl _ _ gb17 36 #[.int .i64 0,.string (⟨#[]⟩:ByteArray),.string (⟨#[]⟩:ByteArray),.int .i64 0,.slice none 0 0,.slice none 0 0] (0,0) _ rfl (kp BK17) Tryz.underlying36 rfl (by kernel_rfl)) rfl ?_
   exact ⟨_,_,ff,by first|exact Kd.R_nil _ _ _ _ _|exact Kd.N_nil _ _ _ _ _|exact Kd.V_nil _ _ _ _ _|exact Kd.Q_nil _ _ _ _ _|exact Kd.S_nil _ _ _ _ _,by first|exact Kd.R_nil _ _ _ _ _|exact Kd.N_nil _ _ _ _ _|exact Kd.V_nil _ _ _ _ _|exact Kd.Q_nil _ _ _ _ _|exact Kd.S_nil _ _ _ _ _,bs HB⟩
theorem impl_longText_1.calls (a0:ByteArray) (r:Bool) (w:World) (H:impl_longText_1.f a0=some r) :
  Calls Tryz.prog 68 #[.string a0] w fun e w'=>e=.returned (.bool r)∧Drawn0 w w':=by
 unfold impl_longText_1.f at H;obtain rfl:=si H
 go_in
 go_wp2
 go_ret
 exact ⟨fg,dr⟩
theorem slices_IndexFunc_string_string_impl_longText_1.calls (k:Nat) (A0:Option Addr) (c0:Nat) (l0:List ByteArray)  (r:Int) (w:World) (hr0:Kd.C Kd.string w A0 l0.length l0) (hc0:l0.length≤c0) (H:slices_IndexFunc_string_string_impl_longText_1.f k l0=some r) :
  Calls Tryz.prog 98 #[.slice A0 l0.length c0,.func (.func 68) #[] #[]] w fun e w'=>e=.returned (.int .i64 r)∧Drawn0 w w':=by
 have HR0:=am hr0;have HC0:=am hc0;clear hr0 hc0;unfold slices_IndexFunc_string_string_impl_longText_1.f at H;have H':=am H;clear H
 go_in
 go_wp2
 go_loopg [8] k (fun kq v8 w'=>∃ (x8_1:Int),v8=.int .i64 x8_1∧Aside0 (slices_IndexFunc_string_string_impl_longText_1.l0 kq l0 (l0.length:Int) x8_1=some r)∧Aside0 (kq≤k)∧Drawn0 w w')
 case atStart=>exact ⟨(0),fg,H',⟨Nat.le_refl _⟩,by repeat (first|exact Drawn0.refl _|apply Drawn0.step)⟩
 case round =>
  clear H'
  obtain ⟨x8_1,rfl,HA,HK1,⟨m1,rfl⟩⟩:=hrel
  cases gk with
  | zero=>exact absurd HA.out (by simp [slices_IndexFunc_string_string_impl_longText_1.l0])
  | succ k1 =>
   have H:=HA.out;clear HA;simp only [slices_IndexFunc_string_string_impl_longText_1.l0] at H
   revert H;refine id2 ?_ ?_
   ·intro c3b0 H
    revert H;refine id1 ?_
    intro c4b0 H
    revert H;refine id1 ?_
    intro c5b0 H;replace H:=bo H;obtain ⟨t9,A6,H⟩:=H;have p7:0≤(x8_1:Int):=oa;have q7:x8_1<(l0.length:Int):=oa;obtain ⟨ad7,e7,hx7_0⟩:=Kd.at_string HR0.out x8_1 p7 q7
    cases e7
    replace p7:=eq_true p7;replace q7:=eq_true q7
    try go_wp2_with (fail)
    go_at_call 68;(with_reducible refine (impl_longText_1.calls (rdOf ByteArray.empty l0 x8_1) t9 _ A6.out).mono ?_);rintro e w' ⟨rfl,⟨nd,rfl⟩⟩
    obtain rfl|rfl:=bt t9
    ·replace H:=itT H;obtain rfl:=si H
     go_wp2
     go_ret
     exact ⟨fg,dr⟩
    ·replace H:=itF H;have H':=am H;clear H
     go_wp2
     go_roundg k1
     case measure=>have:=HK1.out;omega
     case rel=>exact ⟨(wrap64 (x8_1+1)),fg,H',⟨by have:=HK1.out;omega⟩,by repeat (first|exact Drawn0.refl _|apply Drawn0.step)⟩
   ·intro c3b0 H;obtain rfl:=si H
    go_wp2
    go_ret
    exact ⟨fg,dr⟩
theorem slices_ContainsFunc_string_string_impl_longText_1.calls (k:Nat) (A0:Option Addr) (c0:Nat) (l0:List ByteArray)  (r:Bool) (w:World) (hr0:Kd.C Kd.string w A0 l0.length l0) (hc0:l0.length≤c0) (H:slices_ContainsFunc_string_string_impl_longText_1.f k l0=some r) :
  Calls Tryz.prog 67 #[.slice A0 l0.length c0,.func (.func 68) #[] #[]] w fun e w'=>e=.returned (.bool r)∧Drawn0 w w':=by
 have HR0:=am hr0;have HC0:=am hc0;clear hr0 hc0;unfold slices_ContainsFunc_string_string_impl_longText_1.f at H;replace H:=bo H;obtain ⟨t4,A3,H⟩:=H;obtain rfl:=si H
 go_in
 go_wp2_with (first|((first|((with_reducible refine gate_callee (f:=98) rfl ?_);refine goesL_ (some 7) rfl rfl Tryz.func98 (by kernel_rfl) rfl #[.slice A0 l0.length c0,.func (.func 68) #[] #[]] rfl (by (try simp only [List.map_toArray,List.map_cons,List.map_nil]);first|done|rfl|(simp only [List.length_drop,List.length_take];rfl)) ?_;(with_reducible refine (slices_IndexFunc_string_string_impl_longText_1.calls k _ _ l0  t4 _ ?side1 HC0.out A3.out).mono ?_);(case side1=>exact sd HR0.out);rintro e w' ⟨rfl,⟨nd,rfl⟩⟩;refine ⟨_,rfl,?_⟩)|(go_at_call 98;(with_reducible refine (slices_IndexFunc_string_string_impl_longText_1.calls k _ _ l0  t4 _ ?side1 HC0.out A3.out).mono ?_);(case side1=>exact sd HR0.out);rintro e w' ⟨rfl,⟨nd,rfl⟩⟩))))
 go_ret
 exact ⟨fg,dr⟩
theorem impl_longText.calls (k:Nat) (A0:Option Addr) (c0:Nat) (l0:List ByteArray) (r:Bool) (w:World) (hr0:Kd.C Kd.string w A0 l0.length l0) (hc0:l0.length≤c0) (H:impl_longText.f k l0=some r) :
  Calls Tryz.prog 27 #[.slice A0 l0.length c0] w fun e w'=>e=.returned (.bool r)∧Drawn0 w w':=by
 have HR0:=am hr0;have HC0:=am hc0;clear hr0 hc0;unfold impl_longText.f at H;replace H:=bo H;obtain ⟨t3,A2,H⟩:=H;obtain rfl:=si H
 go_in
 go_wp2_with (first|((first|((with_reducible refine gate_callee (f:=67) rfl ?_);refine goesL_ (some 4) rfl rfl Tryz.func67 (by kernel_rfl) rfl #[.slice A0 l0.length c0,.func (.func 68) #[] #[]] rfl (by (try simp only [List.map_toArray,List.map_cons,List.map_nil]);first|done|rfl|(simp only [List.length_drop,List.length_take];rfl)) ?_;(with_reducible refine (slices_ContainsFunc_string_string_impl_longText_1.calls k _ _ l0  t3 _ ?side1 HC0.out A2.out).mono ?_);(case side1=>exact sd HR0.out);rintro e w' ⟨rfl,⟨nd,rfl⟩⟩;refine ⟨_,rfl,?_⟩)|(go_at_call 67;(with_reducible refine (slices_ContainsFunc_string_string_impl_longText_1.calls k _ _ l0  t3 _ ?side1 HC0.out A2.out).mono ?_);(case side1=>exact sd HR0.out);rintro e w' ⟨rfl,⟨nd,rfl⟩⟩))))
 go_ret
 exact ⟨fg,dr⟩
theorem impl_isGreat.calls (a0:Int) (r:Bool) (w:World) (H:impl_isGreat.f a0=some r) :
  Calls Tryz.prog 74 #[.int .u8 a0] w fun e w'=>e=.returned (.bool r)∧Drawn0 w w':=by
 unfold impl_isGreat.f at H
 revert H;refine ip2 ?_ ?_
 ·intro c2 H;have c2b0:decide (65≤a0)=true:=decide_eq_true c2;clear c2;obtain rfl:=si H
  go_in
  go_wp2
  go_ret
  exact ⟨fg,dr⟩
 ·intro c2 H;have c2b0:decide (65≤a0)=false:=decide_eq_false c2;clear c2;obtain rfl:=si H
  go_in
  go_wp2
  go_ret
  exact ⟨fg,dr⟩
theorem impl_isDigit.calls (a0:Int) (r:Bool) (w:World) (H:impl_isDigit.f a0=some r) :
  Calls Tryz.prog 75 #[.int .u8 a0] w fun e w'=>e=.returned (.bool r)∧Drawn0 w w':=by
 unfold impl_isDigit.f at H
 revert H;refine ip2 ?_ ?_
 ·intro c2 H;have c2b0:decide (48≤a0)=true:=decide_eq_true c2;clear c2;obtain rfl:=si H
  go_in
  go_wp2
  go_ret
  exact ⟨fg,dr⟩
 ·intro c2 H;have c2b0:decide (48≤a0)=false:=decide_eq_false c2;clear c2;obtain rfl:=si H
  go_in
  go_wp2
  go_ret
  exact ⟨fg,dr⟩
theorem impl_within.calls (a0:Int) (a1:Int) (a2:Int) (r:Bool) (w:World) (H:impl_within.f a0 a1 a2=some r) :
  Calls Tryz.prog 32 #[.int .i64 a0,.int .i64 a1,.int .i64 a2] w fun e w'=>e=.returned (.bool r)∧Drawn0 w w':=by
 unfold impl_within.f at H
 revert H;refine id2 ?_ ?_
 ·intro c4b0 H;obtain rfl:=si H
  go_in
  go_wp2
  go_ret
  exact ⟨fg,dr⟩
 ·intro c4b0 H;obtain rfl:=si H
  go_in
  go_wp2
  go_ret
  exact ⟨fg,dr⟩
end Go.Proofs.YtkfcahggnpecjaaGreatDoor.QW
