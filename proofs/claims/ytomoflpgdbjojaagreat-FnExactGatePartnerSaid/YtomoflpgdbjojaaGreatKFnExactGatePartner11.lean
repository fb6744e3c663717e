-- Merged by a program of this session (wip/tool/pack.py) out of its own texts for this claim.
import Derived.Test.YtomoflpgdbjojaaGreatKFnExactGatePartner10
set_option maxHeartbeats 8000000
set_option maxRecDepth 100000
set_option linter.unusedSimpArgs false
set_option linter.unusedVariables false
namespace Go.Proofs.YtomoflpgdbjojaaGreat.QO
open Go.RowKit Go.Proofs.YtomoflpgdbjojaaGreatW.PrintWords Go.Proofs.YtomoflpgdbjojaaGreatW.PrintLast Go.Proofs.YtomoflpgdbjojaaGreatW.PrintMore
attribute [local go_sem] max2_int min2_int max_two min_two max_three min_three max_four min_four   -- for this text's walks alone
def spec_GateRight.T6:Bool × List (List Nat × List Nat):=(true,[([],[]),([0],[0]),([],[]),([1,2],[1,2]),([3],[3]),([4],[4]),([5],[5]),([6,5],[6]),([7],[7]),([8,7],[7,8]),([9,7,7],[7,9]),([10],[10]),([11,10],[10,11]),([10],[10]),([12,13,10],[10,12,13]),([14,10],[10,14]),([15,10],[10,15]),([10],[10]),([17,10],[10,17]),([10],[10]),([19,10],[10,19]),([18,20,10],[10,18,20]),([21,10],[10,21]),([22,10],[10,22]),([16,23,10],[10,16,23]),([10,24,7],[7,10,24]),([7,25],[7,25])])
def spec_GateRight.B6:List Nat:=[0,1,0,7,15,31,63,127,255,511,1023,2047,4095,2047,16383,32767,65535,2047,133119,2047,526335,1968127,4065279,8259583,16777215,33554431,67108863]
theorem spec_GateRight.tab6:rtab .any (opsOf Tryz.f23 6)=spec_GateRight.T6:=by kernel_rfl
theorem spec_GateRight.bits6:waitsOk spec_GateRight.T6.2 spec_GateRight.B6=true:=by kernel_rfl
theorem spec_GateRight.calls (k:Nat) (a0_0:ByteArray) (a0_1:Int) (A0_2:Option Addr) (c0_2:Nat) (l0_2:List (S83)) (A0_3:Option Addr) (c0_3:Nat) (l0_3:List (S114)) (A0_4:Option Addr) (c0_4:Nat) (l0_4:List (S152)) (A0_5:Option Addr) (c0_5:Nat) (l0_5:List (S161)) (A0_6:Option Addr) (c0_6:Nat) (l0_6:List (S118)) (A0_7:Option Addr) (c0_7:Nat) (l0_7:List (S120)) (r:Bool) (w:World) (hr0_2:Kd.C k83 w A0_2 l0_2.length l0_2) (hc0_2:l0_2.length≤c0_2) (hr0_3:Kd.C k114 w A0_3 l0_3.length l0_3) (hc0_3:l0_3.length≤c0_3) (hr0_4:Kd.C k152 w A0_4 l0_4.length l0_4) (hc0_4:l0_4.length≤c0_4) (hr0_5:Kd.C k161 w A0_5 l0_5.length l0_5) (hc0_5:l0_5.length≤c0_5) (hr0_6:Kd.C k118 w A0_6 l0_6.length l0_6) (hc0_6:l0_6.length≤c0_6) (hr0_7:Kd.C k120 w A0_7 l0_7.length l0_7) (hc0_7:l0_7.length≤c0_7) (H:spec_GateRight.f k a0_0 a0_1 l0_2 l0_3 l0_4 l0_5 l0_6 l0_7=some r) :
  Calls Tryz.prog 23 #[.agg #[.string a0_0,.int .i64 a0_1,.slice A0_2 l0_2.length c0_2,.slice A0_3 l0_3.length c0_3,.slice A0_4 l0_4.length c0_4,.slice A0_5 l0_5.length c0_5,.slice A0_6 l0_6.length c0_6,.slice A0_7 l0_7.length c0_7]] w fun e w'=>e=.returned (.bool r)∧Below w.heap.size w w':=by
 have hu42:=Tryz.underlying42;have hu38:=Tryz.underlying38;have hu83:=Tryz.underlying83;have HR0_2:=am hr0_2;have HC0_2:=am hc0_2;clear hr0_2 hc0_2;have HR0_3:=am hr0_3;have HC0_3:=am hc0_3;clear hr0_3 hc0_3;have HR0_4:=am hr0_4;have HC0_4:=am hc0_4;clear hr0_4 hc0_4;have HR0_5:=am hr0_5;have HC0_5:=am hc0_5;clear hr0_5 hc0_5;have HR0_6:=am hr0_6;have HC0_6:=am hc0_6;clear hr0_6 hc0_6;have HR0_7:=am hr0_7;have HC0_7:=am hc0_7;clear hr0_7 hc0_7;have HB:=am (Below.refl w.heap.size w);unfold spec_GateRight.f at H;have HC2:=am H;clear H
 go_in
 go_upto_region 1 with (first|((with_reducible refine gate_dst (N:=1) rfl ?_);(try (refine gate_guard (by rfl) ?_;dsimp only));refine bz 1 (cs:=#[.string a0_0,.int .i64 a0_1,.slice A0_2 l0_2.length c0_2,.slice A0_3 l0_3.length c0_3,.slice A0_4 l0_4.length c0_4,.slice A0_5 l0_5.length c0_5,.slice A0_6 l0_6.length c0_6,.slice A0_7 l0_7.length c0_7]) (t:=42) HB ?_;clear HB;intro gb78 hg w3 BK78 GW78 hb HB;clear hb hg))
 (try simp only [Act.put,List.setIfInBounds_toArray,List.set_cons_zero,List.set_cons_succ])
 go_cut [43] (fun v43 wc=>∃ (kq:Nat) (x43_1:Bool),v43=.bool x43_1∧Aside0 (spec_GateRight.j0 kq x43_1 a0_0 a0_1 l0_2 l0_3 l0_4 l0_5 l0_6 l0_7=some r)∧Aside0 (kq≤k)∧Aside0 (wc.heap[gb78]? = some (.cells #[.string a0_0,.int .i64 a0_1,(.slice A0_2 l0_2.length c0_2),(.slice A0_3 l0_3.length c0_3),(.slice A0_4 l0_4.length c0_4),(.slice A0_5 l0_5.length c0_5),(.slice A0_6 l0_6.length c0_6),(.slice A0_7 l0_7.length c0_7)] 42 (0,0)))∧Aside0 (Below w.heap.size w wc))
 case first =>
  have H:=HC2.out;clear HC2;replace H:=bo H;obtain ⟨t79,A4,H⟩:=H;have hcz5:=cf8 BK78
  try go_wp2_with (fail)
  go_at_call 48;(with_reducible refine (spec_l01Name.calls k a0_0 t79 _ A4.out).mono ?_);rintro e w' ⟨rfl,⟨nd,rfl⟩⟩
  obtain rfl|rfl:=bt t79
  ·replace H:=itT H;replace H:=bo H;obtain ⟨t80,A7,H⟩:=H;have hcz8:=cf8 BK78
   try go_wp2_with (fail)
   go_at_call 64;(with_reducible refine (spec_l01Day.calls a0_1 t80 _ A7.out).mono ?_);rintro e w' ⟨rfl,⟨nd,rfl⟩⟩
   obtain rfl|rfl:=bt t80
   ·replace H:=itT H
    revert H;refine ip2 ?_ ?_
    ·intro c10 H;have c10b0:decide (20<(l0_2.length:Int))=true:=decide_eq_true c10;have c10b1:decide (20<l0_2.length)=true:=decide_eq_true (by omega);clear c10
     (first|rw [c10b0]|(simp only [i64_w,i32_w];rw [c10b0])|rw [c10b1]|skip)
     have H':=am H;clear H;have hcz11:=cf8 BK78
     go_wp2
     go_meet
     case rel=>exact ⟨_,(true),fg,H',⟨fl⟩,⟨ks BK78⟩,⟨bs HB⟩⟩
    ·intro c10 H;have c10b0:decide (20<(l0_2.length:Int))=false:=decide_eq_false c10;have c10b1:decide (20<l0_2.length)=false:=decide_eq_false (by omega);clear c10
     (first|rw [c10b0]|(simp only [i64_w,i32_w];rw [c10b0])|rw [c10b1]|skip)
     replace H:=bo H;obtain ⟨t81,A12,H⟩:=H;have hcz13:=cf8 BK78
     try go_wp2_with (fail)
     go_at_call 65;(with_reducible refine (spec_CrossRight.calls k _ _ l0_3 t81 _ ?side1 HC0_3.out A12.out).mono ?_);(case side1=>repeat (first|exact (Kd.C_below HR0_3.out (bs HB))|(with_reducible refine Kd.C_alloc ?_ _)|(with_reducible refine Kd.C_drewN ?_ _)|(with_reducible refine Kd.C_drew ?_)));rintro e w14 ⟨rfl,hb⟩;replace BK78:=bb BK78 hb;replace HB:=bq HB hb;(try clear hb);(try clear hb2);(try clear hk);(try clear hi)
     obtain rfl|rfl:=bt t81
     ·replace H:=itT H;replace H:=bo H;obtain ⟨t82,A16,H⟩:=H;have hcz17:=cf8 BK78
      try go_wp2_with (fail)
      go_at_call 66;(with_reducible refine (spec_BookRight.calls k _ _ l0_4 _ _ l0_5 t82 _ (Kd.C_below HR0_4.out (bs HB)) HC0_4.out (Kd.C_below HR0_5.out (bs HB)) HC0_5.out A16.out).mono ?_);rintro e w18 ⟨rfl,hb⟩;replace BK78:=bb BK78 hb;replace HB:=bq HB hb;(try clear hb);(try clear hb2);(try clear hk);(try clear hi)
      obtain rfl|rfl:=bt t82
      ·replace H:=itT H
       revert H;refine ip2 ?_ ?_
       ·intro c20 H;have c20b0:decide (200<(l0_6.length:Int))=true:=decide_eq_true c20;have c20b1:decide (200<l0_6.length)=true:=decide_eq_true (by omega);clear c20;have H':=am H;clear H;have hcz21:=cf8 BK78
        go_wp2
        go_meet
        case rel=>exact ⟨_,(true),fg,H',⟨fl⟩,⟨ks BK78⟩,⟨bs HB⟩⟩
       ·intro c20 H;have c20b0:decide (200<(l0_6.length:Int))=false:=decide_eq_false c20;have c20b1:decide (200<l0_6.length)=false:=decide_eq_false (by omega);clear c20;replace H:=bo H;obtain ⟨t84,A22,H⟩:=H;have H':=am H;clear H;have hcz23:=cf8 BK78
        go_wp2_with (first|(go_at_call 67;(with_reducible refine (spec_OutboxRight.calls k _ _ l0_7 t84 _ (Kd.C_below HR0_7.out (bs HB)) HC0_7.out A22.out).mono ?_);rintro e w24 ⟨rfl,hb⟩;replace BK78:=bb BK78 hb;replace HB:=bq HB hb;(try clear hb);(try clear hb2);(try clear hk);(try clear hi)))
        go_meet
        case rel=>exact ⟨_,(!t84),fg,H',⟨fl⟩,⟨ks BK78⟩,⟨bs HB⟩⟩
      ·replace H:=itF H;have H':=am H;clear H
       go_wp2
       go_meet
       case rel=>exact ⟨_,(true),fg,H',⟨fl⟩,⟨ks BK78⟩,⟨bs HB⟩⟩
     ·replace H:=itF H;have H':=am H;clear H
      go_wp2
      go_meet
      case rel=>exact ⟨_,(true),fg,H',⟨fl⟩,⟨ks BK78⟩,⟨bs HB⟩⟩
   ·replace H:=itF H;have H':=am H;clear H
    go_wp2
    go_meet
    case rel=>exact ⟨_,(true),fg,H',⟨fl⟩,⟨ks BK78⟩,⟨bs HB⟩⟩
  ·replace H:=itF H;have H':=am H;clear H
   go_wp2
   go_meet
   case rel=>exact ⟨_,(true),fg,H',⟨fl⟩,⟨ks BK78⟩,⟨bs HB⟩⟩
 case rest =>
  clear HC2
  obtain ⟨kq,x43_1,rfl,HA,HJ1,BK78,HB⟩:=hcut
  cases kq with
  | zero=>exact absurd HA.out (by simp [spec_GateRight.j0])
  | succ kj1 =>
   have H:=HA.out;clear HA;simp only [spec_GateRight.j0] at H
   obtain rfl|rfl:=bt x43_1
   ·replace H:=itT H;obtain rfl:=si H
    go_wp2
    go_ret
    exact ⟨ff,bs HB⟩
   ·replace H:=itF H;have H':=am H;clear H
    go_wp2
    go_loopg [3] kj1 (fun kq v3 w'=>∃ (x3_2:Int),v3=.int .i64 x3_2∧Aside0 (spec_GateRight.l0 kq x3_2 a0_0 a0_1 l0_2 l0_3 l0_4 l0_5 l0_6 l0_7=some r)∧Aside0 (kq≤kj1)∧Aside0 (w'.heap[gb78]? = some (.cells #[.string a0_0,.int .i64 a0_1,(.slice A0_2 l0_2.length c0_2),(.slice A0_3 l0_3.length c0_3),(.slice A0_4 l0_4.length c0_4),(.slice A0_5 l0_5.length c0_5),(.slice A0_6 l0_6.length c0_6),(.slice A0_7 l0_7.length c0_7)] 42 (0,0)))∧Aside0 (Below w.heap.size w w'))
    case atStart=>exact ⟨(0),fg,H',⟨Nat.le_refl _⟩,⟨ks BK78⟩,⟨bs HB⟩⟩
    case round =>
     clear H'
     try clear BK78
     obtain ⟨x3_2,rfl,HA,HK2,BK78,HB⟩:=hrel
     cases gk with
     | zero=>exact absurd HA.out (by simp [spec_GateRight.l0])
     | succ k2 =>
      have H:=HA.out;clear HA;simp only [spec_GateRight.l0] at H
      revert H;refine id2 ?_ ?_
      ·intro c26b0 H
       revert H;refine id1 ?_
       intro c27b0 H;replace H:=bo H;obtain ⟨t85,A28,H⟩:=H
       obtain rfl|rfl:=bt t85
       ·replace H:=itT H
        revert H;refine ip2 ?_ ?_
        ·intro c30 H;have c30b0:decide (0<x3_2)=true:=decide_eq_true c30;clear c30;obtain ⟨ji31,hji31⟩:∃ j_:Int,(wrap64 (x3_2 - 1))=j_:=⟨_,rfl⟩
         replace H:(if 0≤(ji31) then (if (ji31)<(l0_2.length:Int) then (if ((Op.bytesLess (((rd_T83 l0_2 (ji31)).f0).toList) (((rd_T83 l0_2 x3_2).f0).toList))=true) then (spec_GateRight.l0 k2 (wrap64 (x3_2+1)) a0_0 a0_1 l0_2 l0_3 l0_4 l0_5 l0_6 l0_7) else (some false)) else (none)) else (none))=some r:=by first|(rw [hji31] at H;exact H)|(simp only [hji31] at H ⊢;exact H)
         (try rw [hji31] at A28)
         have hji31w:(IntKind.i64.wrap (x3_2 - 1))=ji31:=(i64_w _).trans hji31
         revert H;refine id1 ?_
         intro c32b0 H
         revert H;refine id1 ?_
         intro c33b0 H
         revert H;refine ip2 ?_ ?_
         ·intro c34 H;have c34b0:(Op.bytesLess (((rd_T83 l0_2 (ji31)).f0).toList) (((rd_T83 l0_2 x3_2).f0).toList))=true:=c34;clear c34;have H':=am H;clear H;have hcz35:=cf8 BK78
          try go_wp2
          replace BK78:=am (blk_drew BK78.out);replace HB:=am (below_drew1 HB.out);have p29:0≤(x3_2:Int):=oa;have q29:x3_2<(l0_2.length:Int):=oa;obtain ⟨ad29,A29_3,c29_3,e29,hx29_0,hx29_1,hx29_2,hx29_3,hl29_3,hi29_3⟩:=at_T83 HR0_2.out x3_2 p29 q29;have hw29_3:=hx29_3;have hw29_2:=hx29_2;have hw29_1:=hx29_1;have hw29_0:=hx29_0
          cases e29
          replace hx29_0:=cb HB hx29_0;replace hx29_1:=cb HB hx29_1;replace hx29_2:=cb HB hx29_2;replace hx29_3:=cb HB hx29_3;have HR29_3:=am hi29_3;have HC29_3:=am hl29_3;clear hi29_3 hl29_3;replace p29:=eq_true p29;replace q29:=eq_true q29;have p49:0≤(x3_2:Int):=oa;have q49:x3_2<(l0_2.length:Int):=oa;obtain ⟨ad49,A49_3,c49_3,e49,hx49_0,hx49_1,hx49_2,hx49_3,hl49_3,hi49_3⟩:=at_T83 HR0_2.out x3_2 p49 q49;have hw49_3:=hx49_3;have hw49_2:=hx49_2;have hw49_1:=hx49_1;have hw49_0:=hx49_0;obtain rfl:ad29=ad49:=(by injection e49);replace hx49_0:=cb HB hx49_0;replace hx49_1:=cb HB hx49_1;replace hx49_2:=cb HB hx49_2;replace hx49_3:=cb HB hx49_3;(try (have ea_:=Option.some.inj ((cb HB hw29_3).symm.trans hx49_3);injection ea_ with ea_ en_ ec_;subst ea_;subst ec_;clear en_));have HR49_3:=am hi49_3;have HC49_3:=am hl49_3;clear hi49_3 hl49_3;replace p49:=eq_true p49;replace q49:=eq_true q49;have p50:0≤((ji31):Int):=oa;have q50:(ji31)<(l0_2.length:Int):=oa;obtain ⟨ad50,A50_3,c50_3,e50,hx50_0,hx50_1,hx50_2,hx50_3,hl50_3,hi50_3⟩:=at_T83 HR0_2.out (ji31) p50 q50;have hw50_3:=hx50_3;have hw50_2:=hx50_2;have hw50_1:=hx50_1;have hw50_0:=hx50_0;obtain rfl:ad29=ad50:=(by injection e50);replace hx50_0:=cb HB hx50_0;replace hx50_1:=cb HB hx50_1;replace hx50_2:=cb HB hx50_2;replace hx50_3:=cb HB hx50_3;(try (have ea_:=Option.some.inj ((cb HB hw29_3).symm.trans hx50_3);injection ea_ with ea_ en_ ec_;subst ea_;subst ec_;clear en_));have HR50_3:=am hi50_3;have HC50_3:=am hl50_3;clear hi50_3 hl50_3;replace p50:=eq_true p50;replace q50:=eq_true q50;refine sta 27 (hb8a BK78 (hca (cb HB hw29_0) (hca (cb HB hw29_1) (hca (cb HB hw29_2) (hca (cb HB hw29_3) (hca (cb HB hw49_0) (hca (cb HB hw49_1) (hca (cb HB hw49_2) (hca (cb HB hw49_3) (hca (cb HB hw50_0) (hca (cb HB hw50_1) (hca (cb HB hw50_2) (hc (cb HB hw50_3)))))))))))))) (fun hHeld=>?_);refine with_tabW spec_GateRight.tab6 spec_GateRight.bits6 (fun HT_ HW_=>?_)
          generalize wr.drew=w36 at BK78 HB HR29_3 HR49_3 HR50_3 hx29_0 hx29_1 hx29_2 hx29_3 hx49_0 hx49_1 hx49_2 hx49_3 hx50_0 hx50_1 hx50_2 hx50_3 hHeld ⊢
          refine pz1 0 ?_;refine pz1 2 ?_;refine ta 1 ?_;refine pz1 3 ?_;refine ta 4 ?_;refine oA 5 56 HT_ (fun K hK=>?_);refine gA Tryz.func68 #[.agg #[.string ((rd_T83 l0_2 x3_2).f0),.int .i64 ((rd_T83 l0_2 x3_2).f1),.int .i64 ((rd_T83 l0_2 x3_2).f2),.slice A29_3 ((rd_T83 l0_2 x3_2).f3).length c29_3]] ?_;(with_reducible refine (spec_PartnerRight.calls k2 ((rd_T83 l0_2 x3_2).f0) ((rd_T83 l0_2 x3_2).f1) ((rd_T83 l0_2 x3_2).f2) _ _ ((rd_T83 l0_2 x3_2).f3) true _ ?side1 ?side2 A28.out).mono ?_)
          (case side1=>exact sd (Kd.C_below HR29_3.out HB.out))
          (case side2=>exact HC29_3.out)
          rintro e w37 ⟨rfl,hb⟩;refine ⟨_,rfl,?_⟩;replace BK78:=bb BK78 hb;replace HB:=bq HB hb;(try clear hb);(try clear hb2);(try clear hk);(try clear hi);refine hK.out _ _ (hb8a BK78 (hca (cb HB hw29_0) (hca (cb HB hw29_1) (hca (cb HB hw29_2) (hca (cb HB hw29_3) (hca (cb HB hw49_0) (hca (cb HB hw49_1) (hca (cb HB hw49_2) (hca (cb HB hw49_3) (hca (cb HB hw50_0) (hca (cb HB hw50_1) (hca (cb HB hw50_2) (hc (cb HB hw50_3)))))))))))))).out (fun hHeld=>?_);clear hK K;refine nA 56 ?_;refine pz4 6 ?_;refine pz2 10 ?_;refine pz1 13 ?_;refine pz1 17 ?_;refine pz2 19 ?_;refine ta 12 ?_;refine pz2 14 ?_;refine ta 16 ?_;refine ta 18 ?_;refine pz2 21 ?_;refine ta 23 ?_;refine pz3 24 ?_;refine done_ (done_of HT_.out (by kernel_rfl)) ?_
          try go_wp2
          go_roundg k2
          case measure=>have:=HJ1.out;have:=HK2.out;omega
          case rel=>exact ⟨(wrap64 (x3_2+1)),fg,H',⟨by have:=HJ1.out;have:=HK2.out;omega⟩,⟨ks BK78⟩,⟨bs HB⟩⟩
         ·intro c34 H
          have c34b0:(Op.bytesLess (((rd_T83 l0_2 (ji31)).f0).toList) (((rd_T83 l0_2 x3_2).f0).toList))=false:=by simpa using c34
          clear c34;obtain rfl:=si H;have hcz38:=cf8 BK78
          try go_wp2
          replace BK78:=am (blk_drew BK78.out);replace HB:=am (below_drew1 HB.out);have p29:0≤(x3_2:Int):=oa;have q29:x3_2<(l0_2.length:Int):=oa;obtain ⟨ad29,A29_3,c29_3,e29,hx29_0,hx29_1,hx29_2,hx29_3,hl29_3,hi29_3⟩:=at_T83 HR0_2.out x3_2 p29 q29;have hw29_3:=hx29_3;have hw29_2:=hx29_2;have hw29_1:=hx29_1;have hw29_0:=hx29_0
          cases e29
          replace hx29_0:=cb HB hx29_0;replace hx29_1:=cb HB hx29_1;replace hx29_2:=cb HB hx29_2;replace hx29_3:=cb HB hx29_3;have HR29_3:=am hi29_3;have HC29_3:=am hl29_3;clear hi29_3 hl29_3;replace p29:=eq_true p29;replace q29:=eq_true q29;have p49:0≤(x3_2:Int):=oa;have q49:x3_2<(l0_2.length:Int):=oa;obtain ⟨ad49,A49_3,c49_3,e49,hx49_0,hx49_1,hx49_2,hx49_3,hl49_3,hi49_3⟩:=at_T83 HR0_2.out x3_2 p49 q49;have hw49_3:=hx49_3;have hw49_2:=hx49_2;have hw49_1:=hx49_1;have hw49_0:=hx49_0;obtain rfl:ad29=ad49:=(by injection e49);replace hx49_0:=cb HB hx49_0;replace hx49_1:=cb HB hx49_1;replace hx49_2:=cb HB hx49_2;replace hx49_3:=cb HB hx49_3;(try (have ea_:=Option.some.inj ((cb HB hw29_3).symm.trans hx49_3);injection ea_ with ea_ en_ ec_;subst ea_;subst ec_;clear en_));have HR49_3:=am hi49_3;have HC49_3:=am hl49_3;clear hi49_3 hl49_3;replace p49:=eq_true p49;replace q49:=eq_true q49;have p50:0≤((ji31):Int):=oa;have q50:(ji31)<(l0_2.length:Int):=oa;obtain ⟨ad50,A50_3,c50_3,e50,hx50_0,hx50_1,hx50_2,hx50_3,hl50_3,hi50_3⟩:=at_T83 HR0_2.out (ji31) p50 q50;have hw50_3:=hx50_3;have hw50_2:=hx50_2;have hw50_1:=hx50_1;have hw50_0:=hx50_0;obtain rfl:ad29=ad50:=(by injection e50);replace hx50_0:=cb HB hx50_0;replace hx50_1:=cb HB hx50_1;replace hx50_2:=cb HB hx50_2;replace hx50_3:=cb HB hx50_3;(try (have ea_:=Option.some.inj ((cb HB hw29_3).symm.trans hx50_3);injection ea_ with ea_ en_ ec_;subst ea_;subst ec_;clear en_));have HR50_3:=am hi50_3;have HC50_3:=am hl50_3;clear hi50_3 hl50_3;replace p50:=eq_true p50;replace q50:=eq_true q50;refine sta 27 (hb8a BK78 (hca (cb HB hw29_0) (hca (cb HB hw29_1) (hca (cb HB hw29_2) (hca (cb HB hw29_3) (hca (cb HB hw49_0) (hca (cb HB hw49_1) (hca (cb HB hw49_2) (hca (cb HB hw49_3) (hca (cb HB hw50_0) (hca (cb HB hw50_1) (hca (cb HB hw50_2) (hc (cb HB hw50_3)))))))))))))) (fun hHeld=>?_);refine with_tabW spec_GateRight.tab6 spec_GateRight.bits6 (fun HT_ HW_=>?_)
          generalize wr.drew=w39 at BK78 HB HR29_3 HR49_3 HR50_3 hx29_0 hx29_1 hx29_2 hx29_3 hx49_0 hx49_1 hx49_2 hx49_3 hx50_0 hx50_1 hx50_2 hx50_3 hHeld ⊢
          refine pz1 0 ?_;refine pz1 2 ?_;refine ta 1 ?_;refine pz1 3 ?_;refine ta 4 ?_;refine oA 5 56 HT_ (fun K hK=>?_);refine gA Tryz.func68 #[.agg #[.string ((rd_T83 l0_2 x3_2).f0),.int .i64 ((rd_T83 l0_2 x3_2).f1),.int .i64 ((rd_T83 l0_2 x3_2).f2),.slice A29_3 ((rd_T83 l0_2 x3_2).f3).length c29_3]] ?_;(with_reducible refine (spec_PartnerRight.calls k2 ((rd_T83 l0_2 x3_2).f0) ((rd_T83 l0_2 x3_2).f1) ((rd_T83 l0_2 x3_2).f2) _ _ ((rd_T83 l0_2 x3_2).f3) true _ ?side1 ?side2 A28.out).mono ?_)
          (case side1=>exact sd (Kd.C_below HR29_3.out HB.out))
          (case side2=>exact HC29_3.out)
          rintro e w40 ⟨rfl,hb⟩;refine ⟨_,rfl,?_⟩;replace BK78:=bb BK78 hb;replace HB:=bq HB hb;(try clear hb);(try clear hb2);(try clear hk);(try clear hi);refine hK.out _ _ (hb8a BK78 (hca (cb HB hw29_0) (hca (cb HB hw29_1) (hca (cb HB hw29_2) (hca (cb HB hw29_3) (hca (cb HB hw49_0) (hca (cb HB hw49_1) (hca (cb HB hw49_2) (hca (cb HB hw49_3) (hca (cb HB hw50_0) (hca (cb HB hw50_1) (hca (cb HB hw50_2) (hc (cb HB hw50_3)))))))))))))).out (fun hHeld=>?_);clear hK K;refine nA 56 ?_;refine pz4 6 ?_;refine pz2 10 ?_;refine pz1 13 ?_;refine pz1 17 ?_;refine pz2 19 ?_;refine ta 12 ?_;refine pz2 14 ?_;refine ta 16 ?_;refine ta 18 ?_;refine pz2 21 ?_;refine ta 23 ?_;refine pz3 24 ?_;refine done_ (done_of HT_.out (by kernel_rfl)) ?_
          try go_wp2
          go_ret
          exact ⟨by first|rfl|(simp [errW_none,errW_some] <;> rfl)|(simp only [← hji31];first|rfl|(simp [errW_none,errW_some] <;> rfl))|(simp [*,errW_none,errW_some] <;> rfl),bs HB⟩
        ·intro c30 H;have c30b0:decide (0<x3_2)=false:=decide_eq_false c30;clear c30;have H':=am H;clear H;have hcz41:=cf8 BK78
         try go_wp2
         replace BK78:=am (blk_drew BK78.out);replace HB:=am (below_drew1 HB.out);have p29:0≤(x3_2:Int):=oa;have q29:x3_2<(l0_2.length:Int):=oa;obtain ⟨ad29,A29_3,c29_3,e29,hx29_0,hx29_1,hx29_2,hx29_3,hl29_3,hi29_3⟩:=at_T83 HR0_2.out x3_2 p29 q29;have hw29_3:=hx29_3;have hw29_2:=hx29_2;have hw29_1:=hx29_1;have hw29_0:=hx29_0
         cases e29
         replace hx29_0:=cb HB hx29_0;replace hx29_1:=cb HB hx29_1;replace hx29_2:=cb HB hx29_2;replace hx29_3:=cb HB hx29_3;have HR29_3:=am hi29_3;have HC29_3:=am hl29_3;clear hi29_3 hl29_3;replace p29:=eq_true p29;replace q29:=eq_true q29;refine sta 27 (hb8a BK78 (hca (cb HB hw29_0) (hca (cb HB hw29_1) (hca (cb HB hw29_2) (hc (cb HB hw29_3)))))) (fun hHeld=>?_);refine with_tabW spec_GateRight.tab6 spec_GateRight.bits6 (fun HT_ HW_=>?_)
         generalize wr.drew=w42 at BK78 HB HR29_3 hx29_0 hx29_1 hx29_2 hx29_3 hHeld ⊢
         refine pz1 0 ?_;refine pz1 2 ?_;refine ta 1 ?_;refine pz1 3 ?_;refine ta 4 ?_;refine oA 5 56 HT_ (fun K hK=>?_);refine gA Tryz.func68 #[.agg #[.string ((rd_T83 l0_2 x3_2).f0),.int .i64 ((rd_T83 l0_2 x3_2).f1),.int .i64 ((rd_T83 l0_2 x3_2).f2),.slice A29_3 ((rd_T83 l0_2 x3_2).f3).length c29_3]] ?_;(with_reducible refine (spec_PartnerRight.calls k2 ((rd_T83 l0_2 x3_2).f0) ((rd_T83 l0_2 x3_2).f1) ((rd_T83 l0_2 x3_2).f2) _ _ ((rd_T83 l0_2 x3_2).f3) true _ ?side1 ?side2 A28.out).mono ?_)
         (case side1=>exact sd (Kd.C_below HR29_3.out HB.out))
         (case side2=>exact HC29_3.out)
         rintro e w43 ⟨rfl,hb⟩;refine ⟨_,rfl,?_⟩;replace BK78:=bb BK78 hb;replace HB:=bq HB hb;(try clear hb);(try clear hb2);(try clear hk);(try clear hi);refine hK.out _ _ (hb8a BK78 (hca (cb HB hw29_0) (hca (cb HB hw29_1) (hca (cb HB hw29_2) (hc (cb HB hw29_3)))))).out (fun hHeld=>?_);clear hK K;refine nA 56 ?_;refine pz8 6 ?_;refine pz8 14 ?_;refine pz4 22 ?_;refine pz1 26 ?_;refine done_ (done_of HT_.out (by kernel_rfl)) ?_
         try go_wp2
         go_roundg k2
         case measure=>have:=HJ1.out;have:=HK2.out;omega
         case rel=>exact ⟨(wrap64 (x3_2+1)),fg,H',⟨by have:=HJ1.out;have:=HK2.out;omega⟩,⟨ks BK78⟩,⟨bs HB⟩⟩
       ·replace H:=itF H;obtain rfl:=si H;have hcz44:=cf8 BK78
        try go_wp2
        replace BK78:=am (blk_drew BK78.out);replace HB:=am (below_drew1 HB.out);have p29:0≤(x3_2:Int):=oa;have q29:x3_2<(l0_2.length:Int):=oa;obtain ⟨ad29,A29_3,c29_3,e29,hx29_0,hx29_1,hx29_2,hx29_3,hl29_3,hi29_3⟩:=at_T83 HR0_2.out x3_2 p29 q29;have hw29_3:=hx29_3;have hw29_2:=hx29_2;have hw29_1:=hx29_1;have hw29_0:=hx29_0
        cases e29
        replace hx29_0:=cb HB hx29_0;replace hx29_1:=cb HB hx29_1;replace hx29_2:=cb HB hx29_2;replace hx29_3:=cb HB hx29_3;have HR29_3:=am hi29_3;have HC29_3:=am hl29_3;clear hi29_3 hl29_3;replace p29:=eq_true p29;replace q29:=eq_true q29;refine sta 27 (hb8a BK78 (hca (cb HB hw29_0) (hca (cb HB hw29_1) (hca (cb HB hw29_2) (hc (cb HB hw29_3)))))) (fun hHeld=>?_);refine with_tabW spec_GateRight.tab6 spec_GateRight.bits6 (fun HT_ HW_=>?_)
        generalize wr.drew=w45 at BK78 HB HR29_3 hx29_0 hx29_1 hx29_2 hx29_3 hHeld ⊢
        refine pz1 0 ?_;refine pz1 2 ?_;refine ta 1 ?_;refine pz1 3 ?_;refine ta 4 ?_;refine oA 5 56 HT_ (fun K hK=>?_);refine gA Tryz.func68 #[.agg #[.string ((rd_T83 l0_2 x3_2).f0),.int .i64 ((rd_T83 l0_2 x3_2).f1),.int .i64 ((rd_T83 l0_2 x3_2).f2),.slice A29_3 ((rd_T83 l0_2 x3_2).f3).length c29_3]] ?_;(with_reducible refine (spec_PartnerRight.calls k2 ((rd_T83 l0_2 x3_2).f0) ((rd_T83 l0_2 x3_2).f1) ((rd_T83 l0_2 x3_2).f2) _ _ ((rd_T83 l0_2 x3_2).f3) false _ ?side1 ?side2 A28.out).mono ?_)
        (case side1=>exact sd (Kd.C_below HR29_3.out HB.out))
        (case side2=>exact HC29_3.out)
        rintro e w46 ⟨rfl,hb⟩;refine ⟨_,rfl,?_⟩;replace BK78:=bb BK78 hb;replace HB:=bq HB hb;(try clear hb);(try clear hb2);(try clear hk);(try clear hi);refine hK.out _ _ (hb8a BK78 (hca (cb HB hw29_0) (hca (cb HB hw29_1) (hca (cb HB hw29_2) (hc (cb HB hw29_3)))))).out (fun hHeld=>?_);clear hK K;refine nA 56 ?_;refine pz8 6 ?_;refine pz8 14 ?_;refine pz4 22 ?_;refine pz1 26 ?_;refine done_ (done_of HT_.out (by kernel_rfl)) ?_
        try go_wp2
        go_ret
        exact ⟨ff,bs HB⟩
      ·intro c26b0 H;obtain rfl:=si H;have hcz47:=cf8 BK78
       go_wp2
       go_ret
       exact ⟨ff,bs HB⟩
theorem spec_l13Find.calls (k:Nat) (a0_0:ByteArray) (a0_1:Int) (A0_2:Option Addr) (c0_2:Nat) (l0_2:List (S83)) (A0_3:Option Addr) (c0_3:Nat) (l0_3:List (S114)) (A0_4:Option Addr) (c0_4:Nat) (l0_4:List (S152)) (A0_5:Option Addr) (c0_5:Nat) (l0_5:List (S161)) (A0_6:Option Addr) (c0_6:Nat) (l0_6:List (S118)) (A0_7:Option Addr) (c0_7:Nat) (l0_7:List (S120)) (a1:ByteArray) (r:Int) (w:World) (hr0_2:Kd.C k83 w A0_2 l0_2.length l0_2) (hc0_2:l0_2.length≤c0_2) (hr0_3:Kd.C k114 w A0_3 l0_3.length l0_3) (hc0_3:l0_3.length≤c0_3) (hr0_4:Kd.C k152 w A0_4 l0_4.length l0_4) (hc0_4:l0_4.length≤c0_4) (hr0_5:Kd.C k161 w A0_5 l0_5.length l0_5) (hc0_5:l0_5.length≤c0_5) (hr0_6:Kd.C k118 w A0_6 l0_6.length l0_6) (hc0_6:l0_6.length≤c0_6) (hr0_7:Kd.C k120 w A0_7 l0_7.length l0_7) (hc0_7:l0_7.length≤c0_7) (H:spec_l13Find.f k a0_0 a0_1 l0_2 l0_3 l0_4 l0_5 l0_6 l0_7 a1=some r) :
  Calls Tryz.prog 49 #[.agg #[.string a0_0,.int .i64 a0_1,.slice A0_2 l0_2.length c0_2,.slice A0_3 l0_3.length c0_3,.slice A0_4 l0_4.length c0_4,.slice A0_5 l0_5.length c0_5,.slice A0_6 l0_6.length c0_6,.slice A0_7 l0_7.length c0_7],.string a1] w fun e w'=>e=.returned (.int .i64 r)∧Below w.heap.size w w':=by
 have hu42:=Tryz.underlying42;have HR0_2:=am hr0_2;have HC0_2:=am hc0_2;clear hr0_2 hc0_2;have HR0_3:=am hr0_3;have HC0_3:=am hc0_3;clear hr0_3 hc0_3;have HR0_4:=am hr0_4;have HC0_4:=am hc0_4;clear hr0_4 hc0_4;have HR0_5:=am hr0_5;have HC0_5:=am hc0_5;clear hr0_5 hc0_5;have HR0_6:=am hr0_6;have HC0_6:=am hc0_6;clear hr0_6 hc0_6;have HR0_7:=am hr0_7;have HC0_7:=am hc0_7;clear hr0_7 hc0_7;have HB:=am (Below.refl w.heap.size w);unfold spec_l13Find.f at H;have H':=am H;clear H
 go_in
 go_wp2_with (first|((with_reducible refine gate_dst (N:=2) rfl ?_);refine bz 2 (cs:=#[.string a0_0,.int .i64 a0_1,.slice A0_2 l0_2.length c0_2,.slice A0_3 l0_3.length c0_3,.slice A0_4 l0_4.length c0_4,.slice A0_5 l0_5.length c0_5,.slice A0_6 l0_6.length c0_6,.slice A0_7 l0_7.length c0_7]) (t:=42) HB ?_;clear HB;intro gb11 hg w3 BK11 GW11 hb HB;clear hb hg))
 go_loopg [5] k (fun kq v5 w'=>∃ (x5_1:Int),v5=.int .i64 x5_1∧Aside0 (spec_l13Find.l0 kq a1 x5_1 a0_0 a0_1 l0_2 l0_3 l0_4 l0_5 l0_6 l0_7=some r)∧Aside0 (kq≤k)∧Aside0 (w'.heap[gb11]? = some (.cells #[.string a0_0,.int .i64 a0_1,(.slice A0_2 l0_2.length c0_2),(.slice A0_3 l0_3.length c0_3),(.slice A0_4 l0_4.length c0_4),(.slice A0_5 l0_5.length c0_5),(.slice A0_6 l0_6.length c0_6),(.slice A0_7 l0_7.length c0_7)] 42 (0,0)))∧Aside0 (Below w.heap.size w w'))
 case atStart=>exact ⟨(0),fg,H',⟨Nat.le_refl _⟩,⟨ks BK11⟩,⟨bs HB⟩⟩
 case round =>
  clear H'
  try clear BK11
  obtain ⟨x5_1,rfl,HA,HK1,BK11,HB⟩:=hrel
  cases gk with
  | zero=>exact absurd HA.out (by simp [spec_l13Find.l0])
  | succ k1 =>
   have H:=HA.out;clear HA;simp only [spec_l13Find.l0] at H
   revert H;refine id2 ?_ ?_
   ·intro c4b0 H
    revert H;refine id1 ?_
    intro c5b0 H
    revert H;refine ie2 ?_ ?_
    ·intro c6b0 c6b1 H;obtain rfl:=si H;have hcz7:=cf8 BK11;have p10:0≤(x5_1:Int):=oa;have q10:x5_1<(l0_2.length:Int):=oa;obtain ⟨ad10,A10_3,c10_3,e10,hx10_0,hx10_1,hx10_2,hx10_3,hl10_3,hi10_3⟩:=at_T83 HR0_2.out x5_1 p10 q10
     cases e10
     replace hx10_0:=cb HB hx10_0;replace hx10_1:=cb HB hx10_1;replace hx10_2:=cb HB hx10_2;replace hx10_3:=cb HB hx10_3;have HR10_3:=am hi10_3;have HC10_3:=am hl10_3;clear hi10_3 hl10_3;replace p10:=eq_true p10;replace q10:=eq_true q10
     go_wp2
     go_ret
     exact ⟨ff,bs HB⟩
    ·intro c6 c6b0 c6b1 H;have H':=am H;clear H;have hcz8:=cf8 BK11;have p10:0≤(x5_1:Int):=oa;have q10:x5_1<(l0_2.length:Int):=oa;obtain ⟨ad10,A10_3,c10_3,e10,hx10_0,hx10_1,hx10_2,hx10_3,hl10_3,hi10_3⟩:=at_T83 HR0_2.out x5_1 p10 q10
     cases e10
     replace hx10_0:=cb HB hx10_0;replace hx10_1:=cb HB hx10_1;replace hx10_2:=cb HB hx10_2;replace hx10_3:=cb HB hx10_3;have HR10_3:=am hi10_3;have HC10_3:=am hl10_3;clear hi10_3 hl10_3;replace p10:=eq_true p10;replace q10:=eq_true q10
     go_wp2
     go_roundg k1
     case measure=>have:=HK1.out;omega
     case rel=>exact ⟨(wrap64 (x5_1+1)),fg,H',⟨by have:=HK1.out;omega⟩,⟨ks BK11⟩,⟨bs HB⟩⟩
   ·intro c4b0 H;obtain rfl:=si H;have hcz9:=cf8 BK11
    go_wp2
    go_ret
    exact ⟨ff,bs HB⟩
theorem spec_l07Copy.calls (a0_0:ByteArray) (a0_1:Int) (a0_2:Int) (A0_3:Option Addr) (c0_3:Nat) (l0_3:List (S155)) (r1:ByteArray) (r2:Int) (r3:Int) (r4:List (S155)) (w:World) (hr0_3:Kd.C k155 w A0_3 l0_3.length l0_3) (hc0_3:l0_3.length≤c0_3) (H:spec_l07Copy.f a0_0 a0_1 a0_2 l0_3=some (r1,r2,r3,r4)) :
  Calls Tryz.prog 51 #[.agg #[.string a0_0,.int .i64 a0_1,.int .i64 a0_2,.slice A0_3 l0_3.length c0_3]] w fun e w'=>∃ v3_:Value,e=.returned (.agg #[.string r1,.int .i64 r2,.int .i64 r3,v3_])∧Kd.R k155 155 w' w.heap.size (fun _=>True) v3_ r4∧Below w.heap.size w w':=by
 have hu83:=Tryz.underlying83;have HR0_3:=am hr0_3;have HC0_3:=am hc0_3;clear hr0_3 hc0_3;have HB:=am (Below.refl w.heap.size w);unfold spec_l07Copy.f at H;obtain ⟨y15,hy15⟩:∃ y_:List (S155),y_=(([]:List (S155))):=⟨_,rfl⟩
 replace H:(if y15.length+l0_3.length<5864062014805 then (some (a0_0,a0_1,a0_2,(y15++l0_3))) else (none))=some (r1,r2,r3,r4):=ye hy15 H
 have Ny15:=am hy15;clear hy15
 revert H;refine ip2 ?_ ?_
 ·intro c2 H;have LMc2:=am c2;clear c2;obtain ⟨y16,hy16⟩:∃ y_:List (S155),y_=(y15++l0_3):=⟨_,rfl⟩
  replace H:(some (a0_0,a0_1,a0_2,y16))=some (r1,r2,r3,r4):=ye hy16 H
  have Ny16:=am hy16;clear hy16;replace H:=sj4 H;obtain ⟨rfl,rfl,rfl,rfl⟩:=H
  go_in
  go_wp2_with (first|((with_reducible refine gate_dst (N:=1) rfl ?_);refine bz 1 (cs:=#[.string a0_0,.int .i64 a0_1,.int .i64 a0_2,.slice A0_3 l0_3.length c0_3]) (t:=83) HB ?_;clear HB;intro gb13 hg w3 BK13 GW13 hb HB;clear hb hg)|((with_reducible refine gate_dst (N:=2) rfl ?_);refine bz 2 (cs:=#[.string (⟨#[]⟩:ByteArray),.int .i64 0,.int .i64 0,.slice none 0 0]) (t:=83) HB ?_;clear HB;intro gb14 hg w4 BK14 GW14 hb HB;have NB13_14:=na hg BK13;have NB14_13:=nc hg BK13;replace BK13:=bb BK13 hb;clear hb hg)|((with_reducible refine gate_dst (N:=3) rfl ?_);refine rl k155 155 (N:=3) (xs:=([]:List (S155))) (inner:=[]) ?hp ?_;(case hp=>exact (Reps.none _ _));intro v19 w5 ho6 hb hg_ hnew_;clear hg_ hnew_;(first|rw [← Ny15.out] at ho6|(simp only [Int.reduceToNat] at ho6;rw [← Ny15.out] at ho6));have HO17:=am (Kd.R_lower ho6 (below_size (bs HB)));replace BK13:=bb BK13 hb;replace BK14:=bb BK14 hb;replace HB:=bq HB hb;clear hb ho6;have hnb7:=NB13_14.out;have hnc7:=NB14_13.out;have hcz8_0:w5.cell? ⟨gb13,0,none⟩=some (.string a0_0):=(blk_cell BK13.out 0).trans rfl;have hcz8_1:w5.cell? ⟨gb13,1,none⟩=some (.int .i64 a0_1):=(blk_cell BK13.out 1).trans rfl;have hcz8_2:w5.cell? ⟨gb13,2,none⟩=some (.int .i64 a0_2):=(blk_cell BK13.out 2).trans rfl;have hcz8_3:w5.cell? ⟨gb13,3,none⟩=some (.slice A0_3 l0_3.length c0_3):=(blk_cell BK13.out 3).trans rfl;have hfz8_0:=blk_frozen BK13.out 0;have hfz8_1:=blk_frozen BK13.out 1;have hfz8_2:=blk_frozen BK13.out 2;have hfz8_3:=blk_frozen BK13.out 3)|((with_reducible refine gate_builtin (b:=.append) (xs:=#[.tmp 3,.tmp 5]) rfl ?_);at_builtin;refine Kd.R_append_rows k155 (w0:=w) w.heap.size rfl (.tmp 3) (.tmp 5) 81 155 (.agg #[(.int .i64 0),(.int .i64 0),(.int .i64 0)]) 24 rfl Tryz.underlying81 info155 rfl (by decide) (by omega) v19 y15 l0_3 _ _ _ (fun _=>True) (fun _=>False) rfl rfl ?aO ?aR (fun _ _ h=>h) (fun _ h=>h.elim) ?aF ?aB ?aS ?aL ?_;(case aR=>repeat (first|exact (Kd.C_below HR0_3.out HB.out)|(with_reducible refine Kd.C_alloc ?_ _)|(with_reducible refine Kd.C_drewN ?_ _)|(with_reducible refine Kd.C_drew ?_)));(case aB=>exact (bs HB));(case aF=>exact (fun _ _=>trivial));(case aO=>exact (rs HO17));(case aS=>exact (below_size (bs HB)));(case aL=>have:=LMc2.out;omega);intro v20 w9 ho hb hg hat;rw [← Ny16.out] at ho;have n0_:=am (blk_grown (ks BK13) hg (Kd.R_ne HO17.out BK13.out (by decide)));have n1_:=am (blk_grown (ks BK14) hg (Kd.R_ne HO17.out BK14.out (by decide)));have n2_:=am (hb);have n3_:=am (ho);clear BK13;clear BK14;clear HB;clear HO17;have BK13:=n0_;have BK14:=n1_;have HB:=n2_;have HO18:=n3_;clear n0_ n1_ n2_ n3_;clear ho hb hg hat;obtain ⟨Ao10,co10,eo10⟩:=Kd.R_slice HO18.out;subst eo10;have hcz11:=cf4 BK13;have hcz12:=cf4 BK14))
  refine bodyPost_ret (results_cell_row rfl _ _ gb14 83 #[.string a0_0,.int .i64 a0_1,.int .i64 a0_2,.slice Ao10 y16.length co10] (0,0) _ rfl (kp BK14) Tryz.underlying83 rfl (by kernel_rfl)) rfl ?_
  exact ⟨_,ff,by (with_reducible repeat (first|apply Kd.R_alloc|apply Kd.R_drewN|apply Kd.R_drew));exact Kd.R_mono (Kd.R_far (p:=⟨gb14,3,none⟩) (Kd.R_far (p:=⟨gb14,2,none⟩) (Kd.R_far (p:=⟨gb14,1,none⟩) (Kd.R_far (p:=⟨gb14,0,none⟩) (Kd.R_far (p:=⟨gb13,3,none⟩) (Kd.R_types (Kd.R_types HO18.out BK13.out (by decide)) BK14.out (by decide)) (fun _ hk=>hk.1.2) (.slice Ao10 y16.length co10)) (fun _ hk=>hk.2) (.string a0_0)) (fun _ hk=>hk.2) (.int .i64 a0_1)) (fun _ hk=>hk.2) (.int .i64 a0_2)) (fun _ hk=>hk.2) (.slice Ao10 y16.length co10)) (fun _ hk=>trivial),bs HB⟩
 ·intro c2 H
  exact absurd H (by simp)
def spec_l10Copy.T1:Bool × List (List Nat × List Nat):=(true,[([],[]),([],[]),([1],[1]),([0,2],[0,2]),([],[]),([],[]),([5],[5]),([4,6,3],[4,6]),([3,7],[3,7]),([8,7,0,1,2,3,4,5,6,7,8],[8])])
def spec_l10Copy.B1:List Nat:=[0,0,2,7,0,0,32,127,255,511]
theorem spec_l10Copy.tab1:rtab .any (opsOf Tryz.f63 1)=spec_l10Copy.T1:=by kernel_rfl
theorem spec_l10Copy.bits1:waitsOk spec_l10Copy.T1.2 spec_l10Copy.B1=true:=by kernel_rfl
theorem spec_l10Copy.calls (A0_0:Option Addr) (c0_0:Nat) (l0_0:List (S152)) (A0_1:Option Addr) (c0_1:Nat) (l0_1:List (S161)) (r1:List (S152)) (r2:List (S161)) (w:World) (hr0_0:Kd.C k152 w A0_0 l0_0.length l0_0) (hc0_0:l0_0.length≤c0_0) (hr0_1:Kd.C k161 w A0_1 l0_1.length l0_1) (hc0_1:l0_1.length≤c0_1) (H:spec_l10Copy.f l0_0 l0_1=some (r1,r2)) :
  Calls Tryz.prog 63 #[.agg #[.slice A0_0 l0_0.length c0_0,.slice A0_1 l0_1.length c0_1]] w fun e w'=>∃ v0_ v1_:Value,e=.returned (.agg #[v0_,v1_])∧Kd.R k152 152 w' w.heap.size (fun _=>True) v0_ r1∧Kd.R k161 161 w' w.heap.size (fun _=>True) v1_ r2∧Below w.heap.size w w':=by
 have hu38:=Tryz.underlying38;have HR0_0:=am hr0_0;have HC0_0:=am hc0_0;clear hr0_0 hc0_0;have HR0_1:=am hr0_1;have HC0_1:=am hc0_1;clear hr0_1 hc0_1;have HB:=am (Below.refl w.heap.size w);unfold spec_l10Copy.f at H;obtain ⟨y23,hy23⟩:∃ y_:List (S152),y_=(([]:List (S152))):=⟨_,rfl⟩
 replace H:(if y23.length+l0_0.length<5864062014805 then ((some (([]:List (S161)):List (S161))).bind fun y20=>(if y20.length+l0_1.length<1599289640401 then (some ((y23++l0_0),(y20++l0_1))) else (none))) else (none))=some (r1,r2):=ye hy23 H
 have Ny23:=am hy23;clear hy23
 revert H;refine ip2 ?_ ?_
 ·intro c2 H;have LMc2:=am c2;clear c2;obtain ⟨y25,hy25⟩:∃ y_:List (S152),y_=(y23++l0_0):=⟨_,rfl⟩
  replace H:((some (([]:List (S161)):List (S161))).bind fun y20=>(if y20.length+l0_1.length<1599289640401 then (some (y25,(y20++l0_1))) else (none)))=some (r1,r2):=ye hy25 H
  have Ny25:=am hy25;clear hy25;obtain ⟨y20,hy20⟩:∃ y_:List (S161),y_=(([]:List (S161))):=⟨_,rfl⟩
  replace H:(if y20.length+l0_1.length<1599289640401 then (some (y25,(y20++l0_1))) else (none))=some (r1,r2):=ye hy20 H
  have Ny20:=am hy20;clear hy20
  revert H;refine ip1 ?_
  intro c3 H;have LMc3:=am c3;clear c3;obtain ⟨y27,hy27⟩:∃ y_:List (S161),y_=(y20++l0_1):=⟨_,rfl⟩
  replace H:(some (y25,y27))=some (r1,r2):=ye hy27 H
  have Ny27:=am hy27;clear hy27;replace H:=sj2 H;obtain ⟨rfl,rfl⟩:=H
  go_in
  try go_wp2_with (first|((with_reducible refine gate_dst (N:=1) rfl ?_);refine bz 1 (cs:=#[.slice A0_0 l0_0.length c0_0,.slice A0_1 l0_1.length c0_1]) (t:=38) HB ?_;clear HB;intro gb18 hg w4 BK18 GW18 hb HB;clear hb hg)|((with_reducible refine gate_dst (N:=2) rfl ?_);refine bz 2 (cs:=#[.slice none 0 0,.slice none 0 0]) (t:=38) HB ?_;clear HB;intro gb19 hg w5 BK19 GW19 hb HB;have NB18_19:=na hg BK18;have NB19_18:=nc hg BK18;replace BK18:=bb BK18 hb;clear hb hg))
  replace BK18:=am (blk_drew BK18.out);replace BK19:=am (blk_drew BK19.out);replace HB:=am (below_drew1 HB.out);refine sta 10 (hb2 BK18) (fun hHeld=>?_);refine with_tabW spec_l10Copy.tab1 spec_l10Copy.bits1 (fun HT_ HW_=>?_)
  generalize w5.drew=w6 at BK18 BK19 HB hHeld ⊢
  refine pz1 1 ?_;refine pz1 5 ?_;refine ta 2 ?_;refine ta 6 ?_;refine join_ (σ:=Value × Value × Value) 3 #[true,true,true,true,true,true,true,false,false,false] (fun s_=>[(3,s_.1),(6,s_.2.1),(7,s_.2.2)]) (fun s_ w'=>(w'.cell? ⟨gb18,0,none⟩=some (.slice A0_0 l0_0.length c0_0)∧w'.cell? ⟨gb18,1,none⟩=some (.slice A0_1 l0_1.length c0_1))∧(Kd.R k152 152 w' w.heap.size (fun _=>True) s_.2.1 y25)∧(Kd.R k161 161 w' w.heap.size (fun _=>True) s_.2.2 y20)∧(w'.heap[gb18]? = some (.cells #[.slice A0_0 l0_0.length c0_0,.slice A0_1 l0_1.length c0_1] 38 (0,0)))∧(w'.heap[gb19]? = some (.cells #[.slice none 0 0,.slice none 0 0] 38 (0,0)))∧(Below w.heap.size w w')) ?_ ?_
  rotate_left
  ·intro hCont;refine two_ (i:=0) (j:=4) (Ni:=some 3) (Nj:=some 7) #[true,true,true,false,false,true,true,false,false,false] #[false,true,true,false,true,true,true,false,false,false] rfl rfl rfl rfl (two_of HT_.out (by kernel_rfl)) (by decide) (by decide) (fun K hK=>?_) (fun K hK=>?_)
   ·skip
    refine Kd.R_lit_step k152 _ 152 ?hg (N:=3) ?hd (xs:=([]:List (S152))) (inner:=[]) (ok:=fun _=>True) (okp:=fun _=>True) ?hr ?hp (fun _ hk=>hk) trivial (Below.refl _ _) (Nat.le_refl _) (by simp) ?_;(case hd=>rfl);(case hg=>rfl);(case hr=>first|(go_simp;done)|(go_simp;rfl));(case hp=>exact (Reps.none _ _));intro v28 w7 ho8 hb hg_ hnew_;clear hg_ hnew_
    (first|rw [← Ny23.out] at ho8|(simp only [Int.reduceToNat] at ho8;rw [← Ny23.out] at ho8))
    have HO22:=am (Kd.R_lower ho8 (below_size (bs HB)));replace BK18:=bb BK18 hb;replace BK19:=bb BK19 hb;replace HB:=bq HB hb;clear hb ho8;refine hK.out _ _ (hb2 BK18).out (fun hHeld=>?_);clear hK K;refine nA 3 ?_;refine two_ (i:=3) (j:=4) (Ni:=some 6) (Nj:=some 7) #[true,true,true,true,false,true,true,false,false,false] #[true,true,true,false,true,true,true,false,false,false] rfl rfl rfl rfl (two_of HT_.out (by kernel_rfl)) (by decide) (by decide) (fun K hK=>?_) (fun K hK=>?_)
    ·skip
     refine Kd.R_append_rows_step k152 (w0:=w) w.heap.size (by rfl) (.tmp 3) (.tmp 5) 35 152 (.agg #[(.string ⟨#[]⟩),(.int .i64 0)]) 24 rfl Tryz.underlying35 info152 rfl (by decide) (by omega) v28 y23 l0_0 _ _ _ (fun _=>True) (fun _=>False) rfl rfl ?aO ?aR (fun _ _ h=>h) (fun _ h=>h.elim) ?aF ?aB ?aS ?aL ?_
     (case aR=>repeat (first|exact (Kd.C_below HR0_0.out HB.out)|(with_reducible refine Kd.C_alloc ?_ _)|(with_reducible refine Kd.C_drewN ?_ _)|(with_reducible refine Kd.C_drew ?_)))
     (case aB=>exact (bs HB))
     (case aF=>exact (fun _ _=>trivial))
     (case aO=>exact (rs HO22))
     (case aS=>exact (below_size (bs HB)))
     (case aL=>have:=LMc2.out;omega)
     intro v30 w9 ho hb hg hat
     rw [← Ny25.out] at ho
     have n0_:=am (blk_grown (ks BK18) hg (Kd.R_ne HO22.out BK18.out (by decide)));have n1_:=am (blk_grown (ks BK19) hg (Kd.R_ne HO22.out BK19.out (by decide)));have n2_:=am (hb);have n3_:=am (ho);clear BK18;clear BK19;clear HB;clear HO22;have BK18:=n0_;have BK19:=n1_;have HB:=n2_;have HO26:=n3_;clear n0_ n1_ n2_ n3_;clear ho hb hg hat;refine hK.out _ _ (hb2 BK18).out (fun hHeld=>?_);clear hK K;refine nA 6 ?_;refine oA 4 7 HT_ (fun K hK=>?_);refine Kd.R_lit_step k161 _ 161 ?hg (N:=7) ?hd (xs:=([]:List (S161))) (inner:=[]) (ok:=fun _=>True) (okp:=fun _=>True) ?hr ?hp (fun _ hk=>hk) trivial (Below.refl _ _) (Nat.le_refl _) (by simp) ?_;(case hd=>rfl);(case hg=>rfl);(case hr=>first|(go_simp;done)|(go_simp;rfl));(case hp=>exact (Reps.none _ _));intro v29 w10 ho11 hb hg_ hnew_;clear hg_ hnew_
     (first|rw [← Ny20.out] at ho11|(simp only [Int.reduceToNat] at ho11;rw [← Ny20.out] at ho11))
     replace HO26:=am (Kd.R_below (rs HO26) hb);have HO21:=am (Kd.R_lower ho11 (below_size (bs HB)));replace BK18:=bb BK18 hb;replace BK19:=bb BK19 hb;replace HB:=bq HB hb;clear hb ho11;refine hK.out _ _ (hb2 BK18).out (fun hHeld=>?_);clear hK K;refine nA 7 ?_
     exact norm_ (by simp only [putAll,Act.put,List.setIfInBounds_toArray,List.set_cons_zero,List.set_cons_succ]) (hCont (v28,v30,v29) _ ⟨hHeld,(rs HO26),(rs HO21),(ks BK18),(ks BK19),(bs HB)⟩)
    ·skip
     refine Kd.R_lit_step k161 _ 161 ?hg (N:=7) ?hd (xs:=([]:List (S161))) (inner:=[]) (ok:=fun _=>True) (okp:=fun _=>True) ?hr ?hp (fun _ hk=>hk) trivial (Below.refl _ _) (Nat.le_refl _) (by simp) ?_;(case hd=>rfl);(case hg=>rfl);(case hr=>first|(go_simp;done)|(go_simp;rfl));(case hp=>exact (Reps.none _ _));intro v29 w9 ho10 hb hg_ hnew_;clear hg_ hnew_
     (first|rw [← Ny20.out] at ho10|(simp only [Int.reduceToNat] at ho10;rw [← Ny20.out] at ho10))
     replace HO22:=am (Kd.R_below (rs HO22) hb);have HO21:=am (Kd.R_lower ho10 (below_size (bs HB)));replace BK18:=bb BK18 hb;replace BK19:=bb BK19 hb;replace HB:=bq HB hb;clear hb ho10;refine hK.out _ _ (hb2 BK18).out (fun hHeld=>?_);clear hK K;refine nA 7 ?_;refine oA 3 6 HT_ (fun K hK=>?_);refine Kd.R_append_rows_step k152 (w0:=w) w.heap.size (by rfl) (.tmp 3) (.tmp 5) 35 152 (.agg #[(.string ⟨#[]⟩),(.int .i64 0)]) 24 rfl Tryz.underlying35 info152 rfl (by decide) (by omega) v28 y23 l0_0 _ _ _ (fun _=>True) (fun _=>False) rfl rfl ?aO ?aR (fun _ _ h=>h) (fun _ h=>h.elim) ?aF ?aB ?aS ?aL ?_
     (case aR=>repeat (first|exact (Kd.C_below HR0_0.out HB.out)|(with_reducible refine Kd.C_alloc ?_ _)|(with_reducible refine Kd.C_drewN ?_ _)|(with_reducible refine Kd.C_drew ?_)))
     (case aB=>exact (bs HB))
     (case aF=>exact (fun _ _=>trivial))
     (case aO=>exact (rs HO22))
     (case aS=>exact (below_size (bs HB)))
     (case aL=>have:=LMc2.out;omega)
     intro v30 w11 ho hb hg hat
     rw [← Ny25.out] at ho
     have n0_:=am (blk_grown (ks BK18) hg (Kd.R_ne HO22.out BK18.out (by decide)));have n1_:=am (blk_grown (ks BK19) hg (Kd.R_ne HO22.out BK19.out (by decide)));have n2_:=am (Kd.R_over' (rs HO21) (Kd.R_typed (rs HO22)) (by decide) hg);have n3_:=am (hb);have n4_:=am (ho);clear BK18;clear BK19;clear HO21;clear HB;clear HO22;have BK18:=n0_;have BK19:=n1_;have HO21:=n2_;have HB:=n3_;have HO26:=n4_;clear n0_ n1_ n2_ n3_ n4_;clear ho hb hg hat;refine hK.out _ _ (hb2 BK18).out (fun hHeld=>?_);clear hK K;refine nA 6 ?_
     exact norm_ (by simp only [putAll,Act.put,List.setIfInBounds_toArray,List.set_cons_zero,List.set_cons_succ]) (hCont (v28,v30,v29) _ ⟨hHeld,(rs HO26),(rs HO21),(ks BK18),(ks BK19),(bs HB)⟩)
   ·skip
    refine Kd.R_lit_step k161 _ 161 ?hg (N:=7) ?hd (xs:=([]:List (S161))) (inner:=[]) (ok:=fun _=>True) (okp:=fun _=>True) ?hr ?hp (fun _ hk=>hk) trivial (Below.refl _ _) (Nat.le_refl _) (by simp) ?_;(case hd=>rfl);(case hg=>rfl);(case hr=>first|(go_simp;done)|(go_simp;rfl));(case hp=>exact (Reps.none _ _));intro v29 w7 ho8 hb hg_ hnew_;clear hg_ hnew_
    (first|rw [← Ny20.out] at ho8|(simp only [Int.reduceToNat] at ho8;rw [← Ny20.out] at ho8))
    have HO21:=am (Kd.R_lower ho8 (below_size (bs HB)));replace BK18:=bb BK18 hb;replace BK19:=bb BK19 hb;replace HB:=bq HB hb;clear hb ho8;refine hK.out _ _ (hb2 BK18).out (fun hHeld=>?_);clear hK K;refine nA 7 ?_;refine oA 0 3 HT_ (fun K hK=>?_);refine Kd.R_lit_step k152 _ 152 ?hg (N:=3) ?hd (xs:=([]:List (S152))) (inner:=[]) (ok:=fun _=>True) (okp:=fun _=>True) ?hr ?hp (fun _ hk=>hk) trivial (Below.refl _ _) (Nat.le_refl _) (by simp) ?_;(case hd=>rfl);(case hg=>rfl);(case hr=>first|(go_simp;done)|(go_simp;rfl));(case hp=>exact (Reps.none _ _));intro v28 w9 ho10 hb hg_ hnew_;clear hg_ hnew_
    (first|rw [← Ny23.out] at ho10|(simp only [Int.reduceToNat] at ho10;rw [← Ny23.out] at ho10))
    replace HO21:=am (Kd.R_below (rs HO21) hb);have HO22:=am (Kd.R_lower ho10 (below_size (bs HB)));replace BK18:=bb BK18 hb;replace BK19:=bb BK19 hb;replace HB:=bq HB hb;clear hb ho10;refine hK.out _ _ (hb2 BK18).out (fun hHeld=>?_);clear hK K;refine nA 3 ?_;refine oA 3 6 HT_ (fun K hK=>?_);refine Kd.R_append_rows_step k152 (w0:=w) w.heap.size (by rfl) (.tmp 3) (.tmp 5) 35 152 (.agg #[(.string ⟨#[]⟩),(.int .i64 0)]) 24 rfl Tryz.underlying35 info152 rfl (by decide) (by omega) v28 y23 l0_0 _ _ _ (fun _=>True) (fun _=>False) rfl rfl ?aO ?aR (fun _ _ h=>h) (fun _ h=>h.elim) ?aF ?aB ?aS ?aL ?_
    (case aR=>repeat (first|exact (Kd.C_below HR0_0.out HB.out)|(with_reducible refine Kd.C_alloc ?_ _)|(with_reducible refine Kd.C_drewN ?_ _)|(with_reducible refine Kd.C_drew ?_)))
    (case aB=>exact (bs HB))
    (case aF=>exact (fun _ _=>trivial))
    (case aO=>exact (rs HO22))
    (case aS=>exact (below_size (bs HB)))
    (case aL=>have:=LMc2.out;omega)
    intro v30 w11 ho hb hg hat
    rw [← Ny25.out] at ho
    have n0_:=am (blk_grown (ks BK18) hg (Kd.R_ne HO22.out BK18.out (by decide)));have n1_:=am (blk_grown (ks BK19) hg (Kd.R_ne HO22.out BK19.out (by decide)));have n2_:=am (Kd.R_over' (rs HO21) (Kd.R_typed (rs HO22)) (by decide) hg);have n3_:=am (hb);have n4_:=am (ho);clear BK18;clear BK19;clear HO21;clear HB;clear HO22;have BK18:=n0_;have BK19:=n1_;have HO21:=n2_;have HB:=n3_;have HO26:=n4_;clear n0_ n1_ n2_ n3_ n4_;clear ho hb hg hat;refine hK.out _ _ (hb2 BK18).out (fun hHeld=>?_);clear hK K;refine nA 6 ?_
    exact norm_ (by simp only [putAll,Act.put,List.setIfInBounds_toArray,List.set_cons_zero,List.set_cons_succ]) (hCont (v28,v30,v29) _ ⟨hHeld,(rs HO26),(rs HO21),(ks BK18),(ks BK19),(bs HB)⟩)
  rintro ⟨v28,v30,v29⟩ w12 ⟨hS_,h0_,h1_,h2_,h3_,h4_⟩;have n0_:Aside0 (Kd.R k152 152 w12 w.heap.size (fun _=>True) v30 y25):=⟨h0_⟩;have n1_:Aside0 (Kd.R k161 161 w12 w.heap.size (fun _=>True) v29 y20):=⟨h1_⟩;have n2_:Aside0 (w12.heap[gb18]? = some (.cells #[.slice A0_0 l0_0.length c0_0,.slice A0_1 l0_1.length c0_1] 38 (0,0))):=⟨h2_⟩;have n3_:Aside0 (w12.heap[gb19]? = some (.cells #[.slice none 0 0,.slice none 0 0] 38 (0,0))):=⟨h3_⟩;have n4_:Aside0 (Below w.heap.size w w12):=⟨h4_⟩;clear BK18;clear BK19;clear HB;clear h0_ h1_ h2_ h3_ h4_;have HO26:=n0_;have HO21:=n1_;have BK18:=n2_;have BK19:=n3_;have HB:=n4_;clear n0_ n1_ n2_ n3_ n4_;have hHeld:w12.cell? ⟨gb18,0,none⟩=some (.slice A0_0 l0_0.length c0_0)∧w12.cell? ⟨gb18,1,none⟩=some (.slice A0_1 l0_1.length c0_1):=hS_;refine norm_ (a':=?_) ?_ ?_
  rotate_left
  ·simp only [putAll,Act.put,List.setIfInBounds_toArray,List.set_cons_zero,List.set_cons_succ]
   rfl
  refine oA 7 10 HT_ (fun K hK=>?_);refine Kd.R_append_rows_step k161 (w0:=w) w.heap.size (by rfl) (.tmp 7) (.tmp 9) 36 161 (.agg #[(.string ⟨#[]⟩),(.string ⟨#[]⟩),(.int .i64 0),(.string ⟨#[]⟩),(.int .i64 0),(.int .i64 0),(.int .i64 0),(.int .i64 0)]) 88 rfl Tryz.underlying36 info161 rfl (by decide) (by omega) v29 y20 l0_1 _ _ _ (fun _=>True) (fun _=>False) rfl rfl ?aO ?aR (fun _ _ h=>h) (fun _ h=>h.elim) ?aF ?aB ?aS ?aL ?_
  (case aR=>repeat (first|exact (Kd.C_below HR0_1.out HB.out)|(with_reducible refine Kd.C_alloc ?_ _)|(with_reducible refine Kd.C_drewN ?_ _)|(with_reducible refine Kd.C_drew ?_)))
  (case aB=>exact (bs HB))
  (case aF=>exact (fun _ _=>trivial))
  (case aO=>exact (rs HO21))
  (case aS=>exact (below_size (bs HB)))
  (case aL=>have:=LMc3.out;omega)
  intro v32 w13 ho hb hg hat
  rw [← Ny27.out] at ho
  have n0_:=am (blk_grown (ks BK18) hg (Kd.R_ne HO21.out BK18.out (by decide)));have n1_:=am (blk_grown (ks BK19) hg (Kd.R_ne HO21.out BK19.out (by decide)));have n2_:=am (Kd.R_over' (rs HO26) (Kd.R_typed (rs HO21)) (by decide) hg);have n3_:=am (hb);have n4_:=am (ho);clear BK18;clear BK19;clear HO26;clear HB;clear HO21;have BK18:=n0_;have BK19:=n1_;have HO26:=n2_;have HB:=n3_;have HO31:=n4_;clear n0_ n1_ n2_ n3_ n4_;clear ho hb hg hat;obtain ⟨Ao14,co14,eo14⟩:=Kd.R_slice HO31.out
  (first|subst eo14|(injection eo14 with f1_ f2_ f3_;have f4_:=f1_.symm;have f5_:=f3_.symm;clear f1_ f2_ f3_;subst f4_;subst f5_))
  obtain ⟨Ao15,co15,eo15⟩:=Kd.R_slice HO26.out
  (first|subst eo15|(injection eo15 with f1_ f2_ f3_;have f4_:=f1_.symm;have f5_:=f3_.symm;clear f1_ f2_ f3_;subst f4_;subst f5_))
  refine hK.out _ _ (hb2 BK18).out (fun hHeld=>?_);clear hK K;refine nA 10 ?_;refine pz1 8 ?_;refine one_ (i:=9) (N:=none) #[true,true,true,true,true,true,true,true,true,true] rfl rfl (one_of HT_.out (by kernel_rfl)) (by decide) (fun K hK=>?_);have hs16:w13.cell? ⟨gb19,0,none⟩=some (.slice none 0 0):=(blk_cell BK19.out 0).trans rfl;have hfs16:=blk_frozen BK19.out 0;have hns16_0:=NB18_19.out;have hms16_0:=NB19_18.out;have hs17:w13.cell? ⟨gb19,1,none⟩=some (.slice none 0 0):=(blk_cell BK19.out 1).trans rfl;have hfs17:=blk_frozen BK19.out 1;have hns17_0:=NB18_19.out;have hms17_0:=NB19_18.out;refine skip_ (w1:=?_) (by rfl) rfl ?_ ?_
  rotate_left
  ·go_simp
   rfl
  refine hK.out _ _ ⟨((cell_far (p:=⟨gb19,_,none⟩) NB18_19.out _).trans (((cell_far (p:=⟨gb19,_,none⟩) NB18_19.out _).trans (hHeld.1)))),((cell_far (p:=⟨gb19,_,none⟩) NB18_19.out _).trans (((cell_far (p:=⟨gb19,_,none⟩) NB18_19.out _).trans (hHeld.2))))⟩ (fun hHeld=>?_);clear hK K;refine done_ (done_of HT_.out (by kernel_rfl)) ?_
  try go_wp2
  refine bodyPost_ret (results_cell_row rfl _ _ gb19 38 #[.slice Ao15 y25.length co15,.slice Ao14 y27.length co14] (0,0) _ rfl (kp BK19) Tryz.underlying38 rfl (by kernel_rfl)) rfl ?_
  exact ⟨_,_,ff,Kd.R_mono (rf (Kd.R_types HO26.out BK19.out (by decide))) (fun _ hk=>trivial),Kd.R_mono (rf (Kd.R_types HO31.out BK19.out (by decide))) (fun _ hk=>trivial),bs HB⟩
 ·intro c2 H
  exact absurd H (by simp)
end Go.Proofs.YtomoflpgdbjojaaGreat.QO
