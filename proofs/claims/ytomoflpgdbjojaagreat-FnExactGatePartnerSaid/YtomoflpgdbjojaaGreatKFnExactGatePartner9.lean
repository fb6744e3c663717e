-- Merged by a program of this session (wip/tool/pack.py) out of its own texts for this claim.
import Derived.Test.YtomoflpgdbjojaaGreatKFnExactGatePartner8
set_option maxHeartbeats 8000000
set_option maxRecDepth 100000
set_option linter.unusedSimpArgs false
set_option linter.unusedVariables false
namespace Go.Proofs.YtomoflpgdbjojaaGreat.QO
open Go.RowKit Go.Proofs.YtomoflpgdbjojaaGreatW.PrintWords Go.Proofs.YtomoflpgdbjojaaGreatW.PrintLast Go.Proofs.YtomoflpgdbjojaaGreatW.PrintMore
attribute [local go_sem] max2_int min2_int max_two min_two max_three min_three max_four min_four   -- for this text's walks alone
theorem spec_LineRight.calls (k:Nat) (a0_0:ByteArray) (a0_1:ByteArray) (a0_2:Int) (a0_3:ByteArray) (a0_4:Int) (a0_5:Int) (a0_6:Int) (a0_7:Int) (r:Bool) (w:World) (H:spec_LineRight.f k a0_0 a0_1 a0_2 a0_3 a0_4 a0_5 a0_6 a0_7=some r) :
  Calls Tryz.prog 141 #[.agg #[.string a0_0,.string a0_1,.int .i64 a0_2,.string a0_3,.int .i64 a0_4,.int .i64 a0_5,.int .i64 a0_6,.int .i64 a0_7]] w fun e w'=>e=.returned (.bool r)∧Below w.heap.size w w':=by
 have hu161:=Tryz.underlying161;have HB:=am (Below.refl w.heap.size w);unfold spec_LineRight.f at H;replace H:=bo H;obtain ⟨t16,A2,H⟩:=H
 go_in
 try go_wp2_with (first|((with_reducible refine gate_dst (N:=1) rfl ?_);refine bz 1 (cs:=#[.string a0_0,.string a0_1,.int .i64 a0_2,.string a0_3,.int .i64 a0_4,.int .i64 a0_5,.int .i64 a0_6,.int .i64 a0_7]) (t:=161) HB ?_;clear HB;intro gb11 hg w3 BK11 GW11 hb HB;clear hb hg;have hcz4:=cf8 BK11))
 go_at_call 48;(with_reducible refine (spec_l01Name.calls k a0_0 t16 _ A2.out).mono ?_);rintro e w' ⟨rfl,⟨nd,rfl⟩⟩
 obtain rfl|rfl:=bt t16
 ·replace H:=itT H;replace H:=bo H;obtain ⟨t30,A6,H⟩:=H;have hcz7:=cf8 BK11
  try go_wp2_with (fail)
  go_at_call 48;(with_reducible refine (spec_l01Name.calls k a0_1 t30 _ A6.out).mono ?_);rintro e w' ⟨rfl,⟨nd,rfl⟩⟩
  obtain rfl|rfl:=bt t30
  ·replace H:=itT H;replace H:=bo H;obtain ⟨t31,A9,H⟩:=H;have hcz10:=cf8 BK11
   try go_wp2_with (fail)
   go_at_call 48;(with_reducible refine (spec_l01Name.calls k a0_3 t31 _ A9.out).mono ?_);rintro e w' ⟨rfl,⟨nd,rfl⟩⟩
   obtain rfl|rfl:=bt t31
   ·replace H:=itT H
    revert H;refine ip2 ?_ ?_
    ·intro c12 H;have c12b0:decide (1≤a0_2)=true:=decide_eq_true c12;clear c12
     revert H;refine id2 ?_ ?_
     ·intro c13b0 H;replace H:=bo H;obtain ⟨t32,A14,H⟩:=H;have hcz15:=cf8 BK11
      try go_wp2_with (fail)
      go_at_call 154;(with_reducible refine (spec_l01Qty.calls a0_4 t32 _ A14.out).mono ?_);rintro e w' ⟨rfl,⟨nd,rfl⟩⟩
      obtain rfl|rfl:=bt t32
      ·replace H:=itT H
       revert H;refine ip2 ?_ ?_
       ·intro c17 H;have c17b0:decide (0≤a0_5)=true:=decide_eq_true c17;clear c17
        revert H;refine ip2 ?_ ?_
        ·intro c18 H;have c18b0:decide (0≤a0_6)=true:=decide_eq_true c18;clear c18
         revert H;refine ip2 ?_ ?_
         ·intro c19 H;have c19b0:decide (0≤a0_7)=true:=decide_eq_true c19;clear c19
          revert H;refine id2 ?_ ?_
          ·intro c20b0 H
           revert H;refine id2 ?_ ?_
           ·intro c21b0 H;obtain rfl:=si H;have hcz22:=cf8 BK11
            go_wp2
            go_ret
            exact ⟨ff,bs HB⟩
           ·intro c21b0 H;obtain rfl:=si H;have hcz23:=cf8 BK11
            go_wp2
            go_ret
            exact ⟨ff,bs HB⟩
          ·intro c20b0 H;obtain rfl:=si H;have hcz24:=cf8 BK11
           go_wp2
           go_ret
           exact ⟨ff,bs HB⟩
         ·intro c19 H;have c19b0:decide (0≤a0_7)=false:=decide_eq_false c19;clear c19;obtain rfl:=si H;have hcz25:=cf8 BK11
          go_wp2
          go_ret
          exact ⟨ff,bs HB⟩
        ·intro c18 H;have c18b0:decide (0≤a0_6)=false:=decide_eq_false c18;clear c18;obtain rfl:=si H;have hcz26:=cf8 BK11
         go_wp2
         go_ret
         exact ⟨ff,bs HB⟩
       ·intro c17 H;have c17b0:decide (0≤a0_5)=false:=decide_eq_false c17;clear c17;obtain rfl:=si H;have hcz27:=cf8 BK11
        go_wp2
        go_ret
        exact ⟨ff,bs HB⟩
      ·replace H:=itF H;obtain rfl:=si H
       go_wp2
       go_ret
       exact ⟨ff,bs HB⟩
     ·intro c13b0 H;obtain rfl:=si H;have hcz28:=cf8 BK11
      go_wp2
      go_ret
      exact ⟨ff,bs HB⟩
    ·intro c12 H;have c12b0:decide (1≤a0_2)=false:=decide_eq_false c12;clear c12;obtain rfl:=si H;have hcz29:=cf8 BK11
     go_wp2
     go_ret
     exact ⟨ff,bs HB⟩
   ·replace H:=itF H;obtain rfl:=si H
    go_wp2
    go_ret
    exact ⟨ff,bs HB⟩
  ·replace H:=itF H;obtain rfl:=si H
   go_wp2
   go_ret
   exact ⟨ff,bs HB⟩
 ·replace H:=itF H;obtain rfl:=si H
  go_wp2
  go_ret
  exact ⟨ff,bs HB⟩
theorem spec_l09Before.calls (a0_0:ByteArray) (a0_1:ByteArray) (a0_2:Int) (a0_3:ByteArray) (a0_4:Int) (a0_5:Int) (a0_6:Int) (a0_7:Int) (a1_0:ByteArray) (a1_1:ByteArray) (a1_2:Int) (a1_3:ByteArray) (a1_4:Int) (a1_5:Int) (a1_6:Int) (a1_7:Int) (r:Bool) (w:World) (H:spec_l09Before.f a0_0 a0_1 a0_2 a0_3 a0_4 a0_5 a0_6 a0_7 a1_0 a1_1 a1_2 a1_3 a1_4 a1_5 a1_6 a1_7=some r) :
  Calls Tryz.prog 142 #[.agg #[.string a0_0,.string a0_1,.int .i64 a0_2,.string a0_3,.int .i64 a0_4,.int .i64 a0_5,.int .i64 a0_6,.int .i64 a0_7],.agg #[.string a1_0,.string a1_1,.int .i64 a1_2,.string a1_3,.int .i64 a1_4,.int .i64 a1_5,.int .i64 a1_6,.int .i64 a1_7]] w fun e w'=>e=.returned (.bool r)∧Below w.heap.size w w':=by
 have hu161:=Tryz.underlying161;have HB:=am (Below.refl w.heap.size w);unfold spec_l09Before.f at H
 revert H;refine ie2 ?_ ?_
 ·intro c3b0 c3b1 H
  revert H;refine ie2 ?_ ?_
  ·intro c4b0 c4b1 H;obtain rfl:=si H
   go_in
   go_wp2_with (first|((with_reducible refine gate_dst (N:=2) rfl ?_);refine bz 2 (cs:=#[.string a0_0,.string a0_1,.int .i64 a0_2,.string a0_3,.int .i64 a0_4,.int .i64 a0_5,.int .i64 a0_6,.int .i64 a0_7]) (t:=161) HB ?_;clear HB;intro gb20 hg w5 BK20 GW20 hb HB;clear hb hg)|((with_reducible refine gate_dst (N:=3) rfl ?_);refine bz 3 (cs:=#[.string a1_0,.string a1_1,.int .i64 a1_2,.string a1_3,.int .i64 a1_4,.int .i64 a1_5,.int .i64 a1_6,.int .i64 a1_7]) (t:=161) HB ?_;clear HB;intro gb21 hg w6 BK21 GW21 hb HB;have NB20_21:=na hg BK20;have NB21_20:=nc hg BK20;replace BK20:=bb BK20 hb;clear hb hg;have hnb7:=NB20_21.out;have hnc7:=NB21_20.out;have hcz8:=cf8 BK20;have hcz9:=cf8 BK21))
   go_ret
   exact ⟨ff,bs HB⟩
  ·intro c4 c4b0 c4b1 H;obtain rfl:=si H
   go_in
   go_wp2_with (first|((with_reducible refine gate_dst (N:=2) rfl ?_);refine bz 2 (cs:=#[.string a0_0,.string a0_1,.int .i64 a0_2,.string a0_3,.int .i64 a0_4,.int .i64 a0_5,.int .i64 a0_6,.int .i64 a0_7]) (t:=161) HB ?_;clear HB;intro gb20 hg w10 BK20 GW20 hb HB;clear hb hg)|((with_reducible refine gate_dst (N:=3) rfl ?_);refine bz 3 (cs:=#[.string a1_0,.string a1_1,.int .i64 a1_2,.string a1_3,.int .i64 a1_4,.int .i64 a1_5,.int .i64 a1_6,.int .i64 a1_7]) (t:=161) HB ?_;clear HB;intro gb21 hg w11 BK21 GW21 hb HB;have NB20_21:=na hg BK20;have NB21_20:=nc hg BK20;replace BK20:=bb BK20 hb;clear hb hg;have hnb12:=NB20_21.out;have hnc12:=NB21_20.out;have hcz13:=cf8 BK20;have hcz14:=cf8 BK21))
   go_ret
   exact ⟨ff,bs HB⟩
 ·intro c3 c3b0 c3b1 H;obtain rfl:=si H
  go_in
  go_wp2_with (first|((with_reducible refine gate_dst (N:=2) rfl ?_);refine bz 2 (cs:=#[.string a0_0,.string a0_1,.int .i64 a0_2,.string a0_3,.int .i64 a0_4,.int .i64 a0_5,.int .i64 a0_6,.int .i64 a0_7]) (t:=161) HB ?_;clear HB;intro gb20 hg w15 BK20 GW20 hb HB;clear hb hg)|((with_reducible refine gate_dst (N:=3) rfl ?_);refine bz 3 (cs:=#[.string a1_0,.string a1_1,.int .i64 a1_2,.string a1_3,.int .i64 a1_4,.int .i64 a1_5,.int .i64 a1_6,.int .i64 a1_7]) (t:=161) HB ?_;clear HB;intro gb21 hg w16 BK21 GW21 hb HB;have NB20_21:=na hg BK20;have NB21_20:=nc hg BK20;replace BK20:=bb BK20 hb;clear hb hg;have hnb17:=NB20_21.out;have hnc17:=NB21_20.out;have hcz18:=cf8 BK20;have hcz19:=cf8 BK21))
  go_ret
  exact ⟨ff,bs HB⟩
def spec_LinesRight.T6:Bool × List (List Nat × List Nat):=(true,[([],[]),([],[]),([0,1],[0,1]),([2],[2]),([3],[3]),([4],[4]),([5,4],[5]),([6],[6]),([7,6],[6,7]),([8,6,6],[6,8]),([9],[9]),([9],[9]),([11,9],[9,11]),([10,12,9],[9,10,12]),([13,9],[9,13]),([9],[9]),([9],[9]),([15,16,9],[9,15,16]),([17,9],[9,17]),([14,18,9,9],[9,14,18]),([19,9],[9,19]),([9,20,6],[6,9,20]),([6,21],[6,21])])
def spec_LinesRight.B6:List Nat:=[0,0,3,7,15,31,63,127,255,511,1023,1023,3071,8191,16383,1023,1023,99327,230399,524287,1048575,2097151,4194303]
theorem spec_LinesRight.tab6:rtab .any (opsOf Tryz.f115 6)=spec_LinesRight.T6:=by kernel_rfl
theorem spec_LinesRight.bits6:waitsOk spec_LinesRight.T6.2 spec_LinesRight.B6=true:=by kernel_rfl
theorem spec_LinesRight.calls (k:Nat) (A0:Option Addr) (c0:Nat) (l0:List (S161)) (r:Bool) (w:World) (hr0:Kd.C k161 w A0 l0.length l0) (hc0:l0.length≤c0) (H:spec_LinesRight.f k l0=some r) :
  Calls Tryz.prog 115 #[.slice A0 l0.length c0] w fun e w'=>e=.returned (.bool r)∧Below w.heap.size w w':=by
 have hu161:=Tryz.underlying161;have HR0:=am hr0;have HC0:=am hc0;clear hr0 hc0;have HB:=am (Below.refl w.heap.size w);unfold spec_LinesRight.f at H
 revert H;refine ip2 ?_ ?_
 ·intro c2 H;have c2b0:decide (200<(l0.length:Int))=true:=decide_eq_true c2;have c2b1:decide (200<l0.length)=true:=decide_eq_true (by omega);clear c2;obtain rfl:=si H
  go_in
  go_wp2
  go_ret
  exact ⟨ff,bs HB⟩
 ·intro c2 H;have c2b0:decide (200<(l0.length:Int))=false:=decide_eq_false c2;have c2b1:decide (200<l0.length)=false:=decide_eq_false (by omega);clear c2;have H':=am H;clear H
  go_in
  go_wp2
  go_loopg [3] k (fun kq v3 w'=>∃ (x3_1:Int),v3=.int .i64 x3_1∧Aside0 (spec_LinesRight.l0 kq l0 x3_1=some r)∧Aside0 (kq≤k)∧Aside0 (Below w.heap.size w w'))
  case atStart=>exact ⟨(0),fg,H',⟨Nat.le_refl _⟩,⟨bs HB⟩⟩
  case round =>
   clear H'
   try clear c2
   try clear c2b0
   try clear c2b1
   obtain ⟨x3_1,rfl,HA,HK1,HB⟩:=hrel
   cases gk with
   | zero=>exact absurd HA.out (by simp [spec_LinesRight.l0])
   | succ k1 =>
    have H:=HA.out;clear HA;simp only [spec_LinesRight.l0] at H
    revert H;refine id2 ?_ ?_
    ·intro c3b0 H
     revert H;refine id1 ?_
     intro c4b0 H;replace H:=bo H;obtain ⟨t40,A5,H⟩:=H
     obtain rfl|rfl:=bt t40
     ·replace H:=itT H
      revert H;refine ip2 ?_ ?_
      ·intro c7 H;have c7b0:decide (0<x3_1)=true:=decide_eq_true c7;clear c7;obtain ⟨ji8,hji8⟩:∃ j_:Int,(wrap64 (x3_1 - 1))=j_:=⟨_,rfl⟩
       replace H:(if 0≤(ji8) then (if (ji8)<(l0.length:Int) then ((spec_l09Before.f ((rd_T161 l0 (ji8)).f0) ((rd_T161 l0 (ji8)).f1) ((rd_T161 l0 (ji8)).f2) ((rd_T161 l0 (ji8)).f3) ((rd_T161 l0 (ji8)).f4) ((rd_T161 l0 (ji8)).f5) ((rd_T161 l0 (ji8)).f6) ((rd_T161 l0 (ji8)).f7) ((rd_T161 l0 x3_1).f0) ((rd_T161 l0 x3_1).f1) ((rd_T161 l0 x3_1).f2) ((rd_T161 l0 x3_1).f3) ((rd_T161 l0 x3_1).f4) ((rd_T161 l0 x3_1).f5) ((rd_T161 l0 x3_1).f6) ((rd_T161 l0 x3_1).f7)).bind fun t39=>(if t39=true then (spec_LinesRight.l0 k1 l0 (wrap64 (x3_1+1))) else (some false))) else (none)) else (none))=some r:=by first|(rw [hji8] at H;exact H)|(simp only [hji8] at H ⊢;exact H)
       (try rw [hji8] at A5)
       have hji8w:(IntKind.i64.wrap (x3_1 - 1))=ji8:=(i64_w _).trans hji8
       revert H;refine id1 ?_
       intro c9b0 H
       revert H;refine id1 ?_
       intro c10b0 H;replace H:=bo H;obtain ⟨t39,A11,H⟩:=H
       obtain rfl|rfl:=bt t39
       ·replace H:=itT H;have H':=am H;clear H
        try go_wp2
        replace HB:=am (below_drew1 HB.out);have p36:0≤(x3_1:Int):=oa;have q36:x3_1<(l0.length:Int):=oa;obtain ⟨ad36,e36,hx36_0,hx36_1,hx36_2,hx36_3,hx36_4,hx36_5,hx36_6,hx36_7⟩:=at_T161 HR0.out x3_1 p36 q36;have hw36_7:=hx36_7;have hw36_6:=hx36_6;have hw36_5:=hx36_5;have hw36_4:=hx36_4;have hw36_3:=hx36_3;have hw36_2:=hx36_2;have hw36_1:=hx36_1;have hw36_0:=hx36_0
        cases e36
        replace hx36_0:=cb HB hx36_0;replace hx36_1:=cb HB hx36_1;replace hx36_2:=cb HB hx36_2;replace hx36_3:=cb HB hx36_3;replace hx36_4:=cb HB hx36_4;replace hx36_5:=cb HB hx36_5;replace hx36_6:=cb HB hx36_6;replace hx36_7:=cb HB hx36_7;replace p36:=eq_true p36;replace q36:=eq_true q36;have p37:0≤((ji8):Int):=oa;have q37:(ji8)<(l0.length:Int):=oa;obtain ⟨ad37,e37,hx37_0,hx37_1,hx37_2,hx37_3,hx37_4,hx37_5,hx37_6,hx37_7⟩:=at_T161 HR0.out (ji8) p37 q37;have hw37_7:=hx37_7;have hw37_6:=hx37_6;have hw37_5:=hx37_5;have hw37_4:=hx37_4;have hw37_3:=hx37_3;have hw37_2:=hx37_2;have hw37_1:=hx37_1;have hw37_0:=hx37_0;obtain rfl:ad36=ad37:=(by injection e37);replace hx37_0:=cb HB hx37_0;replace hx37_1:=cb HB hx37_1;replace hx37_2:=cb HB hx37_2;replace hx37_3:=cb HB hx37_3;replace hx37_4:=cb HB hx37_4;replace hx37_5:=cb HB hx37_5;replace hx37_6:=cb HB hx37_6;replace hx37_7:=cb HB hx37_7;replace p37:=eq_true p37;replace q37:=eq_true q37;have p38:0≤(x3_1:Int):=oa;have q38:x3_1<(l0.length:Int):=oa;obtain ⟨ad38,e38,hx38_0,hx38_1,hx38_2,hx38_3,hx38_4,hx38_5,hx38_6,hx38_7⟩:=at_T161 HR0.out x3_1 p38 q38;have hw38_7:=hx38_7;have hw38_6:=hx38_6;have hw38_5:=hx38_5;have hw38_4:=hx38_4;have hw38_3:=hx38_3;have hw38_2:=hx38_2;have hw38_1:=hx38_1;have hw38_0:=hx38_0;obtain rfl:ad36=ad38:=(by injection e38);replace hx38_0:=cb HB hx38_0;replace hx38_1:=cb HB hx38_1;replace hx38_2:=cb HB hx38_2;replace hx38_3:=cb HB hx38_3;replace hx38_4:=cb HB hx38_4;replace hx38_5:=cb HB hx38_5;replace hx38_6:=cb HB hx38_6;replace hx38_7:=cb HB hx38_7;replace p38:=eq_true p38;replace q38:=eq_true q38;refine sta 23 (hca (cb HB hw36_0) (hca (cb HB hw36_1) (hca (cb HB hw36_2) (hca (cb HB hw36_3) (hca (cb HB hw36_4) (hca (cb HB hw36_5) (hca (cb HB hw36_6) (hca (cb HB hw36_7) (hca (cb HB hw37_0) (hca (cb HB hw37_1) (hca (cb HB hw37_2) (hca (cb HB hw37_3) (hca (cb HB hw37_4) (hca (cb HB hw37_5) (hca (cb HB hw37_6) (hca (cb HB hw37_7) (hca (cb HB hw38_0) (hca (cb HB hw38_1) (hca (cb HB hw38_2) (hca (cb HB hw38_3) (hca (cb HB hw38_4) (hca (cb HB hw38_5) (hca (cb HB hw38_6) (hc (cb HB hw38_7))))))))))))))))))))))))) (fun hHeld=>?_);refine with_tabW spec_LinesRight.tab6 spec_LinesRight.bits6 (fun HT_ HW_=>?_)
        generalize wr.drew=w13 at HB hx36_0 hx36_1 hx36_2 hx36_3 hx36_4 hx36_5 hx36_6 hx36_7 hx37_0 hx37_1 hx37_2 hx37_3 hx37_4 hx37_5 hx37_6 hx37_7 hx38_0 hx38_1 hx38_2 hx38_3 hx38_4 hx38_5 hx38_6 hx38_7 hHeld ⊢
        refine pz3 0 ?_;refine ta 3 ?_;refine oA 4 17 HT_ (fun K hK=>?_);refine gA Tryz.func141 #[.agg #[.string ((rd_T161 l0 x3_1).f0),.string ((rd_T161 l0 x3_1).f1),.int .i64 ((rd_T161 l0 x3_1).f2),.string ((rd_T161 l0 x3_1).f3),.int .i64 ((rd_T161 l0 x3_1).f4),.int .i64 ((rd_T161 l0 x3_1).f5),.int .i64 ((rd_T161 l0 x3_1).f6),.int .i64 ((rd_T161 l0 x3_1).f7)]] ?_;(with_reducible refine (spec_LineRight.calls k1 ((rd_T161 l0 x3_1).f0) ((rd_T161 l0 x3_1).f1) ((rd_T161 l0 x3_1).f2) ((rd_T161 l0 x3_1).f3) ((rd_T161 l0 x3_1).f4) ((rd_T161 l0 x3_1).f5) ((rd_T161 l0 x3_1).f6) ((rd_T161 l0 x3_1).f7) true _ A5.out).mono ?_);rintro e w14 ⟨rfl,hb⟩;refine ⟨_,rfl,?_⟩;replace HB:=bq HB hb;(try clear hb);(try clear hb2);(try clear hk);(try clear hi);refine hK.out _ _ (hca (cb HB hw36_0) (hca (cb HB hw36_1) (hca (cb HB hw36_2) (hca (cb HB hw36_3) (hca (cb HB hw36_4) (hca (cb HB hw36_5) (hca (cb HB hw36_6) (hca (cb HB hw36_7) (hca (cb HB hw37_0) (hca (cb HB hw37_1) (hca (cb HB hw37_2) (hca (cb HB hw37_3) (hca (cb HB hw37_4) (hca (cb HB hw37_5) (hca (cb HB hw37_6) (hca (cb HB hw37_7) (hca (cb HB hw38_0) (hca (cb HB hw38_1) (hca (cb HB hw38_2) (hca (cb HB hw38_3) (hca (cb HB hw38_4) (hca (cb HB hw38_5) (hca (cb HB hw38_6) (hc (cb HB hw38_7))))))))))))))))))))))))).out (fun hHeld=>?_);clear hK K;refine nA 17 ?_;refine pz8 5 ?_;refine pz1 13 ?_;refine pz3 15 ?_;refine ta 14 ?_;refine ta 18 ?_;refine oA 19 32 HT_ (fun K hK=>?_);refine goes_ Tryz.func142 (by kernel_rfl) rfl #[.agg #[.string ((rd_T161 l0 (ji8)).f0),.string ((rd_T161 l0 (ji8)).f1),.int .i64 ((rd_T161 l0 (ji8)).f2),.string ((rd_T161 l0 (ji8)).f3),.int .i64 ((rd_T161 l0 (ji8)).f4),.int .i64 ((rd_T161 l0 (ji8)).f5),.int .i64 ((rd_T161 l0 (ji8)).f6),.int .i64 ((rd_T161 l0 (ji8)).f7)],.agg #[.string ((rd_T161 l0 x3_1).f0),.string ((rd_T161 l0 x3_1).f1),.int .i64 ((rd_T161 l0 x3_1).f2),.string ((rd_T161 l0 x3_1).f3),.int .i64 ((rd_T161 l0 x3_1).f4),.int .i64 ((rd_T161 l0 x3_1).f5),.int .i64 ((rd_T161 l0 x3_1).f6),.int .i64 ((rd_T161 l0 x3_1).f7)]] (by rfl) rfl rfl (by (try simp only [List.map_toArray,List.map_cons,List.map_nil]);first|done|(simp only [hji8];rfl)|rfl|(simp only [List.length_drop,List.length_take];rfl)) ?_;(with_reducible refine (spec_l09Before.calls ((rd_T161 l0 (ji8)).f0) ((rd_T161 l0 (ji8)).f1) ((rd_T161 l0 (ji8)).f2) ((rd_T161 l0 (ji8)).f3) ((rd_T161 l0 (ji8)).f4) ((rd_T161 l0 (ji8)).f5) ((rd_T161 l0 (ji8)).f6) ((rd_T161 l0 (ji8)).f7) ((rd_T161 l0 x3_1).f0) ((rd_T161 l0 x3_1).f1) ((rd_T161 l0 x3_1).f2) ((rd_T161 l0 x3_1).f3) ((rd_T161 l0 x3_1).f4) ((rd_T161 l0 x3_1).f5) ((rd_T161 l0 x3_1).f6) ((rd_T161 l0 x3_1).f7) true _ A11.out).mono ?_);rintro e w15 ⟨rfl,hb⟩;refine ⟨_,rfl,?_⟩;replace HB:=bq HB hb;(try clear hb);(try clear hb2);(try clear hk);(try clear hi);refine hK.out _ _ (hca (cb HB hw36_0) (hca (cb HB hw36_1) (hca (cb HB hw36_2) (hca (cb HB hw36_3) (hca (cb HB hw36_4) (hca (cb HB hw36_5) (hca (cb HB hw36_6) (hca (cb HB hw36_7) (hca (cb HB hw37_0) (hca (cb HB hw37_1) (hca (cb HB hw37_2) (hca (cb HB hw37_3) (hca (cb HB hw37_4) (hca (cb HB hw37_5) (hca (cb HB hw37_6) (hca (cb HB hw37_7) (hca (cb HB hw38_0) (hca (cb HB hw38_1) (hca (cb HB hw38_2) (hca (cb HB hw38_3) (hca (cb HB hw38_4) (hca (cb HB hw38_5) (hca (cb HB hw38_6) (hc (cb HB hw38_7))))))))))))))))))))))))).out (fun hHeld=>?_);clear hK K;refine nA 32 ?_;refine pz3 20 ?_;refine done_ (done_of HT_.out (by kernel_rfl)) ?_
        try go_wp2
        go_roundg k1
        case measure=>have:=HK1.out;omega
        case rel=>exact ⟨(wrap64 (x3_1+1)),fg,H',⟨by have:=HK1.out;omega⟩,⟨bs HB⟩⟩
       ·replace H:=itF H;obtain rfl:=si H
        try go_wp2
        replace HB:=am (below_drew1 HB.out);have p36:0≤(x3_1:Int):=oa;have q36:x3_1<(l0.length:Int):=oa;obtain ⟨ad36,e36,hx36_0,hx36_1,hx36_2,hx36_3,hx36_4,hx36_5,hx36_6,hx36_7⟩:=at_T161 HR0.out x3_1 p36 q36;have hw36_7:=hx36_7;have hw36_6:=hx36_6;have hw36_5:=hx36_5;have hw36_4:=hx36_4;have hw36_3:=hx36_3;have hw36_2:=hx36_2;have hw36_1:=hx36_1;have hw36_0:=hx36_0
        cases e36
        replace hx36_0:=cb HB hx36_0;replace hx36_1:=cb HB hx36_1;replace hx36_2:=cb HB hx36_2;replace hx36_3:=cb HB hx36_3;replace hx36_4:=cb HB hx36_4;replace hx36_5:=cb HB hx36_5;replace hx36_6:=cb HB hx36_6;replace hx36_7:=cb HB hx36_7;replace p36:=eq_true p36;replace q36:=eq_true q36;have p37:0≤((ji8):Int):=oa;have q37:(ji8)<(l0.length:Int):=oa;obtain ⟨ad37,e37,hx37_0,hx37_1,hx37_2,hx37_3,hx37_4,hx37_5,hx37_6,hx37_7⟩:=at_T161 HR0.out (ji8) p37 q37;have hw37_7:=hx37_7;have hw37_6:=hx37_6;have hw37_5:=hx37_5;have hw37_4:=hx37_4;have hw37_3:=hx37_3;have hw37_2:=hx37_2;have hw37_1:=hx37_1;have hw37_0:=hx37_0;obtain rfl:ad36=ad37:=(by injection e37);replace hx37_0:=cb HB hx37_0;replace hx37_1:=cb HB hx37_1;replace hx37_2:=cb HB hx37_2;replace hx37_3:=cb HB hx37_3;replace hx37_4:=cb HB hx37_4;replace hx37_5:=cb HB hx37_5;replace hx37_6:=cb HB hx37_6;replace hx37_7:=cb HB hx37_7;replace p37:=eq_true p37;replace q37:=eq_true q37;have p38:0≤(x3_1:Int):=oa;have q38:x3_1<(l0.length:Int):=oa;obtain ⟨ad38,e38,hx38_0,hx38_1,hx38_2,hx38_3,hx38_4,hx38_5,hx38_6,hx38_7⟩:=at_T161 HR0.out x3_1 p38 q38;have hw38_7:=hx38_7;have hw38_6:=hx38_6;have hw38_5:=hx38_5;have hw38_4:=hx38_4;have hw38_3:=hx38_3;have hw38_2:=hx38_2;have hw38_1:=hx38_1;have hw38_0:=hx38_0;obtain rfl:ad36=ad38:=(by injection e38);replace hx38_0:=cb HB hx38_0;replace hx38_1:=cb HB hx38_1;replace hx38_2:=cb HB hx38_2;replace hx38_3:=cb HB hx38_3;replace hx38_4:=cb HB hx38_4;replace hx38_5:=cb HB hx38_5;replace hx38_6:=cb HB hx38_6;replace hx38_7:=cb HB hx38_7;replace p38:=eq_true p38;replace q38:=eq_true q38;refine sta 23 (hca (cb HB hw36_0) (hca (cb HB hw36_1) (hca (cb HB hw36_2) (hca (cb HB hw36_3) (hca (cb HB hw36_4) (hca (cb HB hw36_5) (hca (cb HB hw36_6) (hca (cb HB hw36_7) (hca (cb HB hw37_0) (hca (cb HB hw37_1) (hca (cb HB hw37_2) (hca (cb HB hw37_3) (hca (cb HB hw37_4) (hca (cb HB hw37_5) (hca (cb HB hw37_6) (hca (cb HB hw37_7) (hca (cb HB hw38_0) (hca (cb HB hw38_1) (hca (cb HB hw38_2) (hca (cb HB hw38_3) (hca (cb HB hw38_4) (hca (cb HB hw38_5) (hca (cb HB hw38_6) (hc (cb HB hw38_7))))))))))))))))))))))))) (fun hHeld=>?_);refine with_tabW spec_LinesRight.tab6 spec_LinesRight.bits6 (fun HT_ HW_=>?_)
        generalize wr.drew=w16 at HB hx36_0 hx36_1 hx36_2 hx36_3 hx36_4 hx36_5 hx36_6 hx36_7 hx37_0 hx37_1 hx37_2 hx37_3 hx37_4 hx37_5 hx37_6 hx37_7 hx38_0 hx38_1 hx38_2 hx38_3 hx38_4 hx38_5 hx38_6 hx38_7 hHeld ⊢
        refine pz3 0 ?_;refine ta 3 ?_;refine oA 4 17 HT_ (fun K hK=>?_);refine gA Tryz.func141 #[.agg #[.string ((rd_T161 l0 x3_1).f0),.string ((rd_T161 l0 x3_1).f1),.int .i64 ((rd_T161 l0 x3_1).f2),.string ((rd_T161 l0 x3_1).f3),.int .i64 ((rd_T161 l0 x3_1).f4),.int .i64 ((rd_T161 l0 x3_1).f5),.int .i64 ((rd_T161 l0 x3_1).f6),.int .i64 ((rd_T161 l0 x3_1).f7)]] ?_;(with_reducible refine (spec_LineRight.calls k1 ((rd_T161 l0 x3_1).f0) ((rd_T161 l0 x3_1).f1) ((rd_T161 l0 x3_1).f2) ((rd_T161 l0 x3_1).f3) ((rd_T161 l0 x3_1).f4) ((rd_T161 l0 x3_1).f5) ((rd_T161 l0 x3_1).f6) ((rd_T161 l0 x3_1).f7) true _ A5.out).mono ?_);rintro e w17 ⟨rfl,hb⟩;refine ⟨_,rfl,?_⟩;replace HB:=bq HB hb;(try clear hb);(try clear hb2);(try clear hk);(try clear hi);refine hK.out _ _ (hca (cb HB hw36_0) (hca (cb HB hw36_1) (hca (cb HB hw36_2) (hca (cb HB hw36_3) (hca (cb HB hw36_4) (hca (cb HB hw36_5) (hca (cb HB hw36_6) (hca (cb HB hw36_7) (hca (cb HB hw37_0) (hca (cb HB hw37_1) (hca (cb HB hw37_2) (hca (cb HB hw37_3) (hca (cb HB hw37_4) (hca (cb HB hw37_5) (hca (cb HB hw37_6) (hca (cb HB hw37_7) (hca (cb HB hw38_0) (hca (cb HB hw38_1) (hca (cb HB hw38_2) (hca (cb HB hw38_3) (hca (cb HB hw38_4) (hca (cb HB hw38_5) (hca (cb HB hw38_6) (hc (cb HB hw38_7))))))))))))))))))))))))).out (fun hHeld=>?_);clear hK K;refine nA 17 ?_;refine pz8 5 ?_;refine pz1 13 ?_;refine pz3 15 ?_;refine ta 14 ?_;refine ta 18 ?_;refine oA 19 32 HT_ (fun K hK=>?_);refine goes_ Tryz.func142 (by kernel_rfl) rfl #[.agg #[.string ((rd_T161 l0 (ji8)).f0),.string ((rd_T161 l0 (ji8)).f1),.int .i64 ((rd_T161 l0 (ji8)).f2),.string ((rd_T161 l0 (ji8)).f3),.int .i64 ((rd_T161 l0 (ji8)).f4),.int .i64 ((rd_T161 l0 (ji8)).f5),.int .i64 ((rd_T161 l0 (ji8)).f6),.int .i64 ((rd_T161 l0 (ji8)).f7)],.agg #[.string ((rd_T161 l0 x3_1).f0),.string ((rd_T161 l0 x3_1).f1),.int .i64 ((rd_T161 l0 x3_1).f2),.string ((rd_T161 l0 x3_1).f3),.int .i64 ((rd_T161 l0 x3_1).f4),.int .i64 ((rd_T161 l0 x3_1).f5),.int .i64 ((rd_T161 l0 x3_1).f6),.int .i64 ((rd_T161 l0 x3_1).f7)]] (by rfl) rfl rfl (by (try simp only [List.map_toArray,List.map_cons,List.map_nil]);first|done|(simp only [hji8];rfl)|rfl|(simp only [List.length_drop,List.length_take];rfl)) ?_;(with_reducible refine (spec_l09Before.calls ((rd_T161 l0 (ji8)).f0) ((rd_T161 l0 (ji8)).f1) ((rd_T161 l0 (ji8)).f2) ((rd_T161 l0 (ji8)).f3) ((rd_T161 l0 (ji8)).f4) ((rd_T161 l0 (ji8)).f5) ((rd_T161 l0 (ji8)).f6) ((rd_T161 l0 (ji8)).f7) ((rd_T161 l0 x3_1).f0) ((rd_T161 l0 x3_1).f1) ((rd_T161 l0 x3_1).f2) ((rd_T161 l0 x3_1).f3) ((rd_T161 l0 x3_1).f4) ((rd_T161 l0 x3_1).f5) ((rd_T161 l0 x3_1).f6) ((rd_T161 l0 x3_1).f7) false _ A11.out).mono ?_);rintro e w18 ⟨rfl,hb⟩;refine ⟨_,rfl,?_⟩;replace HB:=bq HB hb;(try clear hb);(try clear hb2);(try clear hk);(try clear hi);refine hK.out _ _ (hca (cb HB hw36_0) (hca (cb HB hw36_1) (hca (cb HB hw36_2) (hca (cb HB hw36_3) (hca (cb HB hw36_4) (hca (cb HB hw36_5) (hca (cb HB hw36_6) (hca (cb HB hw36_7) (hca (cb HB hw37_0) (hca (cb HB hw37_1) (hca (cb HB hw37_2) (hca (cb HB hw37_3) (hca (cb HB hw37_4) (hca (cb HB hw37_5) (hca (cb HB hw37_6) (hca (cb HB hw37_7) (hca (cb HB hw38_0) (hca (cb HB hw38_1) (hca (cb HB hw38_2) (hca (cb HB hw38_3) (hca (cb HB hw38_4) (hca (cb HB hw38_5) (hca (cb HB hw38_6) (hc (cb HB hw38_7))))))))))))))))))))))))).out (fun hHeld=>?_);clear hK K;refine nA 32 ?_;refine pz3 20 ?_;refine done_ (done_of HT_.out (by kernel_rfl)) ?_
        try go_wp2
        go_ret
        exact ⟨by first|rfl|(simp [errW_none,errW_some] <;> rfl)|(simp only [← hji8];first|rfl|(simp [errW_none,errW_some] <;> rfl))|(simp [*,errW_none,errW_some] <;> rfl),bs HB⟩
      ·intro c7 H;have c7b0:decide (0<x3_1)=false:=decide_eq_false c7;clear c7;have H':=am H;clear H
       try go_wp2
       replace HB:=am (below_drew1 HB.out);have p36:0≤(x3_1:Int):=oa;have q36:x3_1<(l0.length:Int):=oa;obtain ⟨ad36,e36,hx36_0,hx36_1,hx36_2,hx36_3,hx36_4,hx36_5,hx36_6,hx36_7⟩:=at_T161 HR0.out x3_1 p36 q36;have hw36_7:=hx36_7;have hw36_6:=hx36_6;have hw36_5:=hx36_5;have hw36_4:=hx36_4;have hw36_3:=hx36_3;have hw36_2:=hx36_2;have hw36_1:=hx36_1;have hw36_0:=hx36_0
       cases e36
       replace hx36_0:=cb HB hx36_0;replace hx36_1:=cb HB hx36_1;replace hx36_2:=cb HB hx36_2;replace hx36_3:=cb HB hx36_3;replace hx36_4:=cb HB hx36_4;replace hx36_5:=cb HB hx36_5;replace hx36_6:=cb HB hx36_6;replace hx36_7:=cb HB hx36_7;replace p36:=eq_true p36;replace q36:=eq_true q36;refine sta 23 (hca (cb HB hw36_0) (hca (cb HB hw36_1) (hca (cb HB hw36_2) (hca (cb HB hw36_3) (hca (cb HB hw36_4) (hca (cb HB hw36_5) (hca (cb HB hw36_6) (hc (cb HB hw36_7))))))))) (fun hHeld=>?_);refine with_tabW spec_LinesRight.tab6 spec_LinesRight.bits6 (fun HT_ HW_=>?_)
       generalize wr.drew=w19 at HB hx36_0 hx36_1 hx36_2 hx36_3 hx36_4 hx36_5 hx36_6 hx36_7 hHeld ⊢
       refine pz3 0 ?_;refine ta 3 ?_;refine oA 4 17 HT_ (fun K hK=>?_);refine gA Tryz.func141 #[.agg #[.string ((rd_T161 l0 x3_1).f0),.string ((rd_T161 l0 x3_1).f1),.int .i64 ((rd_T161 l0 x3_1).f2),.string ((rd_T161 l0 x3_1).f3),.int .i64 ((rd_T161 l0 x3_1).f4),.int .i64 ((rd_T161 l0 x3_1).f5),.int .i64 ((rd_T161 l0 x3_1).f6),.int .i64 ((rd_T161 l0 x3_1).f7)]] ?_;(with_reducible refine (spec_LineRight.calls k1 ((rd_T161 l0 x3_1).f0) ((rd_T161 l0 x3_1).f1) ((rd_T161 l0 x3_1).f2) ((rd_T161 l0 x3_1).f3) ((rd_T161 l0 x3_1).f4) ((rd_T161 l0 x3_1).f5) ((rd_T161 l0 x3_1).f6) ((rd_T161 l0 x3_1).f7) true _ A5.out).mono ?_);rintro e w20 ⟨rfl,hb⟩;refine ⟨_,rfl,?_⟩;replace HB:=bq HB hb;(try clear hb);(try clear hb2);(try clear hk);(try clear hi);refine hK.out _ _ (hca (cb HB hw36_0) (hca (cb HB hw36_1) (hca (cb HB hw36_2) (hca (cb HB hw36_3) (hca (cb HB hw36_4) (hca (cb HB hw36_5) (hca (cb HB hw36_6) (hc (cb HB hw36_7))))))))).out (fun hHeld=>?_);clear hK K;refine nA 17 ?_;refine pz8 5 ?_;refine pz8 13 ?_;refine pz2 21 ?_;refine done_ (done_of HT_.out (by kernel_rfl)) ?_
       try go_wp2
       go_roundg k1
       case measure=>have:=HK1.out;omega
       case rel=>exact ⟨(wrap64 (x3_1+1)),fg,H',⟨by have:=HK1.out;omega⟩,⟨bs HB⟩⟩
     ·replace H:=itF H;obtain rfl:=si H
      try go_wp2
      replace HB:=am (below_drew1 HB.out);have p36:0≤(x3_1:Int):=oa;have q36:x3_1<(l0.length:Int):=oa;obtain ⟨ad36,e36,hx36_0,hx36_1,hx36_2,hx36_3,hx36_4,hx36_5,hx36_6,hx36_7⟩:=at_T161 HR0.out x3_1 p36 q36;have hw36_7:=hx36_7;have hw36_6:=hx36_6;have hw36_5:=hx36_5;have hw36_4:=hx36_4;have hw36_3:=hx36_3;have hw36_2:=hx36_2;have hw36_1:=hx36_1;have hw36_0:=hx36_0
      cases e36
      replace hx36_0:=cb HB hx36_0;replace hx36_1:=cb HB hx36_1;replace hx36_2:=cb HB hx36_2;replace hx36_3:=cb HB hx36_3;replace hx36_4:=cb HB hx36_4;replace hx36_5:=cb HB hx36_5;replace hx36_6:=cb HB hx36_6;replace hx36_7:=cb HB hx36_7;replace p36:=eq_true p36;replace q36:=eq_true q36;refine sta 23 (hca (cb HB hw36_0) (hca (cb HB hw36_1) (hca (cb HB hw36_2) (hca (cb HB hw36_3) (hca (cb HB hw36_4) (hca (cb HB hw36_5) (hca (cb HB hw36_6) (hc (cb HB hw36_7))))))))) (fun hHeld=>?_);refine with_tabW spec_LinesRight.tab6 spec_LinesRight.bits6 (fun HT_ HW_=>?_)
      generalize wr.drew=w21 at HB hx36_0 hx36_1 hx36_2 hx36_3 hx36_4 hx36_5 hx36_6 hx36_7 hHeld ⊢
      refine pz3 0 ?_;refine ta 3 ?_;refine oA 4 17 HT_ (fun K hK=>?_);refine gA Tryz.func141 #[.agg #[.string ((rd_T161 l0 x3_1).f0),.string ((rd_T161 l0 x3_1).f1),.int .i64 ((rd_T161 l0 x3_1).f2),.string ((rd_T161 l0 x3_1).f3),.int .i64 ((rd_T161 l0 x3_1).f4),.int .i64 ((rd_T161 l0 x3_1).f5),.int .i64 ((rd_T161 l0 x3_1).f6),.int .i64 ((rd_T161 l0 x3_1).f7)]] ?_;(with_reducible refine (spec_LineRight.calls k1 ((rd_T161 l0 x3_1).f0) ((rd_T161 l0 x3_1).f1) ((rd_T161 l0 x3_1).f2) ((rd_T161 l0 x3_1).f3) ((rd_T161 l0 x3_1).f4) ((rd_T161 l0 x3_1).f5) ((rd_T161 l0 x3_1).f6) ((rd_T161 l0 x3_1).f7) false _ A5.out).mono ?_);rintro e w22 ⟨rfl,hb⟩;refine ⟨_,rfl,?_⟩;replace HB:=bq HB hb;(try clear hb);(try clear hb2);(try clear hk);(try clear hi);refine hK.out _ _ (hca (cb HB hw36_0) (hca (cb HB hw36_1) (hca (cb HB hw36_2) (hca (cb HB hw36_3) (hca (cb HB hw36_4) (hca (cb HB hw36_5) (hca (cb HB hw36_6) (hc (cb HB hw36_7))))))))).out (fun hHeld=>?_);clear hK K;refine nA 17 ?_;refine pz8 5 ?_;refine pz8 13 ?_;refine pz2 21 ?_;refine done_ (done_of HT_.out (by kernel_rfl)) ?_
      try go_wp2
      go_ret
      exact ⟨ff,bs HB⟩
    ·intro c3b0 H;obtain rfl:=si H
     go_wp2
     go_ret
     exact ⟨ff,bs HB⟩
def spec_BookRight.T7:Bool × List (List Nat × List Nat):=(true,[([],[]),([0],[0]),([1],[1]),([2],[2]),([3,2],[3]),([4],[4]),([5,4],[4,5]),([6,4],[4,6]),([4,7],[4,7]),([8,4],[8]),([9],[9]),([10,9],[9,10]),([11,9],[9,11]),([9,12],[9,12]),([13,9],[13]),([14],[14]),([15,14],[14,15]),([16,14,14],[14,16]),([17],[17]),([18,17],[17,18]),([17],[17]),([20,17],[17,20]),([17],[17]),([22,17],[17,22]),([21,23,17],[17,21,23]),([24,17],[17,24]),([25,17],[17,25]),([19,26,17],[17,19,26]),([17,27,14],[14,17,27]),([14,28],[14,28])])
def spec_BookRight.B7:List Nat:=[0,1,3,7,15,31,63,127,255,511,1023,2047,4095,8191,16383,32767,65535,131071,262143,524287,262143,1310719,262143,4456447,15990783,32767999,66322431,134217727,268435455,536870911]
theorem spec_BookRight.tab7:rtab .any (opsOf Tryz.f66 7)=spec_BookRight.T7:=by kernel_rfl
theorem spec_BookRight.bits7:waitsOk spec_BookRight.T7.2 spec_BookRight.B7=true:=by kernel_rfl
theorem spec_BookRight.calls (k:Nat) (A0_0:Option Addr) (c0_0:Nat) (l0_0:List (S152)) (A0_1:Option Addr) (c0_1:Nat) (l0_1:List (S161)) (r:Bool) (w:World) (hr0_0:Kd.C k152 w A0_0 l0_0.length l0_0) (hc0_0:l0_0.length≤c0_0) (hr0_1:Kd.C k161 w A0_1 l0_1.length l0_1) (hc0_1:l0_1.length≤c0_1) (H:spec_BookRight.f k l0_0 l0_1=some r) :
  Calls Tryz.prog 66 #[.agg #[.slice A0_0 l0_0.length c0_0,.slice A0_1 l0_1.length c0_1]] w fun e w'=>e=.returned (.bool r)∧Below w.heap.size w w':=by
 have hu38:=Tryz.underlying38;have hu152:=Tryz.underlying152;have HR0_0:=am hr0_0;have HC0_0:=am hc0_0;clear hr0_0 hc0_0;have HR0_1:=am hr0_1;have HC0_1:=am hc0_1;clear hr0_1 hc0_1;have HB:=am (Below.refl w.heap.size w);unfold spec_BookRight.f at H;have HC2:=am H;clear H
 go_in
 go_upto_region 1 with (first|((with_reducible refine gate_dst (N:=1) rfl ?_);refine bz 1 (cs:=#[.slice A0_0 l0_0.length c0_0,.slice A0_1 l0_1.length c0_1]) (t:=38) HB ?_;clear HB;intro gb59 hg w3 BK59 GW59 hb HB;clear hb hg))
 (try simp only [Act.put,List.setIfInBounds_toArray,List.set_cons_zero,List.set_cons_succ])
 go_cut [14] (fun v14 wc=>∃ (kq:Nat) (x14_1:Bool),v14=.bool x14_1∧Aside0 (spec_BookRight.j0 kq x14_1 l0_0 l0_1=some r)∧Aside0 (kq≤k)∧Aside0 (wc.heap[gb59]? = some (.cells #[(.slice A0_0 l0_0.length c0_0),(.slice A0_1 l0_1.length c0_1)] 38 (0,0)))∧Aside0 (Below w.heap.size w wc))
 case first =>
  have H:=HC2.out;clear HC2
  revert H;refine ip2 ?_ ?_
  ·intro c4 H;have c4b0:decide (100<(l0_0.length:Int))=true:=decide_eq_true c4;have c4b1:decide (100<l0_0.length)=true:=decide_eq_true (by omega);clear c4
   (first|rw [c4b0]|(simp only [i64_w,i32_w];rw [c4b0])|rw [c4b1]|skip)
   have H':=am H;clear H;have hcz5:=cf2 BK59
   go_wp2
   go_meet
   case rel=>exact ⟨_,(true),fg,H',⟨fl⟩,⟨ks BK59⟩,⟨bs HB⟩⟩
  ·intro c4 H;have c4b0:decide (100<(l0_0.length:Int))=false:=decide_eq_false c4;have c4b1:decide (100<l0_0.length)=false:=decide_eq_false (by omega);clear c4
   (first|rw [c4b0]|(simp only [i64_w,i32_w];rw [c4b0])|rw [c4b1]|skip)
   replace H:=bo H;obtain ⟨t62,A6,H⟩:=H;have H':=am H;clear H;have hcz7:=cf2 BK59
   go_wp2_with (first|(go_at_call 115;(with_reducible refine (spec_LinesRight.calls k _ _ l0_1 t62 _ (Kd.C_below HR0_1.out (bs HB)) HC0_1.out A6.out).mono ?_);rintro e w8 ⟨rfl,hb⟩;replace BK59:=bb BK59 hb;replace HB:=bq HB hb;(try clear hb);(try clear hb2);(try clear hk);(try clear hi)))
   go_meet
   case rel=>exact ⟨_,(!t62),fg,H',⟨fl⟩,⟨ks BK59⟩,⟨bs HB⟩⟩
 case rest =>
  clear HC2
  obtain ⟨kq,x14_1,rfl,HA,HJ1,BK59,HB⟩:=hcut
  cases kq with
  | zero=>exact absurd HA.out (by simp [spec_BookRight.j0])
  | succ kj1 =>
   have H:=HA.out;clear HA;simp only [spec_BookRight.j0] at H
   obtain rfl|rfl:=bt x14_1
   ·replace H:=itT H;obtain rfl:=si H
    go_wp2
    go_ret
    exact ⟨ff,bs HB⟩
   ·replace H:=itF H;have H':=am H;clear H
    go_wp2
    go_loopg [3] kj1 (fun kq v3 w'=>∃ (x3_2:Int),v3=.int .i64 x3_2∧Aside0 (spec_BookRight.l0 kq x3_2 l0_0 l0_1=some r)∧Aside0 (kq≤kj1)∧Aside0 (w'.heap[gb59]? = some (.cells #[(.slice A0_0 l0_0.length c0_0),(.slice A0_1 l0_1.length c0_1)] 38 (0,0)))∧Aside0 (Below w.heap.size w w'))
    case atStart=>exact ⟨(0),fg,H',⟨Nat.le_refl _⟩,⟨ks BK59⟩,⟨bs HB⟩⟩
    case round =>
     clear H'
     try clear BK59
     obtain ⟨x3_2,rfl,HA,HK2,BK59,HB⟩:=hrel
     cases gk with
     | zero=>exact absurd HA.out (by simp [spec_BookRight.l0])
     | succ k2 =>
      have H:=HA.out;clear HA;simp only [spec_BookRight.l0] at H
      revert H;refine id2 ?_ ?_
      ·intro c10b0 H
       revert H;refine id1 ?_
       intro c11b0 H;replace H:=bo H;obtain ⟨t63,A12,H⟩:=H
       obtain rfl|rfl:=bt t63
       ·replace H:=itT H
        revert H;refine id2 ?_ ?_
        ·intro c14b0 H;obtain rfl:=si H;have hcz15:=cf2 BK59;have p60:0≤(x3_2:Int):=oa;have q60:x3_2<(l0_0.length:Int):=oa;obtain ⟨ad60,e60,hx60_0,hx60_1⟩:=at_T152 HR0_0.out x3_2 p60 q60
         cases e60
         replace hx60_0:=cb HB hx60_0;replace hx60_1:=cb HB hx60_1;replace p60:=eq_true p60;replace q60:=eq_true q60
         try go_wp2_with (first|((with_reducible refine gate_dst (N:=4) rfl ?_);refine bz 4 (cs:=#[.string (⟨#[]⟩:ByteArray),.int .i64 0]) (t:=152) HB ?_;clear HB;intro gb58 hg w16 BK58 GW58 hb HB;have NB59_58:=na hg BK59;have NB58_59:=nc hg BK59;replace BK59:=bb BK59 hb;clear hb hg;have hnb17:=NB58_59.out;have hnc17:=NB59_58.out;have hcz18:=cf2 BK58))
         have n0_:=kz ((w16.setCell ⟨gb58,0,none⟩ (.string ((rd_T152 l0_0 x3_2).f0))).setCell ⟨gb58,1,none⟩ (.int .i64 ((rd_T152 l0_0 x3_2).f1))) BK59;have n1_:Aside0 (((w16.setCell ⟨gb58,0,none⟩ (.string ((rd_T152 l0_0 x3_2).f0))).setCell ⟨gb58,1,none⟩ (.int .i64 ((rd_T152 l0_0 x3_2).f1))).heap[gb58]? = some (.cells #[.string ((rd_T152 l0_0 x3_2).f0),.int .i64 ((rd_T152 l0_0 x3_2).f1)] 152 (0,0))):=⟨kp BK58⟩;have n2_:Aside0 (Below w.heap.size w ((w16.setCell ⟨gb58,0,none⟩ (.string ((rd_T152 l0_0 x3_2).f0))).setCell ⟨gb58,1,none⟩ (.int .i64 ((rd_T152 l0_0 x3_2).f1)))):=⟨bs HB⟩;(try clear BK59);(try clear BK58);(try clear HB)
         generalize ((w16.setCell ⟨gb58,0,none⟩ (.string ((rd_T152 l0_0 x3_2).f0))).setCell ⟨gb58,1,none⟩ (.int .i64 ((rd_T152 l0_0 x3_2).f1)))=w19 at n0_ n1_ n2_ ⊢
         have BK59:=n0_;have BK58:=n1_;have HB:=n2_;clear n0_ n1_ n2_;replace BK59:=am (blk_drew BK59.out);replace BK58:=am (blk_drew BK58.out);replace HB:=am (below_drew1 HB.out);refine sta 30 (hb2 BK58) (fun hHeld=>?_);refine with_tabW spec_BookRight.tab7 spec_BookRight.bits7 (fun HT_ HW_=>?_)
         generalize w19.drew=w20 at BK59 BK58 HB hHeld ⊢
         refine pz1 0 ?_;refine ta 1 ?_;refine oA 2 29 HT_ (fun K hK=>?_);refine gA Tryz.func48 #[.string ((rd_T152 l0_0 x3_2).f0)] ?_;(with_reducible refine (spec_l01Name.calls k2 ((rd_T152 l0_0 x3_2).f0) true _ A12.out).mono ?_);rintro e w' ⟨rfl,⟨nd,rfl⟩⟩;refine ⟨_,rfl,?_⟩;refine hK.out _ _ (hb2 BK58).out (fun hHeld=>?_);clear hK K;refine nA 29 ?_;refine pz3 3 ?_;refine ta 6 ?_;refine pz8 7 ?_;refine pz8 15 ?_;refine pz4 23 ?_;refine pz3 27 ?_;refine done_ (done_of HT_.out (by kernel_rfl)) ?_
         try go_wp2
         go_ret
         exact ⟨ff,bs HB⟩
        ·intro c14b0 H
         revert H;refine ip2 ?_ ?_
         ·intro c21 H;have c21b0:decide (1000000000<((rd_T152 l0_0 x3_2).f1))=true:=decide_eq_true c21;clear c21;obtain rfl:=si H;have hcz22:=cf2 BK59;have p60:0≤(x3_2:Int):=oa;have q60:x3_2<(l0_0.length:Int):=oa;obtain ⟨ad60,e60,hx60_0,hx60_1⟩:=at_T152 HR0_0.out x3_2 p60 q60
          cases e60
          replace hx60_0:=cb HB hx60_0;replace hx60_1:=cb HB hx60_1;replace p60:=eq_true p60;replace q60:=eq_true q60
          try go_wp2_with (first|((with_reducible refine gate_dst (N:=4) rfl ?_);refine bz 4 (cs:=#[.string (⟨#[]⟩:ByteArray),.int .i64 0]) (t:=152) HB ?_;clear HB;intro gb58 hg w23 BK58 GW58 hb HB;have NB59_58:=na hg BK59;have NB58_59:=nc hg BK59;replace BK59:=bb BK59 hb;clear hb hg;have hnb24:=NB58_59.out;have hnc24:=NB59_58.out;have hcz25:=cf2 BK58))
          have n0_:=kz ((w23.setCell ⟨gb58,0,none⟩ (.string ((rd_T152 l0_0 x3_2).f0))).setCell ⟨gb58,1,none⟩ (.int .i64 ((rd_T152 l0_0 x3_2).f1))) BK59;have n1_:Aside0 (((w23.setCell ⟨gb58,0,none⟩ (.string ((rd_T152 l0_0 x3_2).f0))).setCell ⟨gb58,1,none⟩ (.int .i64 ((rd_T152 l0_0 x3_2).f1))).heap[gb58]? = some (.cells #[.string ((rd_T152 l0_0 x3_2).f0),.int .i64 ((rd_T152 l0_0 x3_2).f1)] 152 (0,0))):=⟨kp BK58⟩;have n2_:Aside0 (Below w.heap.size w ((w23.setCell ⟨gb58,0,none⟩ (.string ((rd_T152 l0_0 x3_2).f0))).setCell ⟨gb58,1,none⟩ (.int .i64 ((rd_T152 l0_0 x3_2).f1)))):=⟨bs HB⟩;(try clear BK59);(try clear BK58);(try clear HB)
          generalize ((w23.setCell ⟨gb58,0,none⟩ (.string ((rd_T152 l0_0 x3_2).f0))).setCell ⟨gb58,1,none⟩ (.int .i64 ((rd_T152 l0_0 x3_2).f1)))=w26 at n0_ n1_ n2_ ⊢
          have BK59:=n0_;have BK58:=n1_;have HB:=n2_;clear n0_ n1_ n2_;replace BK59:=am (blk_drew BK59.out);replace BK58:=am (blk_drew BK58.out);replace HB:=am (below_drew1 HB.out);refine sta 30 (hb2 BK58) (fun hHeld=>?_);refine with_tabW spec_BookRight.tab7 spec_BookRight.bits7 (fun HT_ HW_=>?_)
          generalize w26.drew=w27 at BK59 BK58 HB hHeld ⊢
          refine pz1 0 ?_;refine ta 1 ?_;refine oA 2 29 HT_ (fun K hK=>?_);refine gA Tryz.func48 #[.string ((rd_T152 l0_0 x3_2).f0)] ?_;(with_reducible refine (spec_l01Name.calls k2 ((rd_T152 l0_0 x3_2).f0) true _ A12.out).mono ?_);rintro e w' ⟨rfl,⟨nd,rfl⟩⟩;refine ⟨_,rfl,?_⟩;refine hK.out _ _ (hb2 BK58).out (fun hHeld=>?_);clear hK K;refine nA 29 ?_;refine pz3 3 ?_;refine ta 6 ?_;refine pz4 7 ?_;refine ta 11 ?_;refine pz8 12 ?_;refine pz8 20 ?_;refine pz2 28 ?_;refine done_ (done_of HT_.out (by kernel_rfl)) ?_
          try go_wp2
          go_ret
          exact ⟨ff,bs HB⟩
         ·intro c21 H;have c21b0:decide (1000000000<((rd_T152 l0_0 x3_2).f1))=false:=decide_eq_false c21;clear c21
          revert H;refine ip2 ?_ ?_
          ·intro c28 H;have c28b0:decide (0<x3_2)=true:=decide_eq_true c28;clear c28;obtain ⟨ji29,hji29⟩:∃ j_:Int,(wrap64 (x3_2 - 1))=j_:=⟨_,rfl⟩
           replace H:(if 0≤(ji29) then (if (ji29)<(l0_0.length:Int) then (if ((Op.bytesLess (((rd_T152 l0_0 (ji29)).f0).toList) (((rd_T152 l0_0 x3_2).f0).toList))=true) then (spec_BookRight.l0 k2 (wrap64 (x3_2+1)) l0_0 l0_1) else (some false)) else (none)) else (none))=some r:=by first|(rw [hji29] at H;exact H)|(simp only [hji29] at H ⊢;exact H)
           (try rw [hji29] at A12)
           have hji29w:(IntKind.i64.wrap (x3_2 - 1))=ji29:=(i64_w _).trans hji29
           revert H;refine id1 ?_
           intro c30b0 H
           revert H;refine id1 ?_
           intro c31b0 H
           revert H;refine ip2 ?_ ?_
           ·intro c32 H;have c32b0:(Op.bytesLess (((rd_T152 l0_0 (ji29)).f0).toList) (((rd_T152 l0_0 x3_2).f0).toList))=true:=c32;clear c32;have H':=am H;clear H;have hcz33:=cf2 BK59;have p60:0≤(x3_2:Int):=oa;have q60:x3_2<(l0_0.length:Int):=oa;obtain ⟨ad60,e60,hx60_0,hx60_1⟩:=at_T152 HR0_0.out x3_2 p60 q60
            cases e60
            replace hx60_0:=cb HB hx60_0;replace hx60_1:=cb HB hx60_1;replace p60:=eq_true p60;replace q60:=eq_true q60
            try go_wp2_with (first|((with_reducible refine gate_dst (N:=4) rfl ?_);refine bz 4 (cs:=#[.string (⟨#[]⟩:ByteArray),.int .i64 0]) (t:=152) HB ?_;clear HB;intro gb58 hg w34 BK58 GW58 hb HB;have NB59_58:=na hg BK59;have NB58_59:=nc hg BK59;replace BK59:=bb BK59 hb;clear hb hg;have hnb35:=NB58_59.out;have hnc35:=NB59_58.out;have hcz36:=cf2 BK58))
            have n0_:=kz ((w34.setCell ⟨gb58,0,none⟩ (.string ((rd_T152 l0_0 x3_2).f0))).setCell ⟨gb58,1,none⟩ (.int .i64 ((rd_T152 l0_0 x3_2).f1))) BK59;have n1_:Aside0 (((w34.setCell ⟨gb58,0,none⟩ (.string ((rd_T152 l0_0 x3_2).f0))).setCell ⟨gb58,1,none⟩ (.int .i64 ((rd_T152 l0_0 x3_2).f1))).heap[gb58]? = some (.cells #[.string ((rd_T152 l0_0 x3_2).f0),.int .i64 ((rd_T152 l0_0 x3_2).f1)] 152 (0,0))):=⟨kp BK58⟩;have n2_:Aside0 (Below w.heap.size w ((w34.setCell ⟨gb58,0,none⟩ (.string ((rd_T152 l0_0 x3_2).f0))).setCell ⟨gb58,1,none⟩ (.int .i64 ((rd_T152 l0_0 x3_2).f1)))):=⟨bs HB⟩;(try clear BK59);(try clear BK58);(try clear HB)
            generalize ((w34.setCell ⟨gb58,0,none⟩ (.string ((rd_T152 l0_0 x3_2).f0))).setCell ⟨gb58,1,none⟩ (.int .i64 ((rd_T152 l0_0 x3_2).f1)))=w37 at n0_ n1_ n2_ ⊢
            have BK59:=n0_;have BK58:=n1_;have HB:=n2_;clear n0_ n1_ n2_;replace BK59:=am (blk_drew BK59.out);replace BK58:=am (blk_drew BK58.out);replace HB:=am (below_drew1 HB.out);have p61:0≤((ji29):Int):=oa;have q61:(ji29)<(l0_0.length:Int):=oa;obtain ⟨ad61,e61,hx61_0,hx61_1⟩:=at_T152 HR0_0.out (ji29) p61 q61;have hw61_1:=hx61_1;have hw61_0:=hx61_0;obtain rfl:ad60=ad61:=(by injection e61);replace hx61_0:=cb HB hx61_0;replace hx61_1:=cb HB hx61_1;replace p61:=eq_true p61;replace q61:=eq_true q61;refine sta 30 (hb2a BK58 (hb2a BK59 (hca (cb HB hw61_0) (hc (cb HB hw61_1))))) (fun hHeld=>?_);refine with_tabW spec_BookRight.tab7 spec_BookRight.bits7 (fun HT_ HW_=>?_)
            generalize w37.drew=w38 at BK59 BK58 HB hx61_0 hx61_1 hHeld ⊢
            refine pz1 0 ?_;refine ta 1 ?_;refine oA 2 29 HT_ (fun K hK=>?_);refine gA Tryz.func48 #[.string ((rd_T152 l0_0 x3_2).f0)] ?_;(with_reducible refine (spec_l01Name.calls k2 ((rd_T152 l0_0 x3_2).f0) true _ A12.out).mono ?_);rintro e w' ⟨rfl,⟨nd,rfl⟩⟩;refine ⟨_,rfl,?_⟩;refine hK.out _ _ (hb2a BK58 (hb2a BK59 (hca (cb HB hw61_0) (hc (cb HB hw61_1))))).out (fun hHeld=>?_);clear hK K;refine nA 29 ?_;refine pz3 3 ?_;refine ta 6 ?_;refine pz4 7 ?_;refine ta 11 ?_;refine pz4 12 ?_;refine pz3 16 ?_;refine pz1 20 ?_;refine pz2 22 ?_;refine ta 19 ?_;refine ta 21 ?_;refine pz2 24 ?_;refine ta 26 ?_;refine pz3 27 ?_;refine done_ (done_of HT_.out (by kernel_rfl)) ?_
            try go_wp2
            go_roundg k2
            case measure=>have:=HJ1.out;have:=HK2.out;omega
            case rel=>exact ⟨(wrap64 (x3_2+1)),fg,H',⟨by have:=HJ1.out;have:=HK2.out;omega⟩,⟨ks BK59⟩,⟨bs HB⟩⟩
           ·intro c32 H
            have c32b0:(Op.bytesLess (((rd_T152 l0_0 (ji29)).f0).toList) (((rd_T152 l0_0 x3_2).f0).toList))=false:=by simpa using c32
            clear c32;obtain rfl:=si H;have hcz39:=cf2 BK59;have p60:0≤(x3_2:Int):=oa;have q60:x3_2<(l0_0.length:Int):=oa;obtain ⟨ad60,e60,hx60_0,hx60_1⟩:=at_T152 HR0_0.out x3_2 p60 q60
            cases e60
            replace hx60_0:=cb HB hx60_0;replace hx60_1:=cb HB hx60_1;replace p60:=eq_true p60;replace q60:=eq_true q60
            try go_wp2_with (first|((with_reducible refine gate_dst (N:=4) rfl ?_);refine bz 4 (cs:=#[.string (⟨#[]⟩:ByteArray),.int .i64 0]) (t:=152) HB ?_;clear HB;intro gb58 hg w40 BK58 GW58 hb HB;have NB59_58:=na hg BK59;have NB58_59:=nc hg BK59;replace BK59:=bb BK59 hb;clear hb hg;have hnb41:=NB58_59.out;have hnc41:=NB59_58.out;have hcz42:=cf2 BK58))
            have n0_:=kz ((w40.setCell ⟨gb58,0,none⟩ (.string ((rd_T152 l0_0 x3_2).f0))).setCell ⟨gb58,1,none⟩ (.int .i64 ((rd_T152 l0_0 x3_2).f1))) BK59;have n1_:Aside0 (((w40.setCell ⟨gb58,0,none⟩ (.string ((rd_T152 l0_0 x3_2).f0))).setCell ⟨gb58,1,none⟩ (.int .i64 ((rd_T152 l0_0 x3_2).f1))).heap[gb58]? = some (.cells #[.string ((rd_T152 l0_0 x3_2).f0),.int .i64 ((rd_T152 l0_0 x3_2).f1)] 152 (0,0))):=⟨kp BK58⟩;have n2_:Aside0 (Below w.heap.size w ((w40.setCell ⟨gb58,0,none⟩ (.string ((rd_T152 l0_0 x3_2).f0))).setCell ⟨gb58,1,none⟩ (.int .i64 ((rd_T152 l0_0 x3_2).f1)))):=⟨bs HB⟩;(try clear BK59);(try clear BK58);(try clear HB)
            generalize ((w40.setCell ⟨gb58,0,none⟩ (.string ((rd_T152 l0_0 x3_2).f0))).setCell ⟨gb58,1,none⟩ (.int .i64 ((rd_T152 l0_0 x3_2).f1)))=w43 at n0_ n1_ n2_ ⊢
            have BK59:=n0_;have BK58:=n1_;have HB:=n2_;clear n0_ n1_ n2_;replace BK59:=am (blk_drew BK59.out);replace BK58:=am (blk_drew BK58.out);replace HB:=am (below_drew1 HB.out);have p61:0≤((ji29):Int):=oa;have q61:(ji29)<(l0_0.length:Int):=oa;obtain ⟨ad61,e61,hx61_0,hx61_1⟩:=at_T152 HR0_0.out (ji29) p61 q61;have hw61_1:=hx61_1;have hw61_0:=hx61_0;obtain rfl:ad60=ad61:=(by injection e61);replace hx61_0:=cb HB hx61_0;replace hx61_1:=cb HB hx61_1;replace p61:=eq_true p61;replace q61:=eq_true q61;refine sta 30 (hb2a BK58 (hb2a BK59 (hca (cb HB hw61_0) (hc (cb HB hw61_1))))) (fun hHeld=>?_);refine with_tabW spec_BookRight.tab7 spec_BookRight.bits7 (fun HT_ HW_=>?_)
            generalize w43.drew=w44 at BK59 BK58 HB hx61_0 hx61_1 hHeld ⊢
            refine pz1 0 ?_;refine ta 1 ?_;refine oA 2 29 HT_ (fun K hK=>?_);refine gA Tryz.func48 #[.string ((rd_T152 l0_0 x3_2).f0)] ?_;(with_reducible refine (spec_l01Name.calls k2 ((rd_T152 l0_0 x3_2).f0) true _ A12.out).mono ?_);rintro e w' ⟨rfl,⟨nd,rfl⟩⟩;refine ⟨_,rfl,?_⟩;refine hK.out _ _ (hb2a BK58 (hb2a BK59 (hca (cb HB hw61_0) (hc (cb HB hw61_1))))).out (fun hHeld=>?_);clear hK K;refine nA 29 ?_;refine pz3 3 ?_;refine ta 6 ?_;refine pz4 7 ?_;refine ta 11 ?_;refine pz4 12 ?_;refine pz3 16 ?_;refine pz1 20 ?_;refine pz2 22 ?_;refine ta 19 ?_;refine ta 21 ?_;refine pz2 24 ?_;refine ta 26 ?_;refine pz3 27 ?_;refine done_ (done_of HT_.out (by kernel_rfl)) ?_
            try go_wp2
            go_ret
            exact ⟨by first|rfl|(simp [errW_none,errW_some] <;> rfl)|(simp only [← hji29];first|rfl|(simp [errW_none,errW_some] <;> rfl))|(simp [*,errW_none,errW_some] <;> rfl),bs HB⟩
          ·intro c28 H;have c28b0:decide (0<x3_2)=false:=decide_eq_false c28;clear c28;have H':=am H;clear H;have hcz45:=cf2 BK59;have p60:0≤(x3_2:Int):=oa;have q60:x3_2<(l0_0.length:Int):=oa;obtain ⟨ad60,e60,hx60_0,hx60_1⟩:=at_T152 HR0_0.out x3_2 p60 q60
           cases e60
           replace hx60_0:=cb HB hx60_0;replace hx60_1:=cb HB hx60_1;replace p60:=eq_true p60;replace q60:=eq_true q60
           try go_wp2_with (first|((with_reducible refine gate_dst (N:=4) rfl ?_);refine bz 4 (cs:=#[.string (⟨#[]⟩:ByteArray),.int .i64 0]) (t:=152) HB ?_;clear HB;intro gb58 hg w46 BK58 GW58 hb HB;have NB59_58:=na hg BK59;have NB58_59:=nc hg BK59;replace BK59:=bb BK59 hb;clear hb hg;have hnb47:=NB58_59.out;have hnc47:=NB59_58.out;have hcz48:=cf2 BK58))
           have n0_:=kz ((w46.setCell ⟨gb58,0,none⟩ (.string ((rd_T152 l0_0 x3_2).f0))).setCell ⟨gb58,1,none⟩ (.int .i64 ((rd_T152 l0_0 x3_2).f1))) BK59;have n1_:Aside0 (((w46.setCell ⟨gb58,0,none⟩ (.string ((rd_T152 l0_0 x3_2).f0))).setCell ⟨gb58,1,none⟩ (.int .i64 ((rd_T152 l0_0 x3_2).f1))).heap[gb58]? = some (.cells #[.string ((rd_T152 l0_0 x3_2).f0),.int .i64 ((rd_T152 l0_0 x3_2).f1)] 152 (0,0))):=⟨kp BK58⟩;have n2_:Aside0 (Below w.heap.size w ((w46.setCell ⟨gb58,0,none⟩ (.string ((rd_T152 l0_0 x3_2).f0))).setCell ⟨gb58,1,none⟩ (.int .i64 ((rd_T152 l0_0 x3_2).f1)))):=⟨bs HB⟩;(try clear BK59);(try clear BK58);(try clear HB)
           generalize ((w46.setCell ⟨gb58,0,none⟩ (.string ((rd_T152 l0_0 x3_2).f0))).setCell ⟨gb58,1,none⟩ (.int .i64 ((rd_T152 l0_0 x3_2).f1)))=w49 at n0_ n1_ n2_ ⊢
           have BK59:=n0_;have BK58:=n1_;have HB:=n2_;clear n0_ n1_ n2_;replace BK59:=am (blk_drew BK59.out);replace BK58:=am (blk_drew BK58.out);replace HB:=am (below_drew1 HB.out);refine sta 30 (hb2 BK58) (fun hHeld=>?_);refine with_tabW spec_BookRight.tab7 spec_BookRight.bits7 (fun HT_ HW_=>?_)
           generalize w49.drew=w50 at BK59 BK58 HB hHeld ⊢
           refine pz1 0 ?_;refine ta 1 ?_;refine oA 2 29 HT_ (fun K hK=>?_);refine gA Tryz.func48 #[.string ((rd_T152 l0_0 x3_2).f0)] ?_;(with_reducible refine (spec_l01Name.calls k2 ((rd_T152 l0_0 x3_2).f0) true _ A12.out).mono ?_);rintro e w' ⟨rfl,⟨nd,rfl⟩⟩;refine ⟨_,rfl,?_⟩;refine hK.out _ _ (hb2 BK58).out (fun hHeld=>?_);clear hK K;refine nA 29 ?_;refine pz3 3 ?_;refine ta 6 ?_;refine pz4 7 ?_;refine ta 11 ?_;refine pz8 12 ?_;refine pz8 20 ?_;refine pz2 28 ?_;refine done_ (done_of HT_.out (by kernel_rfl)) ?_
           try go_wp2
           go_roundg k2
           case measure=>have:=HJ1.out;have:=HK2.out;omega
           case rel=>exact ⟨(wrap64 (x3_2+1)),fg,H',⟨by have:=HJ1.out;have:=HK2.out;omega⟩,⟨ks BK59⟩,⟨bs HB⟩⟩
       ·replace H:=itF H;obtain rfl:=si H;have hcz51:=cf2 BK59;have p60:0≤(x3_2:Int):=oa;have q60:x3_2<(l0_0.length:Int):=oa;obtain ⟨ad60,e60,hx60_0,hx60_1⟩:=at_T152 HR0_0.out x3_2 p60 q60
        cases e60
        replace hx60_0:=cb HB hx60_0;replace hx60_1:=cb HB hx60_1;replace p60:=eq_true p60;replace q60:=eq_true q60
        try go_wp2_with (first|((with_reducible refine gate_dst (N:=4) rfl ?_);refine bz 4 (cs:=#[.string (⟨#[]⟩:ByteArray),.int .i64 0]) (t:=152) HB ?_;clear HB;intro gb58 hg w52 BK58 GW58 hb HB;have NB59_58:=na hg BK59;have NB58_59:=nc hg BK59;replace BK59:=bb BK59 hb;clear hb hg;have hnb53:=NB58_59.out;have hnc53:=NB59_58.out;have hcz54:=cf2 BK58))
        have n0_:=kz ((w52.setCell ⟨gb58,0,none⟩ (.string ((rd_T152 l0_0 x3_2).f0))).setCell ⟨gb58,1,none⟩ (.int .i64 ((rd_T152 l0_0 x3_2).f1))) BK59;have n1_:Aside0 (((w52.setCell ⟨gb58,0,none⟩ (.string ((rd_T152 l0_0 x3_2).f0))).setCell ⟨gb58,1,none⟩ (.int .i64 ((rd_T152 l0_0 x3_2).f1))).heap[gb58]? = some (.cells #[.string ((rd_T152 l0_0 x3_2).f0),.int .i64 ((rd_T152 l0_0 x3_2).f1)] 152 (0,0))):=⟨kp BK58⟩;have n2_:Aside0 (Below w.heap.size w ((w52.setCell ⟨gb58,0,none⟩ (.string ((rd_T152 l0_0 x3_2).f0))).setCell ⟨gb58,1,none⟩ (.int .i64 ((rd_T152 l0_0 x3_2).f1)))):=⟨bs HB⟩;(try clear BK59);(try clear BK58);(try clear HB)
        generalize ((w52.setCell ⟨gb58,0,none⟩ (.string ((rd_T152 l0_0 x3_2).f0))).setCell ⟨gb58,1,none⟩ (.int .i64 ((rd_T152 l0_0 x3_2).f1)))=w55 at n0_ n1_ n2_ ⊢
        have BK59:=n0_;have BK58:=n1_;have HB:=n2_;clear n0_ n1_ n2_;replace BK59:=am (blk_drew BK59.out);replace BK58:=am (blk_drew BK58.out);replace HB:=am (below_drew1 HB.out);refine sta 30 (hb2 BK58) (fun hHeld=>?_);refine with_tabW spec_BookRight.tab7 spec_BookRight.bits7 (fun HT_ HW_=>?_)
        generalize w55.drew=w56 at BK59 BK58 HB hHeld ⊢
        refine pz1 0 ?_;refine ta 1 ?_;refine oA 2 29 HT_ (fun K hK=>?_);refine gA Tryz.func48 #[.string ((rd_T152 l0_0 x3_2).f0)] ?_;(with_reducible refine (spec_l01Name.calls k2 ((rd_T152 l0_0 x3_2).f0) false _ A12.out).mono ?_);rintro e w' ⟨rfl,⟨nd,rfl⟩⟩;refine ⟨_,rfl,?_⟩;refine hK.out _ _ (hb2 BK58).out (fun hHeld=>?_);clear hK K;refine nA 29 ?_;refine pz8 3 ?_;refine pz8 11 ?_;refine pz8 19 ?_;refine pz3 27 ?_;refine done_ (done_of HT_.out (by kernel_rfl)) ?_
        try go_wp2
        go_ret
        exact ⟨ff,bs HB⟩
      ·intro c10b0 H;obtain rfl:=si H;have hcz57:=cf2 BK59
       go_wp2
       go_ret
       exact ⟨ff,bs HB⟩
theorem spec_l01Control.calls (a0:Int) (r:Bool) (w:World) (H:spec_l01Control.f a0=some r) :
  Calls Tryz.prog 118 #[.int .i64 a0] w fun e w'=>e=.returned (.bool r)∧Drawn0 w w':=by
 unfold spec_l01Control.f at H
 revert H;refine ip2 ?_ ?_
 ·intro c2 H;have c2b0:decide (1≤a0)=true:=decide_eq_true c2;clear c2;obtain rfl:=si H
  go_in
  go_wp2
  go_ret
  exact ⟨fg,dr⟩
 ·intro c2 H;have c2b0:decide (1≤a0)=false:=decide_eq_false c2;clear c2;obtain rfl:=si H
  go_in
  go_wp2
  go_ret
  exact ⟨fg,dr⟩
theorem spec_l12Out.calls (k:Nat) (a0_0:ByteArray) (a0_1:Int) (a0_2:ByteArray) (a0_3:Int) (a0_4:Int) (r:Bool) (w:World) (H:spec_l12Out.f k a0_0 a0_1 a0_2 a0_3 a0_4=some r) :
  Calls Tryz.prog 116 #[.agg #[.string a0_0,.int .i64 a0_1,.string a0_2,.int .i64 a0_3,.int .i64 a0_4]] w fun e w'=>e=.returned (.bool r)∧Below w.heap.size w w':=by
 have hu120:=Tryz.underlying120;have HB:=am (Below.refl w.heap.size w);unfold spec_l12Out.f at H;replace H:=bo H;obtain ⟨t19,A2,H⟩:=H
 go_in
 try go_wp2_with (first|((with_reducible refine gate_dst (N:=1) rfl ?_);(try (refine gate_guard (by rfl) ?_;dsimp only));refine bz 1 (cs:=#[.string a0_0,.int .i64 a0_1,.string a0_2,.int .i64 a0_3,.int .i64 a0_4]) (t:=120) HB ?_;clear HB;intro gb8 hg w3 BK8 GW8 hb HB;clear hb hg;have hcz4:=cf5 BK8))
 go_at_call 48;(with_reducible refine (spec_l01Name.calls k a0_0 t19 _ A2.out).mono ?_);rintro e w' ⟨rfl,⟨nd,rfl⟩⟩
 obtain rfl|rfl:=bt t19
 ·replace H:=itT H;replace H:=bo H;obtain ⟨t20,A6,H⟩:=H;have hcz7:=cf5 BK8
  try go_wp2_with (fail)
  go_at_call 118;(with_reducible refine (spec_l01Control.calls a0_1 t20 _ A6.out).mono ?_);rintro e w' ⟨rfl,⟨nd,rfl⟩⟩
  obtain rfl|rfl:=bt t20
  ·replace H:=itT H
   revert H;refine ip2 ?_ ?_
   ·intro c9 H;have c9b0:decide (1≤(a0_2.size:Int))=true:=decide_eq_true c9;have c9b1:decide (1≤a0_2.size)=true:=decide_eq_true (by omega);clear c9
    revert H;refine id2k ?_ ?_
    ·intro c10 c10b0 H;have c10b1:decide (a0_2.size≤20000)=true:=decide_eq_true (by omega);clear c10
     revert H;refine ip2 ?_ ?_
     ·intro c11 H;have c11b0:decide (0≤a0_3)=true:=decide_eq_true c11;clear c11
      revert H;refine id2 ?_ ?_
      ·intro c12b0 H;replace H:=bo H;obtain ⟨t21,A13,H⟩:=H;obtain rfl:=si H;have hcz14:=cf5 BK8
       go_wp2_with (first|(go_at_call 64;(with_reducible refine (spec_l01Day.calls a0_4 t21 _ A13.out).mono ?_);rintro e w' ⟨rfl,⟨nd,rfl⟩⟩))
       go_ret
       exact ⟨ff,bs HB⟩
      ·intro c12b0 H;obtain rfl:=si H;have hcz15:=cf5 BK8
       go_wp2
       go_ret
       exact ⟨ff,bs HB⟩
     ·intro c11 H;have c11b0:decide (0≤a0_3)=false:=decide_eq_false c11;clear c11;obtain rfl:=si H;have hcz16:=cf5 BK8
      go_wp2
      go_ret
      exact ⟨ff,bs HB⟩
    ·intro c10 c10b0 H;have c10b1:decide (a0_2.size≤20000)=false:=decide_eq_false (by omega);clear c10;obtain rfl:=si H;have hcz17:=cf5 BK8
     go_wp2
     go_ret
     exact ⟨ff,bs HB⟩
   ·intro c9 H;have c9b0:decide (1≤(a0_2.size:Int))=false:=decide_eq_false c9;have c9b1:decide (1≤a0_2.size)=false:=decide_eq_false (by omega);clear c9;obtain rfl:=si H;have hcz18:=cf5 BK8
    go_wp2
    go_ret
    exact ⟨ff,bs HB⟩
  ·replace H:=itF H;obtain rfl:=si H
   go_wp2
   go_ret
   exact ⟨ff,bs HB⟩
 ·replace H:=itF H;obtain rfl:=si H
  go_wp2
  go_ret
  exact ⟨ff,bs HB⟩
theorem spec_l12Before.calls (a0_0:ByteArray) (a0_1:Int) (a0_2:ByteArray) (a0_3:Int) (a0_4:Int) (a1_0:ByteArray) (a1_1:Int) (a1_2:ByteArray) (a1_3:Int) (a1_4:Int) (r:Bool) (w:World) (H:spec_l12Before.f a0_0 a0_1 a0_2 a0_3 a0_4 a1_0 a1_1 a1_2 a1_3 a1_4=some r) :
  Calls Tryz.prog 117 #[.agg #[.string a0_0,.int .i64 a0_1,.string a0_2,.int .i64 a0_3,.int .i64 a0_4],.agg #[.string a1_0,.int .i64 a1_1,.string a1_2,.int .i64 a1_3,.int .i64 a1_4]] w fun e w'=>e=.returned (.bool r)∧Below w.heap.size w w':=by
 have hu120:=Tryz.underlying120;have HB:=am (Below.refl w.heap.size w);unfold spec_l12Before.f at H
 revert H;refine ip2 ?_ ?_
 ·intro c3 H;have c3b0:(Op.bytesLess a0_0.toList a1_0.toList)=true:=c3;clear c3;obtain rfl:=si H
  go_in
  go_wp2_with (first|((with_reducible refine gate_dst (N:=2) rfl ?_);refine bz 2 (cs:=#[.string a0_0,.int .i64 a0_1,.string a0_2,.int .i64 a0_3,.int .i64 a0_4]) (t:=120) HB ?_;clear HB;intro gb20 hg w4 BK20 GW20 hb HB;clear hb hg)|((with_reducible refine gate_dst (N:=3) rfl ?_);refine bz 3 (cs:=#[.string a1_0,.int .i64 a1_1,.string a1_2,.int .i64 a1_3,.int .i64 a1_4]) (t:=120) HB ?_;clear HB;intro gb21 hg w5 BK21 GW21 hb HB;have NB20_21:=na hg BK20;have NB21_20:=nc hg BK20;replace BK20:=bb BK20 hb;clear hb hg;have hnb6:=NB20_21.out;have hnc6:=NB21_20.out;have hcz7:=cf5 BK20;have hcz8:=cf5 BK21))
  go_ret
  exact ⟨ff,bs HB⟩
 ·intro c3 H
  have c3b0:(Op.bytesLess a0_0.toList a1_0.toList)=false:=by simpa using c3
  clear c3
  revert H;refine ie2 ?_ ?_
  ·intro c9b0 c9b1 H;obtain rfl:=si H
   go_in
   go_wp2_with (first|((with_reducible refine gate_dst (N:=2) rfl ?_);refine bz 2 (cs:=#[.string a0_0,.int .i64 a0_1,.string a0_2,.int .i64 a0_3,.int .i64 a0_4]) (t:=120) HB ?_;clear HB;intro gb20 hg w10 BK20 GW20 hb HB;clear hb hg)|((with_reducible refine gate_dst (N:=3) rfl ?_);refine bz 3 (cs:=#[.string a1_0,.int .i64 a1_1,.string a1_2,.int .i64 a1_3,.int .i64 a1_4]) (t:=120) HB ?_;clear HB;intro gb21 hg w11 BK21 GW21 hb HB;have NB20_21:=na hg BK20;have NB21_20:=nc hg BK20;replace BK20:=bb BK20 hb;clear hb hg;have hnb12:=NB20_21.out;have hnc12:=NB21_20.out;have hcz13:=cf5 BK20;have hcz14:=cf5 BK21))
   go_ret
   exact ⟨ff,bs HB⟩
  ·intro c9 c9b0 c9b1 H;obtain rfl:=si H
   go_in
   go_wp2_with (first|((with_reducible refine gate_dst (N:=2) rfl ?_);refine bz 2 (cs:=#[.string a0_0,.int .i64 a0_1,.string a0_2,.int .i64 a0_3,.int .i64 a0_4]) (t:=120) HB ?_;clear HB;intro gb20 hg w15 BK20 GW20 hb HB;clear hb hg)|((with_reducible refine gate_dst (N:=3) rfl ?_);refine bz 3 (cs:=#[.string a1_0,.int .i64 a1_1,.string a1_2,.int .i64 a1_3,.int .i64 a1_4]) (t:=120) HB ?_;clear HB;intro gb21 hg w16 BK21 GW21 hb HB;have NB20_21:=na hg BK20;have NB21_20:=nc hg BK20;replace BK20:=bb BK20 hb;clear hb hg;have hnb17:=NB20_21.out;have hnc17:=NB21_20.out;have hcz18:=cf5 BK20;have hcz19:=cf5 BK21))
   go_ret
   exact ⟨ff,bs HB⟩
end Go.Proofs.YtomoflpgdbjojaaGreat.QO
