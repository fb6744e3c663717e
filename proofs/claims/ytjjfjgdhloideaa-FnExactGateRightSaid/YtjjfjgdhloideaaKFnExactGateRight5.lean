-- Merged by a program of this session (wip/tool/pack.py) out of its own texts for this claim.
import Derived.Test.YtjjfjgdhloideaaKFnExactGateRight0
import Derived.Test.YtjjfjgdhloideaaKFnExactGateRight1
import Derived.Test.YtjjfjgdhloideaaKFnExactGateRight2
import Derived.Test.YtjjfjgdhloideaaKFnExactGateRight3
namespace Go.Proofs.Ytjjfjgdhloideaa.QI
open Go.RowKit Go.Proofs.YtjjfjgdhloideaaW.PrintWords Go.Proofs.YtjjfjgdhloideaaW.PrintLast Go.Proofs.YtjjfjgdhloideaaW.PrintMore
attribute [local go_sem] max2_int min2_int max_two min_two max_three min_three max_four min_four   -- for this text's walks alone
set_option linter.unusedVariables false
set_option linter.unusedSimpArgs false
set_option maxHeartbeats 8000000 in
set_option maxRecDepth 100000 in
theorem laws_toSeen.calls (a0_0:Int) (a0_1:Int) (a0_2:Int) (r1:Int) (r2:Int) (r3:Int) (w:World) (h:laws_toSeen.f a0_0 a0_1 a0_2=some (r1,r2,r3)) :
  Calls Try.prog 135 #[.agg #[.int .i64 a0_0,.int .i64 a0_1,.int .i64 a0_2]] w fun e w'=>e=.returned (.agg #[.int .i64 r1,.int .i64 r2,.int .i64 r3])∧Below w.heap.size w w':=by
 have hu172:=Try.underlying172;have hu135:=Try.underlying135;have HB:=am (Below.refl w.heap.size w);have H:(some (a0_0,a0_1,a0_2))=some (r1,r2,r3):=h;clear h;simp only [Option.some.injEq,Prod.mk.injEq] at H;obtain ⟨rfl,rfl,rfl⟩:=H
 go_enter Try.func135,Try.ntmps135
 go_wp2_with (first|((with_reducible refine gate_dst (N:=1) rfl ?_);refine bx 1 (cs:=#[.int .i64 a0_0,.int .i64 a0_1,.int .i64 a0_2]) (t:=172) ?_;intro gb129 hg w2 hbox hb;have BK129:=am (hbox);have GW129:=am ((gs hg (bs HB)));have GE129:=am ((gs hg (bs HB)));replace HB:=am (below_step (bs HB) hb);clear hb hbox hg)|((with_reducible refine gate_dst (N:=2) rfl ?_);refine bx 2 (cs:=#[.int .i64 0,.int .i64 0,.int .i64 0]) (t:=135) ?_;intro gb130 hg w3 hbox hb;have BK130:=am (hbox);have GW130:=am ((gs hg (bs HB)));have GE130:=am ((gs hg (bs HB)));replace HB:=am (below_step (bs HB) hb);have NB129_130:=am ((gn hg (ks BK129)));have NB130_129:=am ((gm hg (ks BK129)));replace BK129:=am (blk_below (ks BK129) hb);clear hb hbox hg)|((with_reducible refine gate_dst (N:=3) rfl ?_);refine bx 3 (cs:=#[.int .i64 0,.int .i64 0,.int .i64 0]) (t:=135) ?_;intro gb131 hg w4 hbox hb;have BK131:=am (hbox);have GW131:=am ((gs hg (bs HB)));have GE131:=am ((gs hg (bs HB)));replace HB:=am (below_step (bs HB) hb);have NB129_131:=am ((gn hg (ks BK129)));have NB131_129:=am ((gm hg (ks BK129)));replace BK129:=am (blk_below (ks BK129) hb);have NB130_131:=am ((gn hg (ks BK130)));have NB131_130:=am ((gm hg (ks BK130)));replace BK130:=am (blk_below (ks BK130) hb);clear hb hbox hg;have hnb5:=NB129_130.out;have hnc5:=NB130_129.out;have hnb6:=NB129_131.out;have hnc6:=NB131_129.out;obtain ⟨hcz7_0,hcz7_1,hcz7_2,hfz7_0,hfz7_1,hfz7_2⟩:=cf3 BK129;have hnb8:=NB131_130.out;have hnc8:=NB130_131.out;obtain ⟨hcz9_0,hcz9_1,hcz9_2,hfz9_0,hfz9_1,hfz9_2⟩:=cf3 BK131;obtain ⟨hcz10_0,hcz10_1,hcz10_2,hfz10_0,hfz10_1,hfz10_2⟩:=cf3 BK130))
 refine bodyPost_ret (results_cell_row rfl _ _ gb130 135 #[.int .i64 a0_0,.int .i64 a0_1,.int .i64 a0_2] (0,0) _ rfl (kp BK130) Try.underlying135 rfl (by kernel_rfl)) rfl ?_
 exact ⟨ff,bs HB⟩
set_option maxHeartbeats 8000000 in
set_option maxRecDepth 100000 in
theorem laws_toSeenS.calls (k:Nat) (A0:Option Addr) (c0:Nat) (l0:List (S172)) (r:List (S135)) (w:World) (hr0:Kd.C k172 w A0 l0.length l0) (hc0:l0.length≤c0) (h:laws_toSeenS.f k l0=some r) :
  Calls Try.prog 115 #[.slice A0 l0.length c0] w fun e w'=>∃ v0_:Value,e=.returned (v0_)∧Kd.R k135 135 w' w.heap.size (fun _=>True) v0_ r∧Below w.heap.size w w':=by
 have hu172:=Try.underlying172;have hu135:=Try.underlying135;have HR0:=am hr0;have HC0:=am hc0;clear hr0 hc0;have HB:=am (Below.refl w.heap.size w);have H:(if 0≤(l0.length:Int) then (if ((l0.length:Int):Int).toNat≤11728124029610 then (laws_toSeenS.l0 k l0 (List.replicate ((l0.length:Int):Int).toNat z135) 0) else (none)) else (none))=some r:=h;clear h
 by_cases c2:0≤(l0.length:Int)
 ·rw [if_pos c2] at H;have c2b0:=eq_true c2;have c2b1:decide (0≤(l0.length:Int))=true:=decide_eq_true c2;clear c2
  by_cases c3:((l0.length:Int):Int).toNat≤11728124029610
  ·rw [if_pos c3] at H;have c3b0:=eq_true c3;have c3b1:decide (((l0.length:Int):Int).toNat≤11728124029610)=true:=decide_eq_true c3;clear c3;obtain ⟨y132,hy132⟩:∃ y_:List (S135),y_=(List.replicate ((l0.length:Int):Int).toNat z135):=⟨_,rfl⟩
   replace H:(laws_toSeenS.l0 k l0 y132 0)=some r:=by first|(rw [hy132];with_reducible exact H)|(have H2_:=(Option.bind_some _ _).symm.trans H;rw [hy132];with_reducible exact H2_)|(have H2_:=(Option.bind_some _ _).symm.trans H;with_reducible exact H2_)|with_reducible exact H|(rw [hy132];exact H)|exact H
   have Ny132:=am hy132;clear hy132;have H':=am H;clear H
   go_enter Try.func115,Try.ntmps115
   go_wp2_with (first|((with_reducible refine gate_dst (N:=7) rfl ?_);refine Kd.R_make k135 _ 135 rfl (N:=7) rfl 90 _ _ rfl (l0.length:Int) rfl rfl Try.underlying90 (.agg #[(.int .i64 0),(.int .i64 0),(.int .i64 0)]) 24 info135 rfl (by decide) (by omega) z135 (ok:=fun _=>True) (okp:=fun _=>True) (k135_mkM _ _ _ z135 ) (fun _ hk=>hk) trivial (oa) (Nat.le_trans (Nat.mul_le_mul_right _ (oa:(l0.length:Int).toNat≤11728124029610)) (by omega)) (Below.refl _ _) (Nat.le_refl _) ?_;intro v133 w4 ho5 hb hg_ hnew_;clear hg_ hnew_;(first|rw [← Ny132.out] at ho5|(simp only [Int.reduceToNat] at ho5;rw [← Ny132.out] at ho5));have HO134:=am (Kd.R_lower ho5 (below_size (bs HB)));replace HB:=am (below_step (bs HB) hb);clear hb ho5))
   go_loopg [4] k (fun kq v4 w'=>∃ (x3_1:List (S135)) (x4_1:Int),v4=.int .i64 x4_1∧Aside0 (laws_toSeenS.l0 kq l0 x3_1 x4_1=some r)∧Aside0 (kq≤k)∧Aside0 (Kd.R k135 135 w' w.heap.size (fun _=>True) v133 x3_1)∧Aside0 (Below w.heap.size w w'))
   case atStart=>exact ⟨(y132),(0),fg,H',⟨Nat.le_refl _⟩,⟨by (with_reducible repeat (first|apply Kd.R_alloc|apply Kd.R_drewN|apply Kd.R_drew));exact HO134.out⟩,⟨bs HB⟩⟩
   case round =>
    clear H'
    try clear c1
    try clear c2
    try clear c2b0
    try clear c2b1
    try clear p2
    try clear c3
    try clear c3b0
    try clear c3b1
    obtain ⟨x3_1,x4_1,rfl,HA,HK1,HO_3,HB⟩:=hrel
    cases gk with
    | zero=>exact absurd HA.out (by simp [laws_toSeenS.l0])
    | succ k1 =>
     have H:=HA.out;clear HA;simp only [laws_toSeenS.l0] at H
     by_cases c6:x4_1<(l0.length:Int)
     ·rw [if_pos c6] at H;have c6b0:decide (x4_1<(l0.length:Int))=true:=decide_eq_true c6;clear c6
      by_cases c7:0≤x4_1
      ·rw [if_pos c7] at H;have c7b0:decide (0≤x4_1)=true:=decide_eq_true c7;clear c7;replace H:=Option.bind_eq_some_iff.mp H;obtain ⟨⟨t136,t137,t138⟩,A80,H⟩:=H;replace H:(if x4_1<(x3_1.length:Int) then (laws_toSeenS.l0 k1 l0 (x3_1.set (x4_1:Int).toNat (⟨t136,t137,t138⟩:S135)) (wrap64 (x4_1+1))) else (none))=some r:=H;have A8:=am A80;clear A80
       by_cases c9:x4_1<(x3_1.length:Int)
       ·rw [if_pos c9] at H;have c9b0:decide (x4_1<(x3_1.length:Int))=true:=decide_eq_true c9;clear c9;obtain ⟨y139,hy139⟩:∃ y_:List (S135),y_=(x3_1.set (x4_1:Int).toNat (⟨t136,t137,t138⟩:S135)):=⟨_,rfl⟩
        replace H:(laws_toSeenS.l0 k1 l0 y139 (wrap64 (x4_1+1)))=some r:=by first|(rw [hy139];with_reducible exact H)|(have H2_:=(Option.bind_some _ _).symm.trans H;rw [hy139];with_reducible exact H2_)|(have H2_:=(Option.bind_some _ _).symm.trans H;with_reducible exact H2_)|with_reducible exact H|(rw [hy139];exact H)|exact H
        have Ny139:=am hy139;clear hy139;have H':=am H;clear H;have p135:0≤(x4_1:Int):=oa;have q135:x4_1<(l0.length:Int):=oa;obtain ⟨ad135,e135,hx135_0,hx135_1,hx135_2⟩:=at_T172 HR0.out x4_1 p135 q135
        cases e135
        replace hx135_0:=cb HB hx135_0;replace hx135_1:=cb HB hx135_1;replace hx135_2:=cb HB hx135_2;replace p135:=eq_true p135;replace q135:=eq_true q135
        go_wp2_with (first|((first|((with_reducible refine gate_callee (f:=135) rfl ?_);refine goesL_ (some 20) rfl rfl Try.func135 (by kernel_rfl) rfl #[.agg #[.int .i64 ((rd_T172 l0 x4_1).f0),.int .i64 ((rd_T172 l0 x4_1).f1),.int .i64 ((rd_T172 l0 x4_1).f2)]] rfl (by (try simp only [List.map_toArray,List.map_cons,List.map_nil]);first|done|rfl|(simp only [List.length_drop,List.length_take];rfl)) ?_;(with_reducible refine (laws_toSeen.calls ((rd_T172 l0 x4_1).f0) ((rd_T172 l0 x4_1).f1) ((rd_T172 l0 x4_1).f2) t136 t137 t138 _ A8.out).mono ?_);rintro e w11 ⟨rfl,hb⟩;refine ⟨_,rfl,?_⟩)|(go_at_call 135;(with_reducible refine (laws_toSeen.calls ((rd_T172 l0 x4_1).f0) ((rd_T172 l0 x4_1).f1) ((rd_T172 l0 x4_1).f2) t136 t137 t138 _ A8.out).mono ?_);rintro e w11 ⟨rfl,hb⟩));replace HO_3:=am (Kd.R_below (rs HO_3) hb);replace HB:=am (below_step (bs HB) hb);(try clear hb);(try clear hb2);(try clear hk);(try clear hi);have p10:0≤(x4_1:Int):=oa;have q10:(x4_1:Int)<((x3_1.length:Int):Int):=oa;obtain ⟨go10,co10,eo10,gb10,gl10,cl10,HG10⟩:=Kd.R_form HO_3.out (by omega);(first|cases eo10|(injection eo10 with ea_ en_ ec_;(first|subst ea_|(injection ea_ with ea_;subst ea_));subst ec_;clear en_));have GB10:=am gb10;have GG10:=am HG10;clear gb10 gl10 HG10;obtain ⟨ce10,hcl10,hM10,hcc10,hfr10⟩:=Kd.R_elem HO_3.out z135 (x4_1:Int) p10 q10;obtain rfl:=k135_openM hM10;have hx10_0:w11.cell? ⟨go10,(x4_1:Int).toNat * 3,none⟩=some (.int .i64 ((rd_T135 x3_1 x4_1).f0)):=hcc10 0 _ rfl;have hx10_1:w11.cell? ⟨go10,(x4_1:Int).toNat * 3+1,none⟩=some (.int .i64 ((rd_T135 x3_1 x4_1).f1)):=hcc10 1 _ rfl;have hx10_2:w11.cell? ⟨go10,(x4_1:Int).toNat * 3+2,none⟩=some (.int .i64 ((rd_T135 x3_1 x4_1).f2)):=hcc10 2 _ rfl;have hf10_0:w11.frozen? ⟨go10,(x4_1:Int).toNat * 3,none⟩=false:=hfr10 0;have hf10_1:w11.frozen? ⟨go10,(x4_1:Int).toNat * 3+1,none⟩=false:=hfr10 1;have hf10_2:w11.frozen? ⟨go10,(x4_1:Int).toNat * 3+2,none⟩=false:=hfr10 2;clear hcl10 hcc10 hfr10 hM10;replace p10:=eq_true p10;replace q10:=eq_true q10;have HX12:=am (show Kd.R k135 135 w11 w.heap.size (fun _=>True) (.slice (some ⟨go10,0,none⟩) x3_1.length co10) x3_1 from (rs HO_3));obtain ⟨ce12,hcl12,hM12,hcc12,hfr12⟩:=Kd.R_elem HX12.out z135 (x4_1:Int) (oa) (by have h_:(x4_1:Int)<((x3_1.length:Int):Int):=oa;first|exact h_|(have e_:=(Kd.R_reads' HO_3.out).1;omega)|simpa using h_);obtain rfl:=k135_openM hM12;have HP12:=Kd.R_seg HX12.out (x4_1:Int) (oa) (by have h_:(x4_1:Int)<((x3_1.length:Int):Int):=oa;first|exact h_|(have e_:=(Kd.R_reads' HO_3.out).1;omega)|simpa using h_) (seg:=[.int .i64 t136,.int .i64 t137,.int .i64 t138]) (j:=0) hcl12 hcc12 (show 3≤3 from by decide) (x':=(⟨t136,t137,t138⟩:S135)) (k135_mkM _ _ _ (⟨t136,t137,t138⟩:S135) ) (fun _ hk=>hk);have hx12_0:=hcc12 0 _ rfl;(try simp only [show (k135).sz=3 from rfl,Nat.mul_one,Nat.add_zero] at hx12_0);have hf12_0:=hfr12 0;(try simp only [show (k135).sz=3 from rfl,Nat.mul_one,Nat.add_zero] at hf12_0);have hx12_1:=hcc12 1 _ rfl;(try simp only [show (k135).sz=3 from rfl,Nat.mul_one,Nat.add_zero] at hx12_1);have hf12_1:=hfr12 1;(try simp only [show (k135).sz=3 from rfl,Nat.mul_one,Nat.add_zero] at hf12_1);have hx12_2:=hcc12 2 _ rfl;(try simp only [show (k135).sz=3 from rfl,Nat.mul_one,Nat.add_zero] at hx12_2);have hf12_2:=hfr12 2;(try simp only [show (k135).sz=3 from rfl,Nat.mul_one,Nat.add_zero] at hf12_2);clear hcl12 hcc12 hfr12 hM12)|((with_reducible refine gate_store (t:=135) (p:=21) rfl ?_);refine store_event (t:=135) (p:=21) (v:=?vo_w13) (w1:=(((w11.setCell ⟨go10,(x4_1:Int).toNat * 3,none⟩ (.int .i64 t136)).setCell ⟨go10,(x4_1:Int).toNat * 3+1,none⟩ (.int .i64 t137)).setCell ⟨go10,(x4_1:Int).toNat * 3+2,none⟩ (.int .i64 t138))) ?hg ?ho ?hn ?hr ?_;(case ho=>rfl);(case hg=>rfl);(case hn=>rfl);(case hr=>first|(go_simp;done)|(go_simp;rfl));intro w13 hw;have hg:w11.grownBy w13 (some go10):=(by rw [hw];exact HP12.2);have hp_:Kd.R k135 135 w13 w.heap.size (fun _=>True) (.slice (some ⟨go10,0,none⟩) x3_1.length co10) y139:=(by rw [hw,Ny139.out];exact HP12.1);clear HP12;have n0_:=am (hp_);have n1_:=am ((by rw [hw];exact below_set (below_set (below_set (HB.out) GB10.out) GB10.out) GB10.out:Below w.heap.size w w13));clear HO_3;clear HB;have HO_3:=n0_;have HB:=n1_;clear n0_ n1_;clear hg hw hp_))
        go_roundg k1
        case measure=>have:=HK1.out;omega
        case rel=>exact ⟨(y139),(wrap64 (x4_1+1)),fg,H',⟨by have:=HK1.out;omega⟩,⟨by (with_reducible repeat (first|apply Kd.R_alloc|apply Kd.R_drewN|apply Kd.R_drew));exact HO_3.out⟩,⟨bs HB⟩⟩
       ·rw [if_neg c9] at H
        exact absurd H (by simp)
      ·rw [if_neg c7] at H
       exact absurd H (by simp)
     ·rw [if_neg c6] at H;have c6b0:decide (x4_1<(l0.length:Int))=false:=decide_eq_false c6;clear c6;obtain rfl:=Option.some.inj H
      go_wp2
      go_ret
      exact ⟨_,ff,by (with_reducible repeat (first|apply Kd.R_alloc|apply Kd.R_drewN|apply Kd.R_drew));exact HO_3.out,bs HB⟩
  ·rw [if_neg c3] at H
   exact absurd H (by simp)
 ·rw [if_neg c2] at H
  exact absurd H (by simp)
set_option maxHeartbeats 8000000 in
set_option maxRecDepth 100000 in
theorem laws_toPartner.calls (k:Nat) (a0_0:ByteArray) (a0_1:Int) (a0_2:Int) (A0_3:Option Addr) (c0_3:Nat) (l0_3:List (S172)) (r1:ByteArray) (r2:Int) (r3:Int) (r4:List (S135)) (w:World) (hr0_3:Kd.C k172 w A0_3 l0_3.length l0_3) (hc0_3:l0_3.length≤c0_3) (h:laws_toPartner.f k a0_0 a0_1 a0_2 l0_3=some (r1,r2,r3,r4)) :
  Calls Try.prog 96 #[.agg #[.string a0_0,.int .i64 a0_1,.int .i64 a0_2,.slice A0_3 l0_3.length c0_3]] w fun e w'=>∃ v3_:Value,e=.returned (.agg #[.string r1,.int .i64 r2,.int .i64 r3,v3_])∧Kd.R k135 135 w' w.heap.size (fun _=>True) v3_ r4∧Below w.heap.size w w':=by
 have hu126:=Try.underlying126;have hu92:=Try.underlying92;have HR0_3:=am hr0_3;have HC0_3:=am hc0_3;clear hr0_3 hc0_3;have HB:=am (Below.refl w.heap.size w);have H:((laws_toSeenS.f k l0_3).bind fun t143=>(some (a0_0,a0_1,a0_2,t143)))=some (r1,r2,r3,r4):=h;clear h;replace H:=Option.bind_eq_some_iff.mp H;obtain ⟨t143,A20,H⟩:=H;replace H:(some (a0_0,a0_1,a0_2,t143))=some (r1,r2,r3,r4):=H;have A2:=am A20;clear A20;simp only [Option.some.injEq,Prod.mk.injEq] at H;obtain ⟨rfl,rfl,rfl,rfl⟩:=H
 go_enter Try.func96,Try.ntmps96
 go_wp2_with (first|((with_reducible refine gate_dst (N:=1) rfl ?_);refine bx 1 (cs:=#[.string a0_0,.int .i64 a0_1,.int .i64 a0_2,.slice A0_3 l0_3.length c0_3]) (t:=126) ?_;intro gb140 hg w3 hbox hb;have BK140:=am (hbox);have GW140:=am ((gs hg (bs HB)));have GE140:=am ((gs hg (bs HB)));replace HB:=am (below_step (bs HB) hb);clear hb hbox hg)|((with_reducible refine gate_dst (N:=2) rfl ?_);refine bx 2 (cs:=#[.string (⟨#[]⟩:ByteArray),.int .i64 0,.int .i64 0,.slice none 0 0]) (t:=92) ?_;intro gb141 hg w4 hbox hb;have BK141:=am (hbox);have GW141:=am ((gs hg (bs HB)));have GE141:=am ((gs hg (bs HB)));replace HB:=am (below_step (bs HB) hb);have NB140_141:=am ((gn hg (ks BK140)));have NB141_140:=am ((gm hg (ks BK140)));replace BK140:=am (blk_below (ks BK140) hb);clear hb hbox hg)|((with_reducible refine gate_dst (N:=3) rfl ?_);refine bx 3 (cs:=#[.string (⟨#[]⟩:ByteArray),.int .i64 0,.int .i64 0,.slice none 0 0]) (t:=92) ?_;intro gb142 hg w5 hbox hb;have BK142:=am (hbox);have GW142:=am ((gs hg (bs HB)));have GE142:=am ((gs hg (bs HB)));replace HB:=am (below_step (bs HB) hb);have NB140_142:=am ((gn hg (ks BK140)));have NB142_140:=am ((gm hg (ks BK140)));replace BK140:=am (blk_below (ks BK140) hb);have NB141_142:=am ((gn hg (ks BK141)));have NB142_141:=am ((gm hg (ks BK141)));replace BK141:=am (blk_below (ks BK141) hb);clear hb hbox hg;have hnb6:=NB140_141.out;have hnc6:=NB141_140.out;have hnb7:=NB140_142.out;have hnc7:=NB142_140.out;obtain ⟨hcz8_0,hcz8_1,hcz8_2,hcz8_3,hfz8_0,hfz8_1,hfz8_2,hfz8_3⟩:=cf4 BK140;have hnb9:=NB142_141.out;have hnc9:=NB141_142.out;have hcz10_0:w5.cell? ⟨gb142,0,none⟩=some (.string (⟨#[]⟩:ByteArray)):=(blk_cell BK142.out 0).trans rfl;have hcz10_1:w5.cell? ⟨gb142,1,none⟩=some (.int .i64 0):=(blk_cell BK142.out 1).trans rfl;have hcz10_2:w5.cell? ⟨gb142,2,none⟩=some (.int .i64 0):=(blk_cell BK142.out 2).trans rfl;have hcz10_3:w5.cell? ⟨gb142,3,none⟩=some (.slice none 0 0):=(blk_cell BK142.out 3).trans rfl;have hfz10_0:=blk_frozen BK142.out 0;have hfz10_1:=blk_frozen BK142.out 1;have hfz10_2:=blk_frozen BK142.out 2;have hfz10_3:=blk_frozen BK142.out 3)|((first|((with_reducible refine gate_callee (f:=115) rfl ?_);refine goesL_ (some 15) rfl rfl Try.func115 (by kernel_rfl) rfl #[.slice A0_3 l0_3.length c0_3] rfl (by (try simp only [List.map_toArray,List.map_cons,List.map_nil]);first|done|rfl|(simp only [List.length_drop,List.length_take];rfl)) ?_;(with_reducible refine (laws_toSeenS.calls k _ _ l0_3 t143 _ ?side1 HC0_3.out A2.out).mono ?_);(case side1=>exact Kd.C_below HR0_3.out (bs HB));rintro e w11 ⟨v144,rfl,ho0,hb⟩;refine ⟨_,rfl,?_⟩)|(go_at_call 115;(with_reducible refine (laws_toSeenS.calls k _ _ l0_3 t143 _ ?side1 HC0_3.out A2.out).mono ?_);(case side1=>exact Kd.C_below HR0_3.out (bs HB));rintro e w11 ⟨v144,rfl,ho0,hb⟩));have HO145:=am (Kd.R_lower ho0 (below_size (bs HB)));replace BK140:=am (blk_below (ks BK140) hb);replace BK141:=am (blk_below (ks BK141) hb);replace BK142:=am (blk_below (g:=gb142) (o:=.cells #[.string a0_0,.int .i64 a0_1,.int .i64 a0_2,.slice none 0 0] 92 (0,0)) (kp BK142) hb);replace HB:=am (below_step (bs HB) hb);(try clear hb);(try clear hb2);(try clear hk);(try clear hi);(try clear ho0);obtain ⟨Ao12,co12,eo12⟩:=Kd.R_slice HO145.out;subst eo12;obtain ⟨hcz13_0,hcz13_1,hcz13_2,hcz13_3,hfz13_0,hfz13_1,hfz13_2,hfz13_3⟩:=cf4 BK142;obtain ⟨hcz14_0,hcz14_1,hcz14_2,hcz14_3,hfz14_0,hfz14_1,hfz14_2,hfz14_3⟩:=cf4 BK141))
 refine bodyPost_ret (results_cell_row rfl _ _ gb141 92 #[.string a0_0,.int .i64 a0_1,.int .i64 a0_2,.slice Ao12 t143.length co12] (0,0) _ rfl (kp BK141) Try.underlying92 rfl (by kernel_rfl)) rfl ?_
 exact ⟨_,ff,by (with_reducible repeat (first|apply Kd.R_alloc|apply Kd.R_drewN|apply Kd.R_drew));exact Kd.R_mono (Kd.R_far (p:=⟨gb141,3,none⟩) (Kd.R_far (p:=⟨gb141,2,none⟩) (Kd.R_far (p:=⟨gb141,1,none⟩) (Kd.R_far (p:=⟨gb141,0,none⟩) (Kd.R_far (p:=⟨gb142,3,none⟩) (Kd.R_types (Kd.R_types HO145.out BK142.out (by decide)) BK141.out (by decide)) (fun _ hk=>hk.1.2) (.slice Ao12 t143.length co12)) (fun _ hk=>hk.2) (.string a0_0)) (fun _ hk=>hk.2) (.int .i64 a0_1)) (fun _ hk=>hk.2) (.int .i64 a0_2)) (fun _ hk=>hk.2) (.slice Ao12 t143.length co12)) (fun _ hk=>trivial),bs HB⟩
set_option maxHeartbeats 8000000 in
set_option maxRecDepth 100000 in
theorem laws_toPartnerS.calls (k:Nat) (A0:Option Addr) (c0:Nat) (l0:List (S126)) (r:List (S92)) (w:World) (hr0:Kd.C k126 w A0 l0.length l0) (hc0:l0.length≤c0) (h:laws_toPartnerS.f k l0=some r) :
  Calls Try.prog 59 #[.slice A0 l0.length c0] w fun e w'=>∃ v0_:Value,e=.returned (v0_)∧Kd.S k92 92 w' w.heap.size (fun _=>True) v0_ r∧Below w.heap.size w w':=by
 have hu126:=Try.underlying126;have hu92:=Try.underlying92;have HR0:=am hr0;have HC0:=am hc0;clear hr0 hc0;have HB:=am (Below.refl w.heap.size w);have H:(if 0≤(l0.length:Int) then (if ((l0.length:Int):Int).toNat≤5026338869833 then (laws_toPartnerS.l0 k l0 (List.replicate ((l0.length:Int):Int).toNat z92) 0) else (none)) else (none))=some r:=h;clear h
 by_cases c2:0≤(l0.length:Int)
 ·rw [if_pos c2] at H;have c2b0:=eq_true c2;have c2b1:decide (0≤(l0.length:Int))=true:=decide_eq_true c2;clear c2
  by_cases c3:((l0.length:Int):Int).toNat≤5026338869833
  ·rw [if_pos c3] at H;have c3b0:=eq_true c3;have c3b1:decide (((l0.length:Int):Int).toNat≤5026338869833)=true:=decide_eq_true c3;clear c3;obtain ⟨y146,hy146⟩:∃ y_:List (S92),y_=(List.replicate ((l0.length:Int):Int).toNat z92):=⟨_,rfl⟩
   replace H:(laws_toPartnerS.l0 k l0 y146 0)=some r:=by first|(rw [hy146];with_reducible exact H)|(have H2_:=(Option.bind_some _ _).symm.trans H;rw [hy146];with_reducible exact H2_)|(have H2_:=(Option.bind_some _ _).symm.trans H;with_reducible exact H2_)|with_reducible exact H|(rw [hy146];exact H)|exact H
   have Ny146:=am hy146;clear hy146;have H':=am H;clear H
   go_enter Try.func59,Try.ntmps59
   go_wp2_with (first|((with_reducible refine gate_dst (N:=7) rfl ?_);refine Kd.S_make k92 _ 92 rfl (N:=7) rfl 22 _ _ rfl (l0.length:Int) rfl rfl Try.underlying22 (.agg #[(.string ⟨#[]⟩),(.int .i64 0),(.int .i64 0),(.slice none 0 0)]) 56 info92 rfl (by decide) (by omega) z92 (ok:=fun _=>True) (okp:=fun _=>True) (k92_mkM _ _ _ z92 (Kd.R_nil _ _ _ _ _)) (fun _ hk=>hk) trivial (oa) (Nat.le_trans (Nat.mul_le_mul_right _ (oa:(l0.length:Int).toNat≤5026338869833)) (by omega)) (Below.refl _ _) (Nat.le_refl _) ?_;intro v147 w4 ho5 hb hg_ hnew_;clear hg_ hnew_;(first|rw [← Ny146.out] at ho5|(simp only [Int.reduceToNat] at ho5;rw [← Ny146.out] at ho5));have HO148:=am (Kd.S_lower ho5 (below_size (bs HB)));replace HB:=am (below_step (bs HB) hb);clear hb ho5))
   go_loopg [4] k (fun kq v4 w'=>∃ (x3_1:List (S92)) (x4_1:Int),v4=.int .i64 x4_1∧Aside0 (laws_toPartnerS.l0 kq l0 x3_1 x4_1=some r)∧Aside0 (kq≤k)∧Aside0 (Kd.S k92 92 w' w.heap.size (fun _=>True) v147 x3_1)∧Aside0 (Below w.heap.size w w'))
   case atStart=>exact ⟨(y146),(0),fg,H',⟨Nat.le_refl _⟩,⟨by (with_reducible repeat (first|apply Kd.S_alloc|apply Kd.S_drewN|apply Kd.S_drew));exact HO148.out⟩,⟨bs HB⟩⟩
   case round =>
    clear H'
    try clear c2
    try clear c2b0
    try clear c2b1
    try clear p2
    try clear c3
    try clear c3b0
    try clear c3b1
    try clear c5
    obtain ⟨x3_1,x4_1,rfl,HA,HK1,HO_3,HB⟩:=hrel
    cases gk with
    | zero=>exact absurd HA.out (by simp [laws_toPartnerS.l0])
    | succ k1 =>
     have H:=HA.out;clear HA;simp only [laws_toPartnerS.l0] at H
     by_cases c6:x4_1<(l0.length:Int)
     ·rw [if_pos c6] at H;have c6b0:decide (x4_1<(l0.length:Int))=true:=decide_eq_true c6;clear c6
      by_cases c7:0≤x4_1
      ·rw [if_pos c7] at H;have c7b0:decide (0≤x4_1)=true:=decide_eq_true c7;clear c7;replace H:=Option.bind_eq_some_iff.mp H;obtain ⟨⟨t150,t151,t152,t153⟩,A80,H⟩:=H;replace H:(if x4_1<(x3_1.length:Int) then (laws_toPartnerS.l0 k1 l0 (x3_1.set (x4_1:Int).toNat (⟨t150,t151,t152,t153⟩:S92)) (wrap64 (x4_1+1))) else (none))=some r:=H;have A8:=am A80;clear A80
       by_cases c9:x4_1<(x3_1.length:Int)
       ·rw [if_pos c9] at H;have c9b0:decide (x4_1<(x3_1.length:Int))=true:=decide_eq_true c9;clear c9;obtain ⟨y156,hy156⟩:∃ y_:List (S92),y_=(x3_1.set (x4_1:Int).toNat (⟨t150,t151,t152,t153⟩:S92)):=⟨_,rfl⟩
        replace H:(laws_toPartnerS.l0 k1 l0 y156 (wrap64 (x4_1+1)))=some r:=by first|(rw [hy156];with_reducible exact H)|(have H2_:=(Option.bind_some _ _).symm.trans H;rw [hy156];with_reducible exact H2_)|(have H2_:=(Option.bind_some _ _).symm.trans H;with_reducible exact H2_)|with_reducible exact H|(rw [hy156];exact H)|exact H
        have Ny156:=am hy156;clear hy156;have H':=am H;clear H;have p149:0≤(x4_1:Int):=oa;have q149:x4_1<(l0.length:Int):=oa;obtain ⟨ad149,A149_3,c149_3,e149,hx149_0,hx149_1,hx149_2,hx149_3,hl149_3,hi149_3⟩:=at_T126 HR0.out x4_1 p149 q149
        cases e149
        replace hx149_0:=cb HB hx149_0;replace hx149_1:=cb HB hx149_1;replace hx149_2:=cb HB hx149_2;replace hx149_3:=cb HB hx149_3;have HR149_3:=am hi149_3;have HC149_3:=am hl149_3;clear hi149_3 hl149_3;replace p149:=eq_true p149;replace q149:=eq_true q149
        go_wp2_with (first|((first|((with_reducible refine gate_callee (f:=96) rfl ?_);refine goesL_ (some 20) rfl rfl Try.func96 (by kernel_rfl) rfl #[.agg #[.string ((rd_T126 l0 x4_1).f0),.int .i64 ((rd_T126 l0 x4_1).f1),.int .i64 ((rd_T126 l0 x4_1).f2),.slice A149_3 ((rd_T126 l0 x4_1).f3).length c149_3]] rfl (by (try simp only [List.map_toArray,List.map_cons,List.map_nil]);first|done|rfl|(simp only [List.length_drop,List.length_take];rfl)) ?_;(with_reducible refine (laws_toPartner.calls k1 ((rd_T126 l0 x4_1).f0) ((rd_T126 l0 x4_1).f1) ((rd_T126 l0 x4_1).f2) _ _ ((rd_T126 l0 x4_1).f3) t150 t151 t152 t153 _ (Kd.C_below HR149_3.out (bs HB)) HC149_3.out A8.out).mono ?_);rintro e w11 ⟨v154,rfl,ho0,hb⟩;refine ⟨_,rfl,?_⟩)|(go_at_call 96;(with_reducible refine (laws_toPartner.calls k1 ((rd_T126 l0 x4_1).f0) ((rd_T126 l0 x4_1).f1) ((rd_T126 l0 x4_1).f2) _ _ ((rd_T126 l0 x4_1).f3) t150 t151 t152 t153 _ (Kd.C_below HR149_3.out (bs HB)) HC149_3.out A8.out).mono ?_);rintro e w11 ⟨v154,rfl,ho0,hb⟩));have n0_:=am (Kd.S_elder' (by (with_reducible repeat (first|apply Kd.S_alloc|apply Kd.S_drewN|apply Kd.S_drew));exact HO_3.out) (Kd.R_base ho0) hb);have n1_:=am (Kd.R_lower ho0 (below_size (bs HB)));have n2_:=am (below_step (bs HB) hb);clear HO_3;clear HB;have HO_3:=n0_;have HO155:=n1_;have HB:=n2_;clear n0_ n1_ n2_;(try clear hb);(try clear hb2);(try clear hk);(try clear hi);(try clear ho0);have p10:0≤(x4_1:Int):=oa;have q10:(x4_1:Int)<((x3_1.length:Int):Int):=oa;obtain ⟨go10,co10,eo10,gb10,gl10,cl10,HG10⟩:=Kd.S_form HO_3.out (by omega);(first|cases eo10|(injection eo10 with ea_ en_ ec_;(first|subst ea_|(injection ea_ with ea_;subst ea_));subst ec_;clear en_));have GB10:=am gb10;have GG10:=am HG10;clear gb10 gl10 HG10;obtain ⟨_,ce10,hcl10,hM10,hcc10,hfr10,_,_⟩:=Kd.S_elem HO_3.out z92 (x4_1:Int) p10 q10;obtain ⟨ve10_3,rfl,ge10_3⟩:=k92_openM hM10;have hx10_0:w11.cell? ⟨go10,(x4_1:Int).toNat * 4,none⟩=some (.string ((rd_T92 x3_1 x4_1).f0)):=hcc10 0 _ rfl;have hx10_1:w11.cell? ⟨go10,(x4_1:Int).toNat * 4+1,none⟩=some (.int .i64 ((rd_T92 x3_1 x4_1).f1)):=hcc10 1 _ rfl;have hx10_2:w11.cell? ⟨go10,(x4_1:Int).toNat * 4+2,none⟩=some (.int .i64 ((rd_T92 x3_1 x4_1).f2)):=hcc10 2 _ rfl;have hx10_3:w11.cell? ⟨go10,(x4_1:Int).toNat * 4+3,none⟩=some (ve10_3):=hcc10 3 _ rfl;have hf10_0:w11.frozen? ⟨go10,(x4_1:Int).toNat * 4,none⟩=false:=hfr10 0;have hf10_1:w11.frozen? ⟨go10,(x4_1:Int).toNat * 4+1,none⟩=false:=hfr10 1;have hf10_2:w11.frozen? ⟨go10,(x4_1:Int).toNat * 4+2,none⟩=false:=hfr10 2;have hf10_3:w11.frozen? ⟨go10,(x4_1:Int).toNat * 4+3,none⟩=false:=hfr10 3;clear hcl10 hcc10 hfr10 hM10;replace p10:=eq_true p10;replace q10:=eq_true q10;have n_:=am (Kd.S_mono (ok':=(fun k_=>some k_≠(v154:Value).ownBlock)) HO_3.out (fun k_ hk=>hk.2));clear HO_3;have HO_3:=n_;clear n_;have HX12:=am (show Kd.S k92 92 w11 w.heap.size (fun k_=>((fun _=>True)) k_∧¬ ((fun k_=>some k_=(v154:Value).ownBlock)) k_) (.slice (some ⟨go10,0,none⟩) x3_1.length co10) x3_1 from (by (with_reducible repeat (first|apply Kd.S_alloc|apply Kd.S_drewN|apply Kd.S_drew));exact Kd.S_mono HO_3.out (fun k_ hk=>⟨trivial,fun e_=>hk e_⟩)));obtain ⟨oki12,ce12,hcl12,hM12,hcc12,hfr12,hoki12,hH12⟩:=Kd.S_elem HX12.out z92 (x4_1:Int) (oa) (by have h_:(x4_1:Int)<((x3_1.length:Int):Int):=oa;first|exact h_|(have e_:=(Kd.S_reads' HO_3.out).1;omega)|simpa using h_);obtain ⟨ve12_3,rfl,ge12_3⟩:=k92_openM hM12;have HP12:=Kd.S_seg hH12 (oa) (by have h_:(x4_1:Int)<((x3_1.length:Int):Int):=oa;first|exact h_|(have e_:=(Kd.S_reads' HO_3.out).1;omega)|simpa using h_) (seg:=[.string t150,.int .i64 t151,.int .i64 t152,v154]) (j:=0) (show 4≤4 from by decide) (x':=(⟨t150,t151,t152,t153⟩:S92)) (k92_mkM _ _ _ (⟨t150,t151,t152,t153⟩:S92) (Kd.R_mono (Kd.R_tight rfl (Kd.R_mono (ok':=fun k_=>((fun _=>True)) k_∧k_≠go10) (Kd.R_apart' (HO155.out) (Kd.S_typed HO_3.out) (by decide)) (fun k_ hk=>⟨trivial,fun e_=>(hk.2) (by rw [e_];rfl)⟩))) (fun _ h_=>Or.inr (h_)))) (fun _ hk=>hk) (fun k_ hk_=>((Kd.R_mono (ok':=fun k_=>((fun _=>True)) k_∧k_≠go10) (Kd.R_apart' (HO155.out) (Kd.S_typed HO_3.out) (by decide)) (fun k_ hk=>⟨trivial,fun e_=>(hk.2) (by rw [e_];rfl)⟩))).1 k_ hk_.symm);have hx12_0:=hcc12 0 _ rfl;(try simp only [show (k92).sz=4 from rfl,Nat.mul_one,Nat.add_zero] at hx12_0);have hf12_0:=hfr12 0;(try simp only [show (k92).sz=4 from rfl,Nat.mul_one,Nat.add_zero] at hf12_0);have hx12_1:=hcc12 1 _ rfl;(try simp only [show (k92).sz=4 from rfl,Nat.mul_one,Nat.add_zero] at hx12_1);have hf12_1:=hfr12 1;(try simp only [show (k92).sz=4 from rfl,Nat.mul_one,Nat.add_zero] at hf12_1);have hx12_2:=hcc12 2 _ rfl;(try simp only [show (k92).sz=4 from rfl,Nat.mul_one,Nat.add_zero] at hx12_2);have hf12_2:=hfr12 2;(try simp only [show (k92).sz=4 from rfl,Nat.mul_one,Nat.add_zero] at hf12_2);have hx12_3:=hcc12 3 _ rfl;(try simp only [show (k92).sz=4 from rfl,Nat.mul_one,Nat.add_zero] at hx12_3);have hf12_3:=hfr12 3;(try simp only [show (k92).sz=4 from rfl,Nat.mul_one,Nat.add_zero] at hf12_3);clear hcl12 hcc12 hfr12 hM12 hoki12 hH12)|((with_reducible refine gate_store (t:=92) (p:=21) rfl ?_);refine store_event (t:=92) (p:=21) (v:=?vo_w13) (w1:=((((w11.setCell ⟨go10,(x4_1:Int).toNat * 4,none⟩ (.string t150)).setCell ⟨go10,(x4_1:Int).toNat * 4+1,none⟩ (.int .i64 t151)).setCell ⟨go10,(x4_1:Int).toNat * 4+2,none⟩ (.int .i64 t152)).setCell ⟨go10,(x4_1:Int).toNat * 4+3,none⟩ (v154))) ?hg ?ho ?hn ?hr ?_;(case ho=>rfl);(case hg=>rfl);(case hn=>rfl);(case hr=>first|(go_simp;done)|(go_simp;rfl)|((try (obtain ⟨Ah3_,ch3_,eh3_⟩:=Kd.R_slice HO155.out;subst eh3_));first|(go_simp;done)|(go_simp;rfl)));intro w13 hw;have hg:w11.grownBy w13 (some go10):=(by rw [hw];exact HP12.2);have hp_:Kd.S k92 92 w13 w.heap.size (fun _=>True) (.slice (some ⟨go10,0,none⟩) x3_1.length co10) y156:=(by rw [hw,Ny156.out];exact HP12.1);clear HP12;have n0_:=am (hp_);have n1_:=am ((by rw [hw];exact below_set (below_set (below_set (below_set (HB.out) GB10.out) GB10.out) GB10.out) GB10.out:Below w.heap.size w w13));clear HO_3;clear HB;clear HO155;have HO_3:=n0_;have HB:=n1_;clear n0_ n1_;clear hg hw hp_))
        go_roundg k1
        case measure=>have:=HK1.out;omega
        case rel=>exact ⟨(y156),(wrap64 (x4_1+1)),fg,H',⟨by have:=HK1.out;omega⟩,⟨by (with_reducible repeat (first|apply Kd.S_alloc|apply Kd.S_drewN|apply Kd.S_drew));exact HO_3.out⟩,⟨bs HB⟩⟩
       ·rw [if_neg c9] at H
        exact absurd H (by simp)
      ·rw [if_neg c7] at H
       exact absurd H (by simp)
     ·rw [if_neg c6] at H;have c6b0:decide (x4_1<(l0.length:Int))=false:=decide_eq_false c6;clear c6;obtain rfl:=Option.some.inj H
      go_wp2
      go_ret
      exact ⟨_,ff,by (with_reducible repeat (first|apply Kd.S_alloc|apply Kd.S_drewN|apply Kd.S_drew));exact HO_3.out,bs HB⟩
  ·rw [if_neg c3] at H
   exact absurd H (by simp)
 ·rw [if_neg c2] at H
  exact absurd H (by simp)
end Go.Proofs.Ytjjfjgdhloideaa.QI
namespace Go.Proofs.Ytjjfjgdhloideaa.QI
open Go.RowKit Go.Proofs.YtjjfjgdhloideaaW.PrintWords Go.Proofs.YtjjfjgdhloideaaW.PrintLast Go.Proofs.YtjjfjgdhloideaaW.PrintMore
attribute [local go_sem] max2_int min2_int max_two min_two max_three min_three max_four min_four   -- for this text's walks alone
set_option linter.unusedVariables false
set_option linter.unusedSimpArgs false
set_option maxHeartbeats 8000000 in
set_option maxRecDepth 100000 in
theorem laws_toCross.calls (a0_0:ByteArray) (a0_1:ByteArray) (a0_2:ByteArray) (r1:ByteArray) (r2:ByteArray) (r3:ByteArray) (w:World) (h:laws_toCross.f a0_0 a0_1 a0_2=some (r1,r2,r3)) :
  Calls Try.prog 97 #[.agg #[.string a0_0,.string a0_1,.string a0_2]] w fun e w'=>e=.returned (.agg #[.string r1,.string r2,.string r3])∧Below w.heap.size w w':=by
 have hu128:=Try.underlying128;have hu102:=Try.underlying102;have HB:=am (Below.refl w.heap.size w);have H:(some (a0_0,a0_1,a0_2))=some (r1,r2,r3):=h;clear h;simp only [Option.some.injEq,Prod.mk.injEq] at H;obtain ⟨rfl,rfl,rfl⟩:=H
 go_enter Try.func97,Try.ntmps97
 go_wp2_with (first|((with_reducible refine gate_dst (N:=1) rfl ?_);refine bx 1 (cs:=#[.string a0_0,.string a0_1,.string a0_2]) (t:=128) ?_;intro gb157 hg w2 hbox hb;have BK157:=am (hbox);have GW157:=am ((gs hg (bs HB)));have GE157:=am ((gs hg (bs HB)));replace HB:=am (below_step (bs HB) hb);clear hb hbox hg)|((with_reducible refine gate_dst (N:=2) rfl ?_);refine bx 2 (cs:=#[.string (⟨#[]⟩:ByteArray),.string (⟨#[]⟩:ByteArray),.string (⟨#[]⟩:ByteArray)]) (t:=102) ?_;intro gb158 hg w3 hbox hb;have BK158:=am (hbox);have GW158:=am ((gs hg (bs HB)));have GE158:=am ((gs hg (bs HB)));replace HB:=am (below_step (bs HB) hb);have NB157_158:=am ((gn hg (ks BK157)));have NB158_157:=am ((gm hg (ks BK157)));replace BK157:=am (blk_below (ks BK157) hb);clear hb hbox hg)|((with_reducible refine gate_dst (N:=3) rfl ?_);refine bx 3 (cs:=#[.string (⟨#[]⟩:ByteArray),.string (⟨#[]⟩:ByteArray),.string (⟨#[]⟩:ByteArray)]) (t:=102) ?_;intro gb159 hg w4 hbox hb;have BK159:=am (hbox);have GW159:=am ((gs hg (bs HB)));have GE159:=am ((gs hg (bs HB)));replace HB:=am (below_step (bs HB) hb);have NB157_159:=am ((gn hg (ks BK157)));have NB159_157:=am ((gm hg (ks BK157)));replace BK157:=am (blk_below (ks BK157) hb);have NB158_159:=am ((gn hg (ks BK158)));have NB159_158:=am ((gm hg (ks BK158)));replace BK158:=am (blk_below (ks BK158) hb);clear hb hbox hg;have hnb5:=NB157_158.out;have hnc5:=NB158_157.out;have hnb6:=NB157_159.out;have hnc6:=NB159_157.out;obtain ⟨hcz7_0,hcz7_1,hcz7_2,hfz7_0,hfz7_1,hfz7_2⟩:=cf3 BK157;have hnb8:=NB159_158.out;have hnc8:=NB158_159.out;obtain ⟨hcz9_0,hcz9_1,hcz9_2,hfz9_0,hfz9_1,hfz9_2⟩:=cf3 BK159;obtain ⟨hcz10_0,hcz10_1,hcz10_2,hfz10_0,hfz10_1,hfz10_2⟩:=cf3 BK158))
 refine bodyPost_ret (results_cell_row rfl _ _ gb158 102 #[.string a0_0,.string a0_1,.string a0_2] (0,0) _ rfl (kp BK158) Try.underlying102 rfl (by kernel_rfl)) rfl ?_
 exact ⟨ff,bs HB⟩
set_option maxHeartbeats 8000000 in
set_option maxRecDepth 100000 in
theorem laws_toCrossS.calls (k:Nat) (A0:Option Addr) (c0:Nat) (l0:List (S128)) (r:List (S102)) (w:World) (hr0:Kd.C k128 w A0 l0.length l0) (hc0:l0.length≤c0) (h:laws_toCrossS.f k l0=some r) :
  Calls Try.prog 60 #[.slice A0 l0.length c0] w fun e w'=>∃ v0_:Value,e=.returned (v0_)∧Kd.R k102 102 w' w.heap.size (fun _=>True) v0_ r∧Below w.heap.size w w':=by
 have hu128:=Try.underlying128;have hu102:=Try.underlying102;have HR0:=am hr0;have HC0:=am hc0;clear hr0 hc0;have HB:=am (Below.refl w.heap.size w);have H:(if 0≤(l0.length:Int) then (if ((l0.length:Int):Int).toNat≤5864062014805 then (laws_toCrossS.l0 k l0 (List.replicate ((l0.length:Int):Int).toNat z102) 0) else (none)) else (none))=some r:=h;clear h
 by_cases c2:0≤(l0.length:Int)
 ·rw [if_pos c2] at H;have c2b0:=eq_true c2;have c2b1:decide (0≤(l0.length:Int))=true:=decide_eq_true c2;clear c2
  by_cases c3:((l0.length:Int):Int).toNat≤5864062014805
  ·rw [if_pos c3] at H;have c3b0:=eq_true c3;have c3b1:decide (((l0.length:Int):Int).toNat≤5864062014805)=true:=decide_eq_true c3;clear c3;obtain ⟨y160,hy160⟩:∃ y_:List (S102),y_=(List.replicate ((l0.length:Int):Int).toNat z102):=⟨_,rfl⟩
   replace H:(laws_toCrossS.l0 k l0 y160 0)=some r:=by first|(rw [hy160];with_reducible exact H)|(have H2_:=(Option.bind_some _ _).symm.trans H;rw [hy160];with_reducible exact H2_)|(have H2_:=(Option.bind_some _ _).symm.trans H;with_reducible exact H2_)|with_reducible exact H|(rw [hy160];exact H)|exact H
   have Ny160:=am hy160;clear hy160;have H':=am H;clear H
   go_enter Try.func60,Try.ntmps60
   go_wp2_with (first|((with_reducible refine gate_dst (N:=7) rfl ?_);refine Kd.R_make k102 _ 102 rfl (N:=7) rfl 23 _ _ rfl (l0.length:Int) rfl rfl Try.underlying23 (.agg #[(.string ⟨#[]⟩),(.string ⟨#[]⟩),(.string ⟨#[]⟩)]) 48 info102 rfl (by decide) (by omega) z102 (ok:=fun _=>True) (okp:=fun _=>True) (k102_mkM _ _ _ z102 ) (fun _ hk=>hk) trivial (oa) (Nat.le_trans (Nat.mul_le_mul_right _ (oa:(l0.length:Int).toNat≤5864062014805)) (by omega)) (Below.refl _ _) (Nat.le_refl _) ?_;intro v161 w4 ho5 hb hg_ hnew_;clear hg_ hnew_;(first|rw [← Ny160.out] at ho5|(simp only [Int.reduceToNat] at ho5;rw [← Ny160.out] at ho5));have HO162:=am (Kd.R_lower ho5 (below_size (bs HB)));replace HB:=am (below_step (bs HB) hb);clear hb ho5))
   go_loopg [4] k (fun kq v4 w'=>∃ (x3_1:List (S102)) (x4_1:Int),v4=.int .i64 x4_1∧Aside0 (laws_toCrossS.l0 kq l0 x3_1 x4_1=some r)∧Aside0 (kq≤k)∧Aside0 (Kd.R k102 102 w' w.heap.size (fun _=>True) v161 x3_1)∧Aside0 (Below w.heap.size w w'))
   case atStart=>exact ⟨(y160),(0),fg,H',⟨Nat.le_refl _⟩,⟨by (with_reducible repeat (first|apply Kd.R_alloc|apply Kd.R_drewN|apply Kd.R_drew));exact HO162.out⟩,⟨bs HB⟩⟩
   case round =>
    clear H'
    try clear c2
    try clear c2b0
    try clear c2b1
    try clear p2
    try clear c3
    try clear c3b0
    try clear c3b1
    obtain ⟨x3_1,x4_1,rfl,HA,HK1,HO_3,HB⟩:=hrel
    cases gk with
    | zero=>exact absurd HA.out (by simp [laws_toCrossS.l0])
    | succ k1 =>
     have H:=HA.out;clear HA;simp only [laws_toCrossS.l0] at H
     by_cases c6:x4_1<(l0.length:Int)
     ·rw [if_pos c6] at H;have c6b0:decide (x4_1<(l0.length:Int))=true:=decide_eq_true c6;clear c6
      by_cases c7:0≤x4_1
      ·rw [if_pos c7] at H;have c7b0:decide (0≤x4_1)=true:=decide_eq_true c7;clear c7;replace H:=Option.bind_eq_some_iff.mp H;obtain ⟨⟨t164,t165,t166⟩,A80,H⟩:=H;replace H:(if x4_1<(x3_1.length:Int) then (laws_toCrossS.l0 k1 l0 (x3_1.set (x4_1:Int).toNat (⟨t164,t165,t166⟩:S102)) (wrap64 (x4_1+1))) else (none))=some r:=H;have A8:=am A80;clear A80
       by_cases c9:x4_1<(x3_1.length:Int)
       ·rw [if_pos c9] at H;have c9b0:decide (x4_1<(x3_1.length:Int))=true:=decide_eq_true c9;clear c9;obtain ⟨y167,hy167⟩:∃ y_:List (S102),y_=(x3_1.set (x4_1:Int).toNat (⟨t164,t165,t166⟩:S102)):=⟨_,rfl⟩
        replace H:(laws_toCrossS.l0 k1 l0 y167 (wrap64 (x4_1+1)))=some r:=by first|(rw [hy167];with_reducible exact H)|(have H2_:=(Option.bind_some _ _).symm.trans H;rw [hy167];with_reducible exact H2_)|(have H2_:=(Option.bind_some _ _).symm.trans H;with_reducible exact H2_)|with_reducible exact H|(rw [hy167];exact H)|exact H
        have Ny167:=am hy167;clear hy167;have H':=am H;clear H;have p163:0≤(x4_1:Int):=oa;have q163:x4_1<(l0.length:Int):=oa;obtain ⟨ad163,e163,hx163_0,hx163_1,hx163_2⟩:=at_T128 HR0.out x4_1 p163 q163
        cases e163
        replace hx163_0:=cb HB hx163_0;replace hx163_1:=cb HB hx163_1;replace hx163_2:=cb HB hx163_2;replace p163:=eq_true p163;replace q163:=eq_true q163
        go_wp2_with (first|((first|((with_reducible refine gate_callee (f:=97) rfl ?_);refine goesL_ (some 20) rfl rfl Try.func97 (by kernel_rfl) rfl #[.agg #[.string ((rd_T128 l0 x4_1).f0),.string ((rd_T128 l0 x4_1).f1),.string ((rd_T128 l0 x4_1).f2)]] rfl (by (try simp only [List.map_toArray,List.map_cons,List.map_nil]);first|done|rfl|(simp only [List.length_drop,List.length_take];rfl)) ?_;(with_reducible refine (laws_toCross.calls ((rd_T128 l0 x4_1).f0) ((rd_T128 l0 x4_1).f1) ((rd_T128 l0 x4_1).f2) t164 t165 t166 _ A8.out).mono ?_);rintro e w11 ⟨rfl,hb⟩;refine ⟨_,rfl,?_⟩)|(go_at_call 97;(with_reducible refine (laws_toCross.calls ((rd_T128 l0 x4_1).f0) ((rd_T128 l0 x4_1).f1) ((rd_T128 l0 x4_1).f2) t164 t165 t166 _ A8.out).mono ?_);rintro e w11 ⟨rfl,hb⟩));replace HO_3:=am (Kd.R_below (rs HO_3) hb);replace HB:=am (below_step (bs HB) hb);(try clear hb);(try clear hb2);(try clear hk);(try clear hi);have p10:0≤(x4_1:Int):=oa;have q10:(x4_1:Int)<((x3_1.length:Int):Int):=oa;obtain ⟨go10,co10,eo10,gb10,gl10,cl10,HG10⟩:=Kd.R_form HO_3.out (by omega);(first|cases eo10|(injection eo10 with ea_ en_ ec_;(first|subst ea_|(injection ea_ with ea_;subst ea_));subst ec_;clear en_));have GB10:=am gb10;have GG10:=am HG10;clear gb10 gl10 HG10;obtain ⟨ce10,hcl10,hM10,hcc10,hfr10⟩:=Kd.R_elem HO_3.out z102 (x4_1:Int) p10 q10;obtain rfl:=k102_openM hM10;have hx10_0:w11.cell? ⟨go10,(x4_1:Int).toNat * 3,none⟩=some (.string ((rd_T102 x3_1 x4_1).f0)):=hcc10 0 _ rfl;have hx10_1:w11.cell? ⟨go10,(x4_1:Int).toNat * 3+1,none⟩=some (.string ((rd_T102 x3_1 x4_1).f1)):=hcc10 1 _ rfl;have hx10_2:w11.cell? ⟨go10,(x4_1:Int).toNat * 3+2,none⟩=some (.string ((rd_T102 x3_1 x4_1).f2)):=hcc10 2 _ rfl;have hf10_0:w11.frozen? ⟨go10,(x4_1:Int).toNat * 3,none⟩=false:=hfr10 0;have hf10_1:w11.frozen? ⟨go10,(x4_1:Int).toNat * 3+1,none⟩=false:=hfr10 1;have hf10_2:w11.frozen? ⟨go10,(x4_1:Int).toNat * 3+2,none⟩=false:=hfr10 2;clear hcl10 hcc10 hfr10 hM10;replace p10:=eq_true p10;replace q10:=eq_true q10;have HX12:=am (show Kd.R k102 102 w11 w.heap.size (fun _=>True) (.slice (some ⟨go10,0,none⟩) x3_1.length co10) x3_1 from (rs HO_3));obtain ⟨ce12,hcl12,hM12,hcc12,hfr12⟩:=Kd.R_elem HX12.out z102 (x4_1:Int) (oa) (by have h_:(x4_1:Int)<((x3_1.length:Int):Int):=oa;first|exact h_|(have e_:=(Kd.R_reads' HO_3.out).1;omega)|simpa using h_);obtain rfl:=k102_openM hM12;have HP12:=Kd.R_seg HX12.out (x4_1:Int) (oa) (by have h_:(x4_1:Int)<((x3_1.length:Int):Int):=oa;first|exact h_|(have e_:=(Kd.R_reads' HO_3.out).1;omega)|simpa using h_) (seg:=[.string t164,.string t165,.string t166]) (j:=0) hcl12 hcc12 (show 3≤3 from by decide) (x':=(⟨t164,t165,t166⟩:S102)) (k102_mkM _ _ _ (⟨t164,t165,t166⟩:S102) ) (fun _ hk=>hk);have hx12_0:=hcc12 0 _ rfl;(try simp only [show (k102).sz=3 from rfl,Nat.mul_one,Nat.add_zero] at hx12_0);have hf12_0:=hfr12 0;(try simp only [show (k102).sz=3 from rfl,Nat.mul_one,Nat.add_zero] at hf12_0);have hx12_1:=hcc12 1 _ rfl;(try simp only [show (k102).sz=3 from rfl,Nat.mul_one,Nat.add_zero] at hx12_1);have hf12_1:=hfr12 1;(try simp only [show (k102).sz=3 from rfl,Nat.mul_one,Nat.add_zero] at hf12_1);have hx12_2:=hcc12 2 _ rfl;(try simp only [show (k102).sz=3 from rfl,Nat.mul_one,Nat.add_zero] at hx12_2);have hf12_2:=hfr12 2;(try simp only [show (k102).sz=3 from rfl,Nat.mul_one,Nat.add_zero] at hf12_2);clear hcl12 hcc12 hfr12 hM12)|((with_reducible refine gate_store (t:=102) (p:=21) rfl ?_);refine store_event (t:=102) (p:=21) (v:=?vo_w13) (w1:=(((w11.setCell ⟨go10,(x4_1:Int).toNat * 3,none⟩ (.string t164)).setCell ⟨go10,(x4_1:Int).toNat * 3+1,none⟩ (.string t165)).setCell ⟨go10,(x4_1:Int).toNat * 3+2,none⟩ (.string t166))) ?hg ?ho ?hn ?hr ?_;(case ho=>rfl);(case hg=>rfl);(case hn=>rfl);(case hr=>first|(go_simp;done)|(go_simp;rfl));intro w13 hw;have hg:w11.grownBy w13 (some go10):=(by rw [hw];exact HP12.2);have hp_:Kd.R k102 102 w13 w.heap.size (fun _=>True) (.slice (some ⟨go10,0,none⟩) x3_1.length co10) y167:=(by rw [hw,Ny167.out];exact HP12.1);clear HP12;have n0_:=am (hp_);have n1_:=am ((by rw [hw];exact below_set (below_set (below_set (HB.out) GB10.out) GB10.out) GB10.out:Below w.heap.size w w13));clear HO_3;clear HB;have HO_3:=n0_;have HB:=n1_;clear n0_ n1_;clear hg hw hp_))
        go_roundg k1
        case measure=>have:=HK1.out;omega
        case rel=>exact ⟨(y167),(wrap64 (x4_1+1)),fg,H',⟨by have:=HK1.out;omega⟩,⟨by (with_reducible repeat (first|apply Kd.R_alloc|apply Kd.R_drewN|apply Kd.R_drew));exact HO_3.out⟩,⟨bs HB⟩⟩
       ·rw [if_neg c9] at H
        exact absurd H (by simp)
      ·rw [if_neg c7] at H
       exact absurd H (by simp)
     ·rw [if_neg c6] at H;have c6b0:decide (x4_1<(l0.length:Int))=false:=decide_eq_false c6;clear c6;obtain rfl:=Option.some.inj H
      go_wp2
      go_ret
      exact ⟨_,ff,by (with_reducible repeat (first|apply Kd.R_alloc|apply Kd.R_drewN|apply Kd.R_drew));exact HO_3.out,bs HB⟩
  ·rw [if_neg c3] at H
   exact absurd H (by simp)
 ·rw [if_neg c2] at H
  exact absurd H (by simp)
set_option maxHeartbeats 8000000 in
set_option maxRecDepth 100000 in
theorem laws_toStock.calls (a0_0:ByteArray) (a0_1:Int) (r1:ByteArray) (r2:Int) (w:World) (h:laws_toStock.f a0_0 a0_1=some (r1,r2)) :
  Calls Try.prog 81 #[.agg #[.string a0_0,.int .i64 a0_1]] w fun e w'=>e=.returned (.agg #[.string r1,.int .i64 r2])∧Below w.heap.size w w':=by
 have hu111:=Try.underlying111;have hu71:=Try.underlying71;have HB:=am (Below.refl w.heap.size w);have H:(some (a0_0,a0_1))=some (r1,r2):=h;clear h;simp only [Option.some.injEq,Prod.mk.injEq] at H;obtain ⟨rfl,rfl⟩:=H
 go_enter Try.func81,Try.ntmps81
 go_wp2_with (first|((with_reducible refine gate_dst (N:=1) rfl ?_);refine bx 1 (cs:=#[.string a0_0,.int .i64 a0_1]) (t:=111) ?_;intro gb168 hg w2 hbox hb;have BK168:=am (hbox);have GW168:=am ((gs hg (bs HB)));have GE168:=am ((gs hg (bs HB)));replace HB:=am (below_step (bs HB) hb);clear hb hbox hg)|((with_reducible refine gate_dst (N:=2) rfl ?_);refine bx 2 (cs:=#[.string (⟨#[]⟩:ByteArray),.int .i64 0]) (t:=71) ?_;intro gb169 hg w3 hbox hb;have BK169:=am (hbox);have GW169:=am ((gs hg (bs HB)));have GE169:=am ((gs hg (bs HB)));replace HB:=am (below_step (bs HB) hb);have NB168_169:=am ((gn hg (ks BK168)));have NB169_168:=am ((gm hg (ks BK168)));replace BK168:=am (blk_below (ks BK168) hb);clear hb hbox hg)|((with_reducible refine gate_dst (N:=3) rfl ?_);refine bx 3 (cs:=#[.string (⟨#[]⟩:ByteArray),.int .i64 0]) (t:=71) ?_;intro gb170 hg w4 hbox hb;have BK170:=am (hbox);have GW170:=am ((gs hg (bs HB)));have GE170:=am ((gs hg (bs HB)));replace HB:=am (below_step (bs HB) hb);have NB168_170:=am ((gn hg (ks BK168)));have NB170_168:=am ((gm hg (ks BK168)));replace BK168:=am (blk_below (ks BK168) hb);have NB169_170:=am ((gn hg (ks BK169)));have NB170_169:=am ((gm hg (ks BK169)));replace BK169:=am (blk_below (ks BK169) hb);clear hb hbox hg;have hnb5:=NB168_169.out;have hnc5:=NB169_168.out;have hnb6:=NB168_170.out;have hnc6:=NB170_168.out;obtain ⟨hcz7_0,hcz7_1,hfz7_0,hfz7_1⟩:=cf2 BK168;have hnb8:=NB170_169.out;have hnc8:=NB169_170.out;obtain ⟨hcz9_0,hcz9_1,hfz9_0,hfz9_1⟩:=cf2 BK170;obtain ⟨hcz10_0,hcz10_1,hfz10_0,hfz10_1⟩:=cf2 BK169))
 refine bodyPost_ret (results_cell_row rfl _ _ gb169 71 #[.string a0_0,.int .i64 a0_1] (0,0) _ rfl (kp BK169) Try.underlying71 rfl (by kernel_rfl)) rfl ?_
 exact ⟨ff,bs HB⟩
set_option maxHeartbeats 8000000 in
set_option maxRecDepth 100000 in
theorem laws_toStockS.calls (k:Nat) (A0:Option Addr) (c0:Nat) (l0:List (S111)) (r:List (S71)) (w:World) (hr0:Kd.C k111 w A0 l0.length l0) (hc0:l0.length≤c0) (h:laws_toStockS.f k l0=some r) :
  Calls Try.prog 42 #[.slice A0 l0.length c0] w fun e w'=>∃ v0_:Value,e=.returned (v0_)∧Kd.R k71 71 w' w.heap.size (fun _=>True) v0_ r∧Below w.heap.size w w':=by
 have hu111:=Try.underlying111;have hu71:=Try.underlying71;have HR0:=am hr0;have HC0:=am hc0;clear hr0 hc0;have HB:=am (Below.refl w.heap.size w);have H:(if 0≤(l0.length:Int) then (if ((l0.length:Int):Int).toNat≤11728124029610 then (laws_toStockS.l0 k l0 (List.replicate ((l0.length:Int):Int).toNat z71) 0) else (none)) else (none))=some r:=h;clear h
 by_cases c2:0≤(l0.length:Int)
 ·rw [if_pos c2] at H;have c2b0:=eq_true c2;have c2b1:decide (0≤(l0.length:Int))=true:=decide_eq_true c2;clear c2
  by_cases c3:((l0.length:Int):Int).toNat≤11728124029610
  ·rw [if_pos c3] at H;have c3b0:=eq_true c3;have c3b1:decide (((l0.length:Int):Int).toNat≤11728124029610)=true:=decide_eq_true c3;clear c3;obtain ⟨y171,hy171⟩:∃ y_:List (S71),y_=(List.replicate ((l0.length:Int):Int).toNat z71):=⟨_,rfl⟩
   replace H:(laws_toStockS.l0 k l0 y171 0)=some r:=by first|(rw [hy171];with_reducible exact H)|(have H2_:=(Option.bind_some _ _).symm.trans H;rw [hy171];with_reducible exact H2_)|(have H2_:=(Option.bind_some _ _).symm.trans H;with_reducible exact H2_)|with_reducible exact H|(rw [hy171];exact H)|exact H
   have Ny171:=am hy171;clear hy171;have H':=am H;clear H
   go_enter Try.func42,Try.ntmps42
   go_wp2_with (first|((with_reducible refine gate_dst (N:=7) rfl ?_);refine Kd.R_make k71 _ 71 rfl (N:=7) rfl 24 _ _ rfl (l0.length:Int) rfl rfl Try.underlying24 (.agg #[(.string ⟨#[]⟩),(.int .i64 0)]) 24 info71 rfl (by decide) (by omega) z71 (ok:=fun _=>True) (okp:=fun _=>True) (k71_mkM _ _ _ z71 ) (fun _ hk=>hk) trivial (oa) (Nat.le_trans (Nat.mul_le_mul_right _ (oa:(l0.length:Int).toNat≤11728124029610)) (by omega)) (Below.refl _ _) (Nat.le_refl _) ?_;intro v172 w4 ho5 hb hg_ hnew_;clear hg_ hnew_;(first|rw [← Ny171.out] at ho5|(simp only [Int.reduceToNat] at ho5;rw [← Ny171.out] at ho5));have HO173:=am (Kd.R_lower ho5 (below_size (bs HB)));replace HB:=am (below_step (bs HB) hb);clear hb ho5))
   go_loopg [4] k (fun kq v4 w'=>∃ (x3_1:List (S71)) (x4_1:Int),v4=.int .i64 x4_1∧Aside0 (laws_toStockS.l0 kq l0 x3_1 x4_1=some r)∧Aside0 (kq≤k)∧Aside0 (Kd.R k71 71 w' w.heap.size (fun _=>True) v172 x3_1)∧Aside0 (Below w.heap.size w w'))
   case atStart=>exact ⟨(y171),(0),fg,H',⟨Nat.le_refl _⟩,⟨by (with_reducible repeat (first|apply Kd.R_alloc|apply Kd.R_drewN|apply Kd.R_drew));exact HO173.out⟩,⟨bs HB⟩⟩
   case round =>
    clear H'
    try clear c2
    try clear c2b0
    try clear c2b1
    try clear p2
    try clear c3
    try clear c3b0
    try clear c3b1
    try clear c4
    obtain ⟨x3_1,x4_1,rfl,HA,HK1,HO_3,HB⟩:=hrel
    cases gk with
    | zero=>exact absurd HA.out (by simp [laws_toStockS.l0])
    | succ k1 =>
     have H:=HA.out;clear HA;simp only [laws_toStockS.l0] at H
     by_cases c6:x4_1<(l0.length:Int)
     ·rw [if_pos c6] at H;have c6b0:decide (x4_1<(l0.length:Int))=true:=decide_eq_true c6;clear c6
      by_cases c7:0≤x4_1
      ·rw [if_pos c7] at H;have c7b0:decide (0≤x4_1)=true:=decide_eq_true c7;clear c7;replace H:=Option.bind_eq_some_iff.mp H;obtain ⟨⟨t175,t176⟩,A80,H⟩:=H;replace H:(if x4_1<(x3_1.length:Int) then (laws_toStockS.l0 k1 l0 (x3_1.set (x4_1:Int).toNat (⟨t175,t176⟩:S71)) (wrap64 (x4_1+1))) else (none))=some r:=H;have A8:=am A80;clear A80
       by_cases c9:x4_1<(x3_1.length:Int)
       ·rw [if_pos c9] at H;have c9b0:decide (x4_1<(x3_1.length:Int))=true:=decide_eq_true c9;clear c9;obtain ⟨y177,hy177⟩:∃ y_:List (S71),y_=(x3_1.set (x4_1:Int).toNat (⟨t175,t176⟩:S71)):=⟨_,rfl⟩
        replace H:(laws_toStockS.l0 k1 l0 y177 (wrap64 (x4_1+1)))=some r:=by first|(rw [hy177];with_reducible exact H)|(have H2_:=(Option.bind_some _ _).symm.trans H;rw [hy177];with_reducible exact H2_)|(have H2_:=(Option.bind_some _ _).symm.trans H;with_reducible exact H2_)|with_reducible exact H|(rw [hy177];exact H)|exact H
        have Ny177:=am hy177;clear hy177;have H':=am H;clear H;have p174:0≤(x4_1:Int):=oa;have q174:x4_1<(l0.length:Int):=oa;obtain ⟨ad174,e174,hx174_0,hx174_1⟩:=at_T111 HR0.out x4_1 p174 q174
        cases e174
        replace hx174_0:=cb HB hx174_0;replace hx174_1:=cb HB hx174_1;replace p174:=eq_true p174;replace q174:=eq_true q174
        go_wp2_with (first|((first|((with_reducible refine gate_callee (f:=81) rfl ?_);refine goesL_ (some 20) rfl rfl Try.func81 (by kernel_rfl) rfl #[.agg #[.string ((rd_T111 l0 x4_1).f0),.int .i64 ((rd_T111 l0 x4_1).f1)]] rfl (by (try simp only [List.map_toArray,List.map_cons,List.map_nil]);first|done|rfl|(simp only [List.length_drop,List.length_take];rfl)) ?_;(with_reducible refine (laws_toStock.calls ((rd_T111 l0 x4_1).f0) ((rd_T111 l0 x4_1).f1) t175 t176 _ A8.out).mono ?_);rintro e w11 ⟨rfl,hb⟩;refine ⟨_,rfl,?_⟩)|(go_at_call 81;(with_reducible refine (laws_toStock.calls ((rd_T111 l0 x4_1).f0) ((rd_T111 l0 x4_1).f1) t175 t176 _ A8.out).mono ?_);rintro e w11 ⟨rfl,hb⟩));replace HO_3:=am (Kd.R_below (rs HO_3) hb);replace HB:=am (below_step (bs HB) hb);(try clear hb);(try clear hb2);(try clear hk);(try clear hi);have p10:0≤(x4_1:Int):=oa;have q10:(x4_1:Int)<((x3_1.length:Int):Int):=oa;obtain ⟨go10,co10,eo10,gb10,gl10,cl10,HG10⟩:=Kd.R_form HO_3.out (by omega);(first|cases eo10|(injection eo10 with ea_ en_ ec_;(first|subst ea_|(injection ea_ with ea_;subst ea_));subst ec_;clear en_));have GB10:=am gb10;have GG10:=am HG10;clear gb10 gl10 HG10;obtain ⟨ce10,hcl10,hM10,hcc10,hfr10⟩:=Kd.R_elem HO_3.out z71 (x4_1:Int) p10 q10;obtain rfl:=k71_openM hM10;have hx10_0:w11.cell? ⟨go10,(x4_1:Int).toNat * 2,none⟩=some (.string ((rd_T71 x3_1 x4_1).f0)):=hcc10 0 _ rfl;have hx10_1:w11.cell? ⟨go10,(x4_1:Int).toNat * 2+1,none⟩=some (.int .i64 ((rd_T71 x3_1 x4_1).f1)):=hcc10 1 _ rfl;have hf10_0:w11.frozen? ⟨go10,(x4_1:Int).toNat * 2,none⟩=false:=hfr10 0;have hf10_1:w11.frozen? ⟨go10,(x4_1:Int).toNat * 2+1,none⟩=false:=hfr10 1;clear hcl10 hcc10 hfr10 hM10;replace p10:=eq_true p10;replace q10:=eq_true q10;have HX12:=am (show Kd.R k71 71 w11 w.heap.size (fun _=>True) (.slice (some ⟨go10,0,none⟩) x3_1.length co10) x3_1 from (rs HO_3));obtain ⟨ce12,hcl12,hM12,hcc12,hfr12⟩:=Kd.R_elem HX12.out z71 (x4_1:Int) (oa) (by have h_:(x4_1:Int)<((x3_1.length:Int):Int):=oa;first|exact h_|(have e_:=(Kd.R_reads' HO_3.out).1;omega)|simpa using h_);obtain rfl:=k71_openM hM12;have HP12:=Kd.R_seg HX12.out (x4_1:Int) (oa) (by have h_:(x4_1:Int)<((x3_1.length:Int):Int):=oa;first|exact h_|(have e_:=(Kd.R_reads' HO_3.out).1;omega)|simpa using h_) (seg:=[.string t175,.int .i64 t176]) (j:=0) hcl12 hcc12 (show 2≤2 from by decide) (x':=(⟨t175,t176⟩:S71)) (k71_mkM _ _ _ (⟨t175,t176⟩:S71) ) (fun _ hk=>hk);have hx12_0:=hcc12 0 _ rfl;(try simp only [show (k71).sz=2 from rfl,Nat.mul_one,Nat.add_zero] at hx12_0);have hf12_0:=hfr12 0;(try simp only [show (k71).sz=2 from rfl,Nat.mul_one,Nat.add_zero] at hf12_0);have hx12_1:=hcc12 1 _ rfl;(try simp only [show (k71).sz=2 from rfl,Nat.mul_one,Nat.add_zero] at hx12_1);have hf12_1:=hfr12 1;(try simp only [show (k71).sz=2 from rfl,Nat.mul_one,Nat.add_zero] at hf12_1);clear hcl12 hcc12 hfr12 hM12)|((with_reducible refine gate_store (t:=71) (p:=21) rfl ?_);refine store_event (t:=71) (p:=21) (v:=?vo_w13) (w1:=((w11.setCell ⟨go10,(x4_1:Int).toNat * 2,none⟩ (.string t175)).setCell ⟨go10,(x4_1:Int).toNat * 2+1,none⟩ (.int .i64 t176))) ?hg ?ho ?hn ?hr ?_;(case ho=>rfl);(case hg=>rfl);(case hn=>rfl);(case hr=>first|(go_simp;done)|(go_simp;rfl));intro w13 hw;have hg:w11.grownBy w13 (some go10):=(by rw [hw];exact HP12.2);have hp_:Kd.R k71 71 w13 w.heap.size (fun _=>True) (.slice (some ⟨go10,0,none⟩) x3_1.length co10) y177:=(by rw [hw,Ny177.out];exact HP12.1);clear HP12;have n0_:=am (hp_);have n1_:=am ((by rw [hw];exact below_set (below_set (HB.out) GB10.out) GB10.out:Below w.heap.size w w13));clear HO_3;clear HB;have HO_3:=n0_;have HB:=n1_;clear n0_ n1_;clear hg hw hp_))
        go_roundg k1
        case measure=>have:=HK1.out;omega
        case rel=>exact ⟨(y177),(wrap64 (x4_1+1)),fg,H',⟨by have:=HK1.out;omega⟩,⟨by (with_reducible repeat (first|apply Kd.R_alloc|apply Kd.R_drewN|apply Kd.R_drew));exact HO_3.out⟩,⟨bs HB⟩⟩
       ·rw [if_neg c9] at H
        exact absurd H (by simp)
      ·rw [if_neg c7] at H
       exact absurd H (by simp)
     ·rw [if_neg c6] at H;have c6b0:decide (x4_1<(l0.length:Int))=false:=decide_eq_false c6;clear c6;obtain rfl:=Option.some.inj H
      go_wp2
      go_ret
      exact ⟨_,ff,by (with_reducible repeat (first|apply Kd.R_alloc|apply Kd.R_drewN|apply Kd.R_drew));exact HO_3.out,bs HB⟩
  ·rw [if_neg c3] at H
   exact absurd H (by simp)
 ·rw [if_neg c2] at H
  exact absurd H (by simp)
set_option maxHeartbeats 8000000 in
set_option maxRecDepth 100000 in
theorem laws_toOrderLine.calls (a0_0:ByteArray) (a0_1:ByteArray) (a0_2:Int) (a0_3:ByteArray) (a0_4:Int) (a0_5:Int) (a0_6:Int) (a0_7:Int) (r1:ByteArray) (r2:ByteArray) (r3:Int) (r4:ByteArray) (r5:Int) (r6:Int) (r7:Int) (r8:Int) (w:World) (h:laws_toOrderLine.f a0_0 a0_1 a0_2 a0_3 a0_4 a0_5 a0_6 a0_7=some (r1,r2,r3,r4,r5,r6,r7,r8)) :
  Calls Try.prog 82 #[.agg #[.string a0_0,.string a0_1,.int .i64 a0_2,.string a0_3,.int .i64 a0_4,.int .i64 a0_5,.int .i64 a0_6,.int .i64 a0_7]] w fun e w'=>e=.returned (.agg #[.string r1,.string r2,.int .i64 r3,.string r4,.int .i64 r5,.int .i64 r6,.int .i64 r7,.int .i64 r8])∧Below w.heap.size w w':=by
 have hu113:=Try.underlying113;have hu73:=Try.underlying73;have HB:=am (Below.refl w.heap.size w);have H:(some (a0_0,a0_1,a0_2,a0_3,a0_4,a0_5,a0_6,a0_7))=some (r1,r2,r3,r4,r5,r6,r7,r8):=h;clear h;simp only [Option.some.injEq,Prod.mk.injEq] at H;obtain ⟨rfl,rfl,rfl,rfl,rfl,rfl,rfl,rfl⟩:=H
 go_enter Try.func82,Try.ntmps82
 go_wp2_with (first|((with_reducible refine gate_dst (N:=1) rfl ?_);refine bx 1 (cs:=#[.string a0_0,.string a0_1,.int .i64 a0_2,.string a0_3,.int .i64 a0_4,.int .i64 a0_5,.int .i64 a0_6,.int .i64 a0_7]) (t:=113) ?_;intro gb178 hg w2 hbox hb;have BK178:=am (hbox);have GW178:=am ((gs hg (bs HB)));have GE178:=am ((gs hg (bs HB)));replace HB:=am (below_step (bs HB) hb);clear hb hbox hg)|((with_reducible refine gate_dst (N:=2) rfl ?_);refine bx 2 (cs:=#[.string (⟨#[]⟩:ByteArray),.string (⟨#[]⟩:ByteArray),.int .i64 0,.string (⟨#[]⟩:ByteArray),.int .i64 0,.int .i64 0,.int .i64 0,.int .i64 0]) (t:=73) ?_;intro gb179 hg w3 hbox hb;have BK179:=am (hbox);have GW179:=am ((gs hg (bs HB)));have GE179:=am ((gs hg (bs HB)));replace HB:=am (below_step (bs HB) hb);have NB178_179:=am ((gn hg (ks BK178)));have NB179_178:=am ((gm hg (ks BK178)));replace BK178:=am (blk_below (ks BK178) hb);clear hb hbox hg)|((with_reducible refine gate_dst (N:=3) rfl ?_);refine bx 3 (cs:=#[.string (⟨#[]⟩:ByteArray),.string (⟨#[]⟩:ByteArray),.int .i64 0,.string (⟨#[]⟩:ByteArray),.int .i64 0,.int .i64 0,.int .i64 0,.int .i64 0]) (t:=73) ?_;intro gb180 hg w4 hbox hb;have BK180:=am (hbox);have GW180:=am ((gs hg (bs HB)));have GE180:=am ((gs hg (bs HB)));replace HB:=am (below_step (bs HB) hb);have NB178_180:=am ((gn hg (ks BK178)));have NB180_178:=am ((gm hg (ks BK178)));replace BK178:=am (blk_below (ks BK178) hb);have NB179_180:=am ((gn hg (ks BK179)));have NB180_179:=am ((gm hg (ks BK179)));replace BK179:=am (blk_below (ks BK179) hb);clear hb hbox hg;have hnb5:=NB178_179.out;have hnc5:=NB179_178.out;have hnb6:=NB178_180.out;have hnc6:=NB180_178.out;obtain ⟨hcz7_0,hcz7_1,hcz7_2,hcz7_3,hcz7_4,hcz7_5,hcz7_6,hcz7_7,hfz7_0,hfz7_1,hfz7_2,hfz7_3,hfz7_4,hfz7_5,hfz7_6,hfz7_7⟩:=cf8 BK178;have hnb8:=NB180_179.out;have hnc8:=NB179_180.out;obtain ⟨hcz9_0,hcz9_1,hcz9_2,hcz9_3,hcz9_4,hcz9_5,hcz9_6,hcz9_7,hfz9_0,hfz9_1,hfz9_2,hfz9_3,hfz9_4,hfz9_5,hfz9_6,hfz9_7⟩:=cf8 BK180;obtain ⟨hcz10_0,hcz10_1,hcz10_2,hcz10_3,hcz10_4,hcz10_5,hcz10_6,hcz10_7,hfz10_0,hfz10_1,hfz10_2,hfz10_3,hfz10_4,hfz10_5,hfz10_6,hfz10_7⟩:=cf8 BK179))
 refine bodyPost_ret (results_cell_row rfl _ _ gb179 73 #[.string a0_0,.string a0_1,.int .i64 a0_2,.string a0_3,.int .i64 a0_4,.int .i64 a0_5,.int .i64 a0_6,.int .i64 a0_7] (0,0) _ rfl (kp BK179) Try.underlying73 rfl (by kernel_rfl)) rfl ?_
 exact ⟨ff,bs HB⟩
end Go.Proofs.Ytjjfjgdhloideaa.QI
