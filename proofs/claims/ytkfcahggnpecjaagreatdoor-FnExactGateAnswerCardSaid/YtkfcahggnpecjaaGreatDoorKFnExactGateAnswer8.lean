-- Merged by a program of this session (wip/tool/pack.py) out of its own texts for this claim.
import Derived.Test.YtkfcahggnpecjaaGreatDoorKFnExactGateAnswer7
set_option maxHeartbeats 8000000
set_option maxRecDepth 100000
set_option linter.unusedSimpArgs false
set_option linter.unusedVariables false
namespace Go.Proofs.YtkfcahggnpecjaaGreatDoor.QW
open Go.RowKit Go.Proofs.YtkfcahggnpecjaaGreatDoorW.PrintWords Go.Proofs.YtkfcahggnpecjaaGreatDoorW.PrintLast Go.Proofs.YtkfcahggnpecjaaGreatDoorW.PrintMore
attribute [local go_sem] max2_int min2_int max_two min_two max_three min_three max_four min_four   -- for this text's walks alone
theorem laws_toDiffS.calls (k:Nat) (A0:Option Addr) (c0:Nat) (l0:List (S98)) (r:List (S115)) (w:World) (hr0:Kd.C k98 w A0 l0.length l0) (hc0:l0.length≤c0) (H:laws_toDiffS.f k l0=some r) :
  Calls Tryz.prog 25 #[.slice A0 l0.length c0] w fun e w'=>∃ v0_:Value,e=.returned (v0_)∧Kd.R k115 115 w' w.heap.size (fun _=>True) v0_ r∧Below w.heap.size w w':=by
 have hu98:=Tryz.underlying98;have hu115:=Tryz.underlying115;have HR0:=am hr0;have HC0:=am hc0;clear hr0 hc0;have HB:=am (Below.refl w.heap.size w);unfold laws_toDiffS.f at H
 revert H;refine ip2 ?_ ?_
 ·intro c2 H;have c2b0:=eq_true c2;have c2b1:decide (0≤(l0.length:Int))=true:=decide_eq_true c2;clear c2
  revert H;refine ip1 ?_
  intro c3 H;have c3b0:=eq_true c3;have c3b1:decide (((l0.length:Int):Int).toNat≤3909374676536)=true:=decide_eq_true c3;clear c3;obtain ⟨y15,hy15⟩:∃ y_:List (S115),y_=(List.replicate ((l0.length:Int):Int).toNat z115):=⟨_,rfl⟩
  replace H:(laws_toDiffS.l0 k l0 y15 0)=some r:=ye hy15 H
  have Ny15:=am hy15;clear hy15;have H':=am H;clear H
  go_in
  go_wp2_with (first|((with_reducible refine gate_dst (N:=7) rfl ?_);refine Kd.R_make k115 _ 115 rfl (N:=7) rfl 44 _ _ rfl (l0.length:Int) rfl rfl Tryz.underlying44 (.agg #[(.int .i64 0),(.string ⟨#[]⟩),(.string ⟨#[]⟩),(.int .i64 0),(.string ⟨#[]⟩),(.int .i64 0)]) 72 info115 rfl (by decide) (by omega) z115 (ok:=fun _=>True) (okp:=fun _=>True) (k115_mkM _ _ _ z115 ) (fun _ hk=>hk) trivial (oa) (Nat.le_trans (Nat.mul_le_mul_right _ (oa:(l0.length:Int).toNat≤3909374676536)) (by omega)) (Below.refl _ _) (Nat.le_refl _) ?_;intro v26 w4 ho5 hb hg_ hnew_;clear hg_ hnew_;(first|rw [← Ny15.out] at ho5|(simp only [Int.reduceToNat] at ho5;rw [← Ny15.out] at ho5));have HO27:=am (Kd.R_lower ho5 (below_size (bs HB)));replace HB:=bq HB hb;clear hb ho5))
  go_loopg [4] k (fun kq v4 w'=>∃ (x3_1:List (S115)) (x4_1:Int),v4=.int .i64 x4_1∧Aside0 (laws_toDiffS.l0 kq l0 x3_1 x4_1=some r)∧Aside0 (kq≤k)∧Aside0 (Kd.R k115 115 w' w.heap.size (fun _=>True) v26 x3_1)∧Aside0 (Below w.heap.size w w'))
  case atStart=>exact ⟨(y15),(0),fg,H',⟨Nat.le_refl _⟩,⟨rz HO27.out⟩,⟨bs HB⟩⟩
  case round =>
   clear H'
   try clear c2
   try clear c2b0
   try clear c2b1
   try clear c3
   try clear c3b0
   try clear c3b1
   obtain ⟨x3_1,x4_1,rfl,HA,HK1,HO_3,HB⟩:=hrel
   cases gk with
   | zero=>exact absurd HA.out (by simp [laws_toDiffS.l0])
   | succ k1 =>
    have H:=HA.out;clear HA;simp only [laws_toDiffS.l0] at H
    revert H;refine id2 ?_ ?_
    ·intro c6b0 H
     revert H;refine id1 ?_
     intro c7b0 H;replace H:=bo H;obtain ⟨⟨t17,t18,t19,t22,t23,t24⟩,A8,H⟩:=H;(try dsimp only at H)
     revert H;refine id1 ?_
     intro c9b0 H;obtain ⟨y16,hy16⟩:∃ y_:List (S115),y_=(x3_1.set (x4_1:Int).toNat (⟨t17,t18,t19,t22,t23,t24⟩:S115)):=⟨_,rfl⟩
     replace H:(laws_toDiffS.l0 k1 l0 y16 (wrap64 (x4_1+1)))=some r:=ye hy16 H
     have Ny16:=am hy16;clear hy16;have H':=am H;clear H;have p14:0≤(x4_1:Int):=oa;have q14:x4_1<(l0.length:Int):=oa;obtain ⟨ad14,e14,hx14_0,hx14_1,hx14_2,hx14_3,hx14_4,hx14_5⟩:=at_T98 HR0.out x4_1 p14 q14
     cases e14
     replace hx14_0:=cb HB hx14_0;replace hx14_1:=cb HB hx14_1;replace hx14_2:=cb HB hx14_2;replace hx14_3:=cb HB hx14_3;replace hx14_4:=cb HB hx14_4;replace hx14_5:=cb HB hx14_5;replace p14:=eq_true p14;replace q14:=eq_true q14
     go_wp2_with (first|((first|((with_reducible refine gate_callee (f:=65) rfl ?_);refine goesL_ (some 20) rfl rfl Tryz.func65 (by kernel_rfl) rfl #[.agg #[.int .i64 ((rd_T98 l0 x4_1).f0),.string ((rd_T98 l0 x4_1).f1),.string ((rd_T98 l0 x4_1).f2),.int .i64 ((rd_T98 l0 x4_1).f3),.string ((rd_T98 l0 x4_1).f4),.int .i64 ((rd_T98 l0 x4_1).f5)]] rfl (by (try simp only [List.map_toArray,List.map_cons,List.map_nil]);first|done|rfl|(simp only [List.length_drop,List.length_take];rfl)) ?_;(with_reducible refine (laws_toDiff.calls ((rd_T98 l0 x4_1).f0) ((rd_T98 l0 x4_1).f1) ((rd_T98 l0 x4_1).f2) ((rd_T98 l0 x4_1).f3) ((rd_T98 l0 x4_1).f4) ((rd_T98 l0 x4_1).f5) t17 t18 t19 t22 t23 t24 _ A8.out).mono ?_);rintro e w11 ⟨rfl,hb⟩;refine ⟨_,rfl,?_⟩)|(go_at_call 65;(with_reducible refine (laws_toDiff.calls ((rd_T98 l0 x4_1).f0) ((rd_T98 l0 x4_1).f1) ((rd_T98 l0 x4_1).f2) ((rd_T98 l0 x4_1).f3) ((rd_T98 l0 x4_1).f4) ((rd_T98 l0 x4_1).f5) t17 t18 t19 t22 t23 t24 _ A8.out).mono ?_);rintro e w11 ⟨rfl,hb⟩));replace HO_3:=am (Kd.R_below (rs HO_3) hb);replace HB:=bq HB hb;(try clear hb);(try clear hb2);(try clear hk);(try clear hi);have p10:0≤(x4_1:Int):=oa;have q10:(x4_1:Int)<((x3_1.length:Int):Int):=oa;obtain ⟨go10,co10,eo10,gb10,gl10,cl10,HG10⟩:=Kd.R_form HO_3.out (by omega);(first|cases eo10|(injection eo10 with ea_ en_ ec_;(first|subst ea_|(injection ea_ with ea_;subst ea_));subst ec_;clear en_));have GB10:=am gb10;have GG10:=am HG10;clear gb10 gl10 HG10;obtain ⟨ce10,hcl10,hM10,hcc10,hfr10⟩:=Kd.R_elem HO_3.out z115 (x4_1:Int) p10 q10;obtain rfl:=k115_openM hM10;have hx10_0:w11.cell? ⟨go10,(x4_1:Int).toNat * 6,none⟩=some (.int .i64 ((rd_T115 x3_1 x4_1).f0)):=hcc10 0 _ rfl;have hx10_1:w11.cell? ⟨go10,(x4_1:Int).toNat * 6+1,none⟩=some (.string ((rd_T115 x3_1 x4_1).f1)):=hcc10 1 _ rfl;have hx10_2:w11.cell? ⟨go10,(x4_1:Int).toNat * 6+2,none⟩=some (.string ((rd_T115 x3_1 x4_1).f2)):=hcc10 2 _ rfl;have hx10_3:w11.cell? ⟨go10,(x4_1:Int).toNat * 6+3,none⟩=some (.int .i64 ((rd_T115 x3_1 x4_1).f3)):=hcc10 3 _ rfl;have hx10_4:w11.cell? ⟨go10,(x4_1:Int).toNat * 6+4,none⟩=some (.string ((rd_T115 x3_1 x4_1).f4)):=hcc10 4 _ rfl;have hx10_5:w11.cell? ⟨go10,(x4_1:Int).toNat * 6+5,none⟩=some (.int .i64 ((rd_T115 x3_1 x4_1).f5)):=hcc10 5 _ rfl;have hf10_0:w11.frozen? ⟨go10,(x4_1:Int).toNat * 6,none⟩=false:=hfr10 0;have hf10_1:w11.frozen? ⟨go10,(x4_1:Int).toNat * 6+1,none⟩=false:=hfr10 1;have hf10_2:w11.frozen? ⟨go10,(x4_1:Int).toNat * 6+2,none⟩=false:=hfr10 2;have hf10_3:w11.frozen? ⟨go10,(x4_1:Int).toNat * 6+3,none⟩=false:=hfr10 3;have hf10_4:w11.frozen? ⟨go10,(x4_1:Int).toNat * 6+4,none⟩=false:=hfr10 4;have hf10_5:w11.frozen? ⟨go10,(x4_1:Int).toNat * 6+5,none⟩=false:=hfr10 5;clear hcl10 hcc10 hfr10 hM10;replace p10:=eq_true p10;replace q10:=eq_true q10;have HX12:=am (show Kd.R k115 115 w11 w.heap.size (fun _=>True) (.slice (some ⟨go10,0,none⟩) x3_1.length co10) x3_1 from (rs HO_3));obtain ⟨ce12,hcl12,hM12,hcc12,hfr12⟩:=Kd.R_elem HX12.out z115 (x4_1:Int) (oa) (by have h_:(x4_1:Int)<((x3_1.length:Int):Int):=oa;first|exact h_|(have e_:=(Kd.R_reads' HO_3.out).1;omega)|simpa using h_);obtain rfl:=k115_openM hM12;have HP12:=Kd.R_seg HX12.out (x4_1:Int) (oa) (by have h_:(x4_1:Int)<((x3_1.length:Int):Int):=oa;first|exact h_|(have e_:=(Kd.R_reads' HO_3.out).1;omega)|simpa using h_) (seg:=[.int .i64 t17,.string t18,.string t19,.int .i64 t22,.string t23,.int .i64 t24]) (j:=0) hcl12 hcc12 (show 6≤6 from by decide) (x':=(⟨t17,t18,t19,t22,t23,t24⟩:S115)) (k115_mkM _ _ _ (⟨t17,t18,t19,t22,t23,t24⟩:S115) ) (fun _ hk=>hk);have hx12_0:=hcc12 0 _ rfl;(try simp only [show (k115).sz=6 from rfl,Nat.mul_one,Nat.add_zero] at hx12_0);have hf12_0:=hfr12 0;(try simp only [show (k115).sz=6 from rfl,Nat.mul_one,Nat.add_zero] at hf12_0);have hx12_1:=hcc12 1 _ rfl;(try simp only [show (k115).sz=6 from rfl,Nat.mul_one,Nat.add_zero] at hx12_1);have hf12_1:=hfr12 1;(try simp only [show (k115).sz=6 from rfl,Nat.mul_one,Nat.add_zero] at hf12_1);have hx12_2:=hcc12 2 _ rfl;(try simp only [show (k115).sz=6 from rfl,Nat.mul_one,Nat.add_zero] at hx12_2);have hf12_2:=hfr12 2;(try simp only [show (k115).sz=6 from rfl,Nat.mul_one,Nat.add_zero] at hf12_2);have hx12_3:=hcc12 3 _ rfl;(try simp only [show (k115).sz=6 from rfl,Nat.mul_one,Nat.add_zero] at hx12_3);have hf12_3:=hfr12 3;(try simp only [show (k115).sz=6 from rfl,Nat.mul_one,Nat.add_zero] at hf12_3);have hx12_4:=hcc12 4 _ rfl;(try simp only [show (k115).sz=6 from rfl,Nat.mul_one,Nat.add_zero] at hx12_4);have hf12_4:=hfr12 4;(try simp only [show (k115).sz=6 from rfl,Nat.mul_one,Nat.add_zero] at hf12_4);have hx12_5:=hcc12 5 _ rfl;(try simp only [show (k115).sz=6 from rfl,Nat.mul_one,Nat.add_zero] at hx12_5);have hf12_5:=hfr12 5;(try simp only [show (k115).sz=6 from rfl,Nat.mul_one,Nat.add_zero] at hf12_5);clear hcl12 hcc12 hfr12 hM12)|((with_reducible refine gate_store (t:=115) (p:=21) rfl ?_);refine store_event (t:=115) (p:=21) (v:=?vo_w13) (w1:=((((((w11.setCell ⟨go10,(x4_1:Int).toNat * 6,none⟩ (.int .i64 t17)).setCell ⟨go10,(x4_1:Int).toNat * 6+1,none⟩ (.string t18)).setCell ⟨go10,(x4_1:Int).toNat * 6+2,none⟩ (.string t19)).setCell ⟨go10,(x4_1:Int).toNat * 6+3,none⟩ (.int .i64 t22)).setCell ⟨go10,(x4_1:Int).toNat * 6+4,none⟩ (.string t23)).setCell ⟨go10,(x4_1:Int).toNat * 6+5,none⟩ (.int .i64 t24))) ?hg ?ho ?hn ?hr ?_;(case ho=>rfl);(case hg=>rfl);(case hn=>rfl);(case hr=>first|(go_simp;done)|(go_simp;rfl));intro w13 hw;have hg:w11.grownBy w13 (some go10):=(by rw [hw];exact HP12.2);have hp_:Kd.R k115 115 w13 w.heap.size (fun _=>True) (.slice (some ⟨go10,0,none⟩) x3_1.length co10) y16:=(by rw [hw,Ny16.out];exact HP12.1);clear HP12;have n0_:=am (hp_);have n1_:=am ((by rw [hw];exact below_set (below_set (below_set (below_set (below_set (below_set (HB.out) GB10.out) GB10.out) GB10.out) GB10.out) GB10.out) GB10.out:Below w.heap.size w w13));clear HO_3;clear HB;have HO_3:=n0_;have HB:=n1_;clear n0_ n1_;clear hg hw hp_))
     go_roundg k1
     case measure=>have:=HK1.out;omega
     case rel=>exact ⟨(y16),(wrap64 (x4_1+1)),fg,H',⟨by have:=HK1.out;omega⟩,⟨rz HO_3.out⟩,⟨bs HB⟩⟩
    ·intro c6b0 H;obtain rfl:=si H
     go_wp2
     go_ret
     exact ⟨_,ff,by (with_reducible repeat (first|apply Kd.R_alloc|apply Kd.R_drewN|apply Kd.R_drew));exact HO_3.out,bs HB⟩
 ·intro c2 H
  exact absurd H (by simp)
theorem laws_toOut.calls (a0_0:ByteArray) (a0_1:Int) (a0_2:ByteArray) (a0_3:Int) (a0_4:Int) (r1:ByteArray) (r2:Int) (r3:ByteArray) (r4:Int) (r5:Int) (w:World) (H:laws_toOut.f a0_0 a0_1 a0_2 a0_3 a0_4=some (r1,r2,r3,r4,r5)) :
  Calls Tryz.prog 66 #[.agg #[.string a0_0,.int .i64 a0_1,.string a0_2,.int .i64 a0_3,.int .i64 a0_4]] w fun e w'=>e=.returned (.agg #[.string r1,.int .i64 r2,.string r3,.int .i64 r4,.int .i64 r5])∧Below w.heap.size w w':=by
 have hu101:=Tryz.underlying101;have hu117:=Tryz.underlying117;have HB:=am (Below.refl w.heap.size w);unfold laws_toOut.f at H;replace H:=sj5 H;obtain ⟨rfl,rfl,rfl,rfl,rfl⟩:=H
 go_in
 go_wp2_with (first|((with_reducible refine gate_dst (N:=1) rfl ?_);refine bz 1 (cs:=#[.string a0_0,.int .i64 a0_1,.string a0_2,.int .i64 a0_3,.int .i64 a0_4]) (t:=101) HB ?_;clear HB;intro gb11 hg w2 BK11 GW11 hb HB;clear hb hg)|((with_reducible refine gate_dst (N:=2) rfl ?_);refine bz 2 (cs:=#[.string (⟨#[]⟩:ByteArray),.int .i64 0,.string (⟨#[]⟩:ByteArray),.int .i64 0,.int .i64 0]) (t:=117) HB ?_;clear HB;intro gb12 hg w3 BK12 GW12 hb HB;have NB11_12:=na hg BK11;have NB12_11:=nc hg BK11;replace BK11:=bb BK11 hb;clear hb hg)|((with_reducible refine gate_dst (N:=3) rfl ?_);refine bz 3 (cs:=#[.string (⟨#[]⟩:ByteArray),.int .i64 0,.string (⟨#[]⟩:ByteArray),.int .i64 0,.int .i64 0]) (t:=117) HB ?_;clear HB;intro gb13 hg w4 BK13 GW13 hb HB;have NB11_13:=na hg BK11;have NB13_11:=nc hg BK11;replace BK11:=bb BK11 hb;have NB12_13:=na hg BK12;have NB13_12:=nc hg BK12;replace BK12:=bb BK12 hb;clear hb hg;have hnb5:=NB11_12.out;have hnc5:=NB12_11.out;have hnb6:=NB11_13.out;have hnc6:=NB13_11.out;have hcz7:=cf5 BK11;have hnb8:=NB13_12.out;have hnc8:=NB12_13.out;have hcz9:=cf5 BK13;have hcz10:=cf5 BK12))
 refine bodyPost_ret (results_cell_row rfl _ _ gb12 117 #[.string a0_0,.int .i64 a0_1,.string a0_2,.int .i64 a0_3,.int .i64 a0_4] (0,0) _ rfl (kp BK12) Tryz.underlying117 rfl (by kernel_rfl)) rfl ?_
 exact ⟨ff,bs HB⟩
theorem laws_toOutS.calls (k:Nat) (A0:Option Addr) (c0:Nat) (l0:List (S101)) (r:List (S117)) (w:World) (hr0:Kd.C k101 w A0 l0.length l0) (hc0:l0.length≤c0) (H:laws_toOutS.f k l0=some r) :
  Calls Tryz.prog 26 #[.slice A0 l0.length c0] w fun e w'=>∃ v0_:Value,e=.returned (v0_)∧Kd.R k117 117 w' w.heap.size (fun _=>True) v0_ r∧Below w.heap.size w w':=by
 have hu101:=Tryz.underlying101;have hu117:=Tryz.underlying117;have HR0:=am hr0;have HC0:=am hc0;clear hr0 hc0;have HB:=am (Below.refl w.heap.size w);unfold laws_toOutS.f at H
 revert H;refine ip2 ?_ ?_
 ·intro c2 H;have c2b0:=eq_true c2;have c2b1:decide (0≤(l0.length:Int))=true:=decide_eq_true c2;clear c2
  revert H;refine ip1 ?_
  intro c3 H;have c3b0:=eq_true c3;have c3b1:decide (((l0.length:Int):Int).toNat≤5026338869833)=true:=decide_eq_true c3;clear c3;obtain ⟨y15,hy15⟩:∃ y_:List (S117),y_=(List.replicate ((l0.length:Int):Int).toNat z117):=⟨_,rfl⟩
  replace H:(laws_toOutS.l0 k l0 y15 0)=some r:=ye hy15 H
  have Ny15:=am hy15;clear hy15;have H':=am H;clear H
  go_in
  go_wp2_with (first|((with_reducible refine gate_dst (N:=7) rfl ?_);refine Kd.R_make k117 _ 117 rfl (N:=7) rfl 45 _ _ rfl (l0.length:Int) rfl rfl Tryz.underlying45 (.agg #[(.string ⟨#[]⟩),(.int .i64 0),(.string ⟨#[]⟩),(.int .i64 0),(.int .i64 0)]) 56 info117 rfl (by decide) (by omega) z117 (ok:=fun _=>True) (okp:=fun _=>True) (k117_mkM _ _ _ z117 ) (fun _ hk=>hk) trivial (oa) (Nat.le_trans (Nat.mul_le_mul_right _ (oa:(l0.length:Int).toNat≤5026338869833)) (by omega)) (Below.refl _ _) (Nat.le_refl _) ?_;intro v24 w4 ho5 hb hg_ hnew_;clear hg_ hnew_;(first|rw [← Ny15.out] at ho5|(simp only [Int.reduceToNat] at ho5;rw [← Ny15.out] at ho5));have HO25:=am (Kd.R_lower ho5 (below_size (bs HB)));replace HB:=bq HB hb;clear hb ho5))
  go_loopg [4] k (fun kq v4 w'=>∃ (x3_1:List (S117)) (x4_1:Int),v4=.int .i64 x4_1∧Aside0 (laws_toOutS.l0 kq l0 x3_1 x4_1=some r)∧Aside0 (kq≤k)∧Aside0 (Kd.R k117 117 w' w.heap.size (fun _=>True) v24 x3_1)∧Aside0 (Below w.heap.size w w'))
  case atStart=>exact ⟨(y15),(0),fg,H',⟨Nat.le_refl _⟩,⟨rz HO25.out⟩,⟨bs HB⟩⟩
  case round =>
   clear H'
   try clear c2
   try clear c2b0
   try clear c2b1
   try clear c3
   try clear c3b0
   try clear c3b1
   obtain ⟨x3_1,x4_1,rfl,HA,HK1,HO_3,HB⟩:=hrel
   cases gk with
   | zero=>exact absurd HA.out (by simp [laws_toOutS.l0])
   | succ k1 =>
    have H:=HA.out;clear HA;simp only [laws_toOutS.l0] at H
    revert H;refine id2 ?_ ?_
    ·intro c6b0 H
     revert H;refine id1 ?_
     intro c7b0 H;replace H:=bo H;obtain ⟨⟨t17,t18,t19,t22,t23⟩,A8,H⟩:=H;(try dsimp only at H)
     revert H;refine id1 ?_
     intro c9b0 H;obtain ⟨y16,hy16⟩:∃ y_:List (S117),y_=(x3_1.set (x4_1:Int).toNat (⟨t17,t18,t19,t22,t23⟩:S117)):=⟨_,rfl⟩
     replace H:(laws_toOutS.l0 k1 l0 y16 (wrap64 (x4_1+1)))=some r:=ye hy16 H
     have Ny16:=am hy16;clear hy16;have H':=am H;clear H;have p14:0≤(x4_1:Int):=oa;have q14:x4_1<(l0.length:Int):=oa;obtain ⟨ad14,e14,hx14_0,hx14_1,hx14_2,hx14_3,hx14_4⟩:=at_T101 HR0.out x4_1 p14 q14
     cases e14
     replace hx14_0:=cb HB hx14_0;replace hx14_1:=cb HB hx14_1;replace hx14_2:=cb HB hx14_2;replace hx14_3:=cb HB hx14_3;replace hx14_4:=cb HB hx14_4;replace p14:=eq_true p14;replace q14:=eq_true q14
     go_wp2_with (first|((first|((with_reducible refine gate_callee (f:=66) rfl ?_);refine goesL_ (some 20) rfl rfl Tryz.func66 (by kernel_rfl) rfl #[.agg #[.string ((rd_T101 l0 x4_1).f0),.int .i64 ((rd_T101 l0 x4_1).f1),.string ((rd_T101 l0 x4_1).f2),.int .i64 ((rd_T101 l0 x4_1).f3),.int .i64 ((rd_T101 l0 x4_1).f4)]] rfl (by (try simp only [List.map_toArray,List.map_cons,List.map_nil]);first|done|rfl|(simp only [List.length_drop,List.length_take];rfl)) ?_;(with_reducible refine (laws_toOut.calls ((rd_T101 l0 x4_1).f0) ((rd_T101 l0 x4_1).f1) ((rd_T101 l0 x4_1).f2) ((rd_T101 l0 x4_1).f3) ((rd_T101 l0 x4_1).f4) t17 t18 t19 t22 t23 _ A8.out).mono ?_);rintro e w11 ⟨rfl,hb⟩;refine ⟨_,rfl,?_⟩)|(go_at_call 66;(with_reducible refine (laws_toOut.calls ((rd_T101 l0 x4_1).f0) ((rd_T101 l0 x4_1).f1) ((rd_T101 l0 x4_1).f2) ((rd_T101 l0 x4_1).f3) ((rd_T101 l0 x4_1).f4) t17 t18 t19 t22 t23 _ A8.out).mono ?_);rintro e w11 ⟨rfl,hb⟩));replace HO_3:=am (Kd.R_below (rs HO_3) hb);replace HB:=bq HB hb;(try clear hb);(try clear hb2);(try clear hk);(try clear hi);have p10:0≤(x4_1:Int):=oa;have q10:(x4_1:Int)<((x3_1.length:Int):Int):=oa;obtain ⟨go10,co10,eo10,gb10,gl10,cl10,HG10⟩:=Kd.R_form HO_3.out (by omega);(first|cases eo10|(injection eo10 with ea_ en_ ec_;(first|subst ea_|(injection ea_ with ea_;subst ea_));subst ec_;clear en_));have GB10:=am gb10;have GG10:=am HG10;clear gb10 gl10 HG10;obtain ⟨ce10,hcl10,hM10,hcc10,hfr10⟩:=Kd.R_elem HO_3.out z117 (x4_1:Int) p10 q10;obtain rfl:=k117_openM hM10;have hx10_0:w11.cell? ⟨go10,(x4_1:Int).toNat * 5,none⟩=some (.string ((rd_T117 x3_1 x4_1).f0)):=hcc10 0 _ rfl;have hx10_1:w11.cell? ⟨go10,(x4_1:Int).toNat * 5+1,none⟩=some (.int .i64 ((rd_T117 x3_1 x4_1).f1)):=hcc10 1 _ rfl;have hx10_2:w11.cell? ⟨go10,(x4_1:Int).toNat * 5+2,none⟩=some (.string ((rd_T117 x3_1 x4_1).f2)):=hcc10 2 _ rfl;have hx10_3:w11.cell? ⟨go10,(x4_1:Int).toNat * 5+3,none⟩=some (.int .i64 ((rd_T117 x3_1 x4_1).f3)):=hcc10 3 _ rfl;have hx10_4:w11.cell? ⟨go10,(x4_1:Int).toNat * 5+4,none⟩=some (.int .i64 ((rd_T117 x3_1 x4_1).f4)):=hcc10 4 _ rfl;have hf10_0:w11.frozen? ⟨go10,(x4_1:Int).toNat * 5,none⟩=false:=hfr10 0;have hf10_1:w11.frozen? ⟨go10,(x4_1:Int).toNat * 5+1,none⟩=false:=hfr10 1;have hf10_2:w11.frozen? ⟨go10,(x4_1:Int).toNat * 5+2,none⟩=false:=hfr10 2;have hf10_3:w11.frozen? ⟨go10,(x4_1:Int).toNat * 5+3,none⟩=false:=hfr10 3;have hf10_4:w11.frozen? ⟨go10,(x4_1:Int).toNat * 5+4,none⟩=false:=hfr10 4;clear hcl10 hcc10 hfr10 hM10;replace p10:=eq_true p10;replace q10:=eq_true q10;have HX12:=am (show Kd.R k117 117 w11 w.heap.size (fun _=>True) (.slice (some ⟨go10,0,none⟩) x3_1.length co10) x3_1 from (rs HO_3));obtain ⟨ce12,hcl12,hM12,hcc12,hfr12⟩:=Kd.R_elem HX12.out z117 (x4_1:Int) (oa) (by have h_:(x4_1:Int)<((x3_1.length:Int):Int):=oa;first|exact h_|(have e_:=(Kd.R_reads' HO_3.out).1;omega)|simpa using h_);obtain rfl:=k117_openM hM12;have HP12:=Kd.R_seg HX12.out (x4_1:Int) (oa) (by have h_:(x4_1:Int)<((x3_1.length:Int):Int):=oa;first|exact h_|(have e_:=(Kd.R_reads' HO_3.out).1;omega)|simpa using h_) (seg:=[.string t17,.int .i64 t18,.string t19,.int .i64 t22,.int .i64 t23]) (j:=0) hcl12 hcc12 (show 5≤5 from by decide) (x':=(⟨t17,t18,t19,t22,t23⟩:S117)) (k117_mkM _ _ _ (⟨t17,t18,t19,t22,t23⟩:S117) ) (fun _ hk=>hk);have hx12_0:=hcc12 0 _ rfl;(try simp only [show (k117).sz=5 from rfl,Nat.mul_one,Nat.add_zero] at hx12_0);have hf12_0:=hfr12 0;(try simp only [show (k117).sz=5 from rfl,Nat.mul_one,Nat.add_zero] at hf12_0);have hx12_1:=hcc12 1 _ rfl;(try simp only [show (k117).sz=5 from rfl,Nat.mul_one,Nat.add_zero] at hx12_1);have hf12_1:=hfr12 1;(try simp only [show (k117).sz=5 from rfl,Nat.mul_one,Nat.add_zero] at hf12_1);have hx12_2:=hcc12 2 _ rfl;(try simp only [show (k117).sz=5 from rfl,Nat.mul_one,Nat.add_zero] at hx12_2);have hf12_2:=hfr12 2;(try simp only [show (k117).sz=5 from rfl,Nat.mul_one,Nat.add_zero] at hf12_2);have hx12_3:=hcc12 3 _ rfl;(try simp only [show (k117).sz=5 from rfl,Nat.mul_one,Nat.add_zero] at hx12_3);have hf12_3:=hfr12 3;(try simp only [show (k117).sz=5 from rfl,Nat.mul_one,Nat.add_zero] at hf12_3);have hx12_4:=hcc12 4 _ rfl;(try simp only [show (k117).sz=5 from rfl,Nat.mul_one,Nat.add_zero] at hx12_4);have hf12_4:=hfr12 4;(try simp only [show (k117).sz=5 from rfl,Nat.mul_one,Nat.add_zero] at hf12_4);clear hcl12 hcc12 hfr12 hM12)|((with_reducible refine gate_store (t:=117) (p:=21) rfl ?_);refine store_event (t:=117) (p:=21) (v:=?vo_w13) (w1:=(((((w11.setCell ⟨go10,(x4_1:Int).toNat * 5,none⟩ (.string t17)).setCell ⟨go10,(x4_1:Int).toNat * 5+1,none⟩ (.int .i64 t18)).setCell ⟨go10,(x4_1:Int).toNat * 5+2,none⟩ (.string t19)).setCell ⟨go10,(x4_1:Int).toNat * 5+3,none⟩ (.int .i64 t22)).setCell ⟨go10,(x4_1:Int).toNat * 5+4,none⟩ (.int .i64 t23))) ?hg ?ho ?hn ?hr ?_;(case ho=>rfl);(case hg=>rfl);(case hn=>rfl);(case hr=>first|(go_simp;done)|(go_simp;rfl));intro w13 hw;have hg:w11.grownBy w13 (some go10):=(by rw [hw];exact HP12.2);have hp_:Kd.R k117 117 w13 w.heap.size (fun _=>True) (.slice (some ⟨go10,0,none⟩) x3_1.length co10) y16:=(by rw [hw,Ny16.out];exact HP12.1);clear HP12;have n0_:=am (hp_);have n1_:=am ((by rw [hw];exact below_set (below_set (below_set (below_set (below_set (HB.out) GB10.out) GB10.out) GB10.out) GB10.out) GB10.out:Below w.heap.size w w13));clear HO_3;clear HB;have HO_3:=n0_;have HB:=n1_;clear n0_ n1_;clear hg hw hp_))
     go_roundg k1
     case measure=>have:=HK1.out;omega
     case rel=>exact ⟨(y16),(wrap64 (x4_1+1)),fg,H',⟨by have:=HK1.out;omega⟩,⟨rz HO_3.out⟩,⟨bs HB⟩⟩
    ·intro c6b0 H;obtain rfl:=si H
     go_wp2
     go_ret
     exact ⟨_,ff,by (with_reducible repeat (first|apply Kd.R_alloc|apply Kd.R_drewN|apply Kd.R_drew));exact HO_3.out,bs HB⟩
 ·intro c2 H
  exact absurd H (by simp)
theorem laws_toGate.calls (k:Nat) (a0_0:ByteArray) (a0_1:Int) (A0_2:Option Addr) (c0_2:Nat) (l0_2:List (S90)) (A0_3:Option Addr) (c0_3:Nat) (l0_3:List (S93)) (A0_4:Option Addr) (c0_4:Nat) (l0_4:List (S136)) (A0_5:Option Addr) (c0_5:Nat) (l0_5:List (S139)) (A0_6:Option Addr) (c0_6:Nat) (l0_6:List (S98)) (A0_7:Option Addr) (c0_7:Nat) (l0_7:List (S101)) (r1:ByteArray) (r2:Int) (r3:List (S108)) (r4:List (S111)) (r5:List (S141)) (r6:List (S147)) (r7:List (S115)) (r8:List (S117)) (w:World) (hr0_2:Kd.C k90 w A0_2 l0_2.length l0_2) (hc0_2:l0_2.length≤c0_2) (hr0_3:Kd.C k93 w A0_3 l0_3.length l0_3) (hc0_3:l0_3.length≤c0_3) (hr0_4:Kd.C k136 w A0_4 l0_4.length l0_4) (hc0_4:l0_4.length≤c0_4) (hr0_5:Kd.C k139 w A0_5 l0_5.length l0_5) (hc0_5:l0_5.length≤c0_5) (hr0_6:Kd.C k98 w A0_6 l0_6.length l0_6) (hc0_6:l0_6.length≤c0_6) (hr0_7:Kd.C k101 w A0_7 l0_7.length l0_7) (hc0_7:l0_7.length≤c0_7) (H:laws_toGate.f k a0_0 a0_1 l0_2 l0_3 l0_4 l0_5 l0_6 l0_7=some (r1,r2,r3,r4,r5,r6,r7,r8)) :
  Calls Tryz.prog 6 #[.agg #[.string a0_0,.int .i64 a0_1,.slice A0_2 l0_2.length c0_2,.slice A0_3 l0_3.length c0_3,.slice A0_4 l0_4.length c0_4,.slice A0_5 l0_5.length c0_5,.slice A0_6 l0_6.length c0_6,.slice A0_7 l0_7.length c0_7]] w fun e w'=>∃ v2_ v3_ v4_ v5_ v6_ v7_:Value,e=.returned (.agg #[.string r1,.int .i64 r2,v2_,v3_,v4_,v5_,v6_,v7_])∧Kd.S k108 108 w' w.heap.size (fun _=>True) v2_ r3∧Kd.R k111 111 w' w.heap.size (fun _=>True) v3_ r4∧Kd.R k141 141 w' w.heap.size (fun _=>True) v4_ r5∧Kd.R k147 147 w' w.heap.size (fun _=>True) v5_ r6∧Kd.R k115 115 w' w.heap.size (fun _=>True) v6_ r7∧Kd.R k117 117 w' w.heap.size (fun _=>True) v7_ r8∧Below w.heap.size w w':=by
 have hu31:=Tryz.underlying31;have hu47:=Tryz.underlying47;have hu27:=Tryz.underlying27;have hu43:=Tryz.underlying43;have HR0_2:=am hr0_2;have HC0_2:=am hc0_2;clear hr0_2 hc0_2;have HR0_3:=am hr0_3;have HC0_3:=am hc0_3;clear hr0_3 hc0_3;have HR0_4:=am hr0_4;have HC0_4:=am hc0_4;clear hr0_4 hc0_4;have HR0_5:=am hr0_5;have HC0_5:=am hc0_5;clear hr0_5 hc0_5;have HR0_6:=am hr0_6;have HC0_6:=am hc0_6;clear hr0_6 hc0_6;have HR0_7:=am hr0_7;have HC0_7:=am hc0_7;clear hr0_7 hc0_7;have HB:=am (Below.refl w.heap.size w);unfold laws_toGate.f at H;replace H:=bo H;obtain ⟨t40,A2,H⟩:=H;replace H:=bo H;obtain ⟨t42,A3,H⟩:=H;replace H:=bo H;obtain ⟨⟨t44,t45⟩,A4,H⟩:=H;(try dsimp only at H);replace H:=bo H;obtain ⟨t46,A5,H⟩:=H;replace H:=bo H;obtain ⟨t39,A6,H⟩:=H;replace H:=sj8 H;obtain ⟨rfl,rfl,rfl,rfl,rfl,rfl,rfl,rfl⟩:=H
 go_in
 go_wp2_with (first|((with_reducible refine gate_dst (N:=1) rfl ?_);refine bz 1 (cs:=#[.string a0_0,.int .i64 a0_1,.slice A0_2 l0_2.length c0_2,.slice A0_3 l0_3.length c0_3,.slice A0_4 l0_4.length c0_4,.slice A0_5 l0_5.length c0_5,.slice A0_6 l0_6.length c0_6,.slice A0_7 l0_7.length c0_7]) (t:=31) HB ?_;clear HB;intro gb36 hg w7 BK36 GW36 hb HB;clear hb hg)|((with_reducible refine gate_dst (N:=2) rfl ?_);refine bz 2 (cs:=#[.string (⟨#[]⟩:ByteArray),.int .i64 0,.slice none 0 0,.slice none 0 0,.slice none 0 0,.slice none 0 0,.slice none 0 0,.slice none 0 0]) (t:=47) HB ?_;clear HB;intro gb38 hg w8 BK38 GW38 hb HB;have NB36_38:=na hg BK36;have NB38_36:=nc hg BK36;replace BK36:=bb BK36 hb;clear hb hg)|((with_reducible refine gate_dst (N:=3) rfl ?_);refine bz 3 (cs:=#[.string (⟨#[]⟩:ByteArray),.int .i64 0,.slice none 0 0,.slice none 0 0,.slice none 0 0,.slice none 0 0,.slice none 0 0,.slice none 0 0]) (t:=47) HB ?_;clear HB;intro gb37 hg w9 BK37 GW37 hb HB;have NB36_37:=na hg BK36;have NB37_36:=nc hg BK36;replace BK36:=bb BK36 hb;have NB38_37:=na hg BK38;have NB37_38:=nc hg BK38;replace BK38:=bb BK38 hb;clear hb hg;have hnb10:=NB36_38.out;have hnc10:=NB38_36.out;have hnb11:=NB36_37.out;have hnc11:=NB37_36.out;have hcz12:=cf8 BK36;have hnb13:=NB37_38.out;have hnc13:=NB38_37.out;have hcz14_0:w9.cell? ⟨gb37,0,none⟩=some (.string (⟨#[]⟩:ByteArray)):=(blk_cell BK37.out 0).trans rfl;have hcz14_1:w9.cell? ⟨gb37,1,none⟩=some (.int .i64 0):=(blk_cell BK37.out 1).trans rfl;have hcz14_2:w9.cell? ⟨gb37,2,none⟩=some (.slice none 0 0):=(blk_cell BK37.out 2).trans rfl;have hcz14_3:w9.cell? ⟨gb37,3,none⟩=some (.slice none 0 0):=(blk_cell BK37.out 3).trans rfl;have hcz14_4:w9.cell? ⟨gb37,4,none⟩=some (.slice none 0 0):=(blk_cell BK37.out 4).trans rfl;have hcz14_5:w9.cell? ⟨gb37,5,none⟩=some (.slice none 0 0):=(blk_cell BK37.out 5).trans rfl;have hcz14_6:w9.cell? ⟨gb37,6,none⟩=some (.slice none 0 0):=(blk_cell BK37.out 6).trans rfl;have hcz14_7:w9.cell? ⟨gb37,7,none⟩=some (.slice none 0 0):=(blk_cell BK37.out 7).trans rfl;have hfz14_0:=blk_frozen BK37.out 0;have hfz14_1:=blk_frozen BK37.out 1;have hfz14_2:=blk_frozen BK37.out 2;have hfz14_3:=blk_frozen BK37.out 3;have hfz14_4:=blk_frozen BK37.out 4;have hfz14_5:=blk_frozen BK37.out 5;have hfz14_6:=blk_frozen BK37.out 6;have hfz14_7:=blk_frozen BK37.out 7)|((first|((with_reducible refine gate_callee (f:=22) rfl ?_);refine goesL_ (some 12) rfl rfl Tryz.func22 (by kernel_rfl) rfl #[.slice A0_2 l0_2.length c0_2] rfl (by (try simp only [List.map_toArray,List.map_cons,List.map_nil]);first|done|rfl|(simp only [List.length_drop,List.length_take];rfl)) ?_;(with_reducible refine (laws_toPartnerS.calls k _ _ l0_2 t40 _ ?side1 HC0_2.out A2.out).mono ?_);(case side1=>exact Kd.C_below HR0_2.out (bs HB));rintro e w15 ⟨v53,rfl,ho0,hb⟩;refine ⟨_,rfl,?_⟩)|(go_at_call 22;(with_reducible refine (laws_toPartnerS.calls k _ _ l0_2 t40 _ ?side1 HC0_2.out A2.out).mono ?_);(case side1=>exact Kd.C_below HR0_2.out (bs HB));rintro e w15 ⟨v53,rfl,ho0,hb⟩));have HO41:=am (Kd.S_lower ho0 (below_size (bs HB)));replace BK36:=bb BK36 hb;replace BK38:=bb BK38 hb;replace BK37:=am (blk_below (g:=gb37) (o:=.cells #[.string a0_0,.int .i64 a0_1,.slice none 0 0,.slice none 0 0,.slice none 0 0,.slice none 0 0,.slice none 0 0,.slice none 0 0] 47 (0,0)) (kp BK37) hb);replace HB:=bq HB hb;(try clear hb);(try clear hb2);(try clear hk);(try clear hi);(try clear ho0);obtain ⟨Ao16,co16,eo16⟩:=Kd.S_slice HO41.out;subst eo16;have hcz17:=cf8 BK37;have hcz18_0:w15.cell? ⟨gb36,0,none⟩=some (.string a0_0):=(blk_cell BK36.out 0).trans rfl;have hcz18_1:w15.cell? ⟨gb36,1,none⟩=some (.int .i64 a0_1):=(blk_cell BK36.out 1).trans rfl;have hcz18_2:w15.cell? ⟨gb36,2,none⟩=some (.slice A0_2 l0_2.length c0_2):=(blk_cell BK36.out 2).trans rfl;have hcz18_3:w15.cell? ⟨gb36,3,none⟩=some (.slice A0_3 l0_3.length c0_3):=(blk_cell BK36.out 3).trans rfl;have hcz18_4:w15.cell? ⟨gb36,4,none⟩=some (.slice A0_4 l0_4.length c0_4):=(blk_cell BK36.out 4).trans rfl;have hcz18_5:w15.cell? ⟨gb36,5,none⟩=some (.slice A0_5 l0_5.length c0_5):=(blk_cell BK36.out 5).trans rfl;have hcz18_6:w15.cell? ⟨gb36,6,none⟩=some (.slice A0_6 l0_6.length c0_6):=(blk_cell BK36.out 6).trans rfl;have hcz18_7:w15.cell? ⟨gb36,7,none⟩=some (.slice A0_7 l0_7.length c0_7):=(blk_cell BK36.out 7).trans rfl;have hfz18_0:=blk_frozen BK36.out 0;have hfz18_1:=blk_frozen BK36.out 1;have hfz18_2:=blk_frozen BK36.out 2;have hfz18_3:=blk_frozen BK36.out 3;have hfz18_4:=blk_frozen BK36.out 4;have hfz18_5:=blk_frozen BK36.out 5;have hfz18_6:=blk_frozen BK36.out 6;have hfz18_7:=blk_frozen BK36.out 7)|((first|((with_reducible refine gate_callee (f:=23) rfl ?_);refine goesL_ (some 16) rfl rfl Tryz.func23 (by kernel_rfl) rfl #[.slice A0_3 l0_3.length c0_3] rfl (by (try simp only [List.map_toArray,List.map_cons,List.map_nil]);first|done|rfl|(simp only [List.length_drop,List.length_take];rfl)) ?_;(with_reducible refine (laws_toCrossS.calls k _ _ l0_3 t42 _ ?side1 HC0_3.out A3.out).mono ?_);(case side1=>exact Kd.C_below HR0_3.out (bs HB));rintro e w19 ⟨v54,rfl,ho0,hb⟩;refine ⟨_,rfl,?_⟩)|(go_at_call 23;(with_reducible refine (laws_toCrossS.calls k _ _ l0_3 t42 _ ?side1 HC0_3.out A3.out).mono ?_);(case side1=>exact Kd.C_below HR0_3.out (bs HB));rintro e w19 ⟨v54,rfl,ho0,hb⟩));have n0_:=am (Kd.S_below (by (with_reducible repeat (first|apply Kd.S_alloc|apply Kd.S_drewN|apply Kd.S_drew));exact (Kd.S_mono (Kd.S_far (p:=⟨gb37,2,none⟩) (Kd.S_types HO41.out BK37.out (by decide)) (fun _ hk=>hk.2) (.slice Ao16 t40.length co16)) (fun _ h_=>h_.1))) hb);have n1_:=am (Kd.R_lower ho0 (below_size (bs HB)));have n2_:=am (blk_below (ks BK36) hb);have n3_:=am (blk_below (ks BK38) hb);have n4_:=am (blk_below (g:=gb37) (o:=.cells #[.string a0_0,.int .i64 a0_1,.slice Ao16 t40.length co16,.slice none 0 0,.slice none 0 0,.slice none 0 0,.slice none 0 0,.slice none 0 0] 47 (0,0)) (kp BK37) hb);have n5_:=am (below_step (bs HB) hb);clear HO41;clear BK36;clear BK38;clear BK37;clear HB;have HO41:=n0_;have HO48:=n1_;have BK36:=n2_;have BK38:=n3_;have BK37:=n4_;have HB:=n5_;clear n0_ n1_ n2_ n3_ n4_ n5_;(try clear hb);(try clear hb2);(try clear hk);(try clear hi);(try clear ho0);obtain ⟨Ao20,co20,eo20⟩:=Kd.R_slice HO48.out;subst eo20;have hcz21:=cf8 BK37;have hcz22_0:w19.cell? ⟨gb36,0,none⟩=some (.string a0_0):=(blk_cell BK36.out 0).trans rfl;have hcz22_1:w19.cell? ⟨gb36,1,none⟩=some (.int .i64 a0_1):=(blk_cell BK36.out 1).trans rfl;have hcz22_2:w19.cell? ⟨gb36,2,none⟩=some (.slice A0_2 l0_2.length c0_2):=(blk_cell BK36.out 2).trans rfl;have hcz22_3:w19.cell? ⟨gb36,3,none⟩=some (.slice A0_3 l0_3.length c0_3):=(blk_cell BK36.out 3).trans rfl;have hcz22_4:w19.cell? ⟨gb36,4,none⟩=some (.slice A0_4 l0_4.length c0_4):=(blk_cell BK36.out 4).trans rfl;have hcz22_5:w19.cell? ⟨gb36,5,none⟩=some (.slice A0_5 l0_5.length c0_5):=(blk_cell BK36.out 5).trans rfl;have hcz22_6:w19.cell? ⟨gb36,6,none⟩=some (.slice A0_6 l0_6.length c0_6):=(blk_cell BK36.out 6).trans rfl;have hcz22_7:w19.cell? ⟨gb36,7,none⟩=some (.slice A0_7 l0_7.length c0_7):=(blk_cell BK36.out 7).trans rfl;have hfz22_0:=blk_frozen BK36.out 0;have hfz22_1:=blk_frozen BK36.out 1;have hfz22_2:=blk_frozen BK36.out 2;have hfz22_3:=blk_frozen BK36.out 3;have hfz22_4:=blk_frozen BK36.out 4;have hfz22_5:=blk_frozen BK36.out 5;have hfz22_6:=blk_frozen BK36.out 6;have hfz22_7:=blk_frozen BK36.out 7)|((first|((with_reducible refine gate_callee (f:=24) rfl ?_);refine goesL_ (some 20) rfl rfl Tryz.func24 (by kernel_rfl) rfl #[.agg #[.slice A0_4 l0_4.length c0_4,.slice A0_5 l0_5.length c0_5]] rfl (by (try simp only [List.map_toArray,List.map_cons,List.map_nil]);first|done|rfl|(simp only [List.length_drop,List.length_take];rfl)) ?_;(with_reducible refine (laws_toBook.calls k _ _ l0_4 _ _ l0_5 t44 t45 _ ?side1 HC0_4.out ?side3 HC0_5.out A4.out).mono ?_);(case side1=>exact Kd.C_below HR0_4.out (bs HB));(case side3=>exact Kd.C_below HR0_5.out (bs HB));rintro e w23 ⟨v55,v56,rfl,ho0,ho1,hb⟩;refine ⟨_,rfl,?_⟩)|(go_at_call 24;(with_reducible refine (laws_toBook.calls k _ _ l0_4 _ _ l0_5 t44 t45 _ ?side1 HC0_4.out ?side3 HC0_5.out A4.out).mono ?_);(case side1=>exact Kd.C_below HR0_4.out (bs HB));(case side3=>exact Kd.C_below HR0_5.out (bs HB));rintro e w23 ⟨v55,v56,rfl,ho0,ho1,hb⟩));have n0_:=am (Kd.S_below (by (with_reducible repeat (first|apply Kd.S_alloc|apply Kd.S_drewN|apply Kd.S_drew));exact (Kd.S_mono (Kd.S_far (p:=⟨gb37,3,none⟩) (Kd.S_types HO41.out BK37.out (by decide)) (fun _ hk=>hk.2) (.slice Ao20 t42.length co20)) (fun _ h_=>h_.1))) hb);have n1_:=am (Kd.R_below (by (with_reducible repeat (first|apply Kd.R_alloc|apply Kd.R_drewN|apply Kd.R_drew));exact (Kd.R_mono (rf (Kd.R_types HO48.out BK37.out (by decide))) (fun _ h_=>h_.1))) hb);have n2_:=am (Kd.R_lower ho0 (below_size (bs HB)));have n3_:=am (Kd.R_lower ho1 (below_size (bs HB)));have n4_:=am (blk_below (ks BK36) hb);have n5_:=am (blk_below (ks BK38) hb);have n6_:=am (blk_below (g:=gb37) (o:=.cells #[.string a0_0,.int .i64 a0_1,.slice Ao16 t40.length co16,.slice Ao20 t42.length co20,.slice none 0 0,.slice none 0 0,.slice none 0 0,.slice none 0 0] 47 (0,0)) (kp BK37) hb);have n7_:=am (below_step (bs HB) hb);clear HO41;clear HO48;clear BK36;clear BK38;clear BK37;clear HB;have HO41:=n0_;have HO48:=n1_;have HO49:=n2_;have HO50:=n3_;have BK36:=n4_;have BK38:=n5_;have BK37:=n6_;have HB:=n7_;clear n0_ n1_ n2_ n3_ n4_ n5_ n6_ n7_;(try clear hb);(try clear hb2);(try clear hk);(try clear hi);(try clear ho0);(try clear ho1);obtain ⟨Ao24,co24,eo24⟩:=Kd.R_slice HO49.out;subst eo24;have hcz25:=cf8 BK37;obtain ⟨Ao26,co26,eo26⟩:=Kd.R_slice HO50.out;subst eo26;have hcz27_0:w23.cell? ⟨gb36,0,none⟩=some (.string a0_0):=(blk_cell BK36.out 0).trans rfl;have hcz27_1:w23.cell? ⟨gb36,1,none⟩=some (.int .i64 a0_1):=(blk_cell BK36.out 1).trans rfl;have hcz27_2:w23.cell? ⟨gb36,2,none⟩=some (.slice A0_2 l0_2.length c0_2):=(blk_cell BK36.out 2).trans rfl;have hcz27_3:w23.cell? ⟨gb36,3,none⟩=some (.slice A0_3 l0_3.length c0_3):=(blk_cell BK36.out 3).trans rfl;have hcz27_4:w23.cell? ⟨gb36,4,none⟩=some (.slice A0_4 l0_4.length c0_4):=(blk_cell BK36.out 4).trans rfl;have hcz27_5:w23.cell? ⟨gb36,5,none⟩=some (.slice A0_5 l0_5.length c0_5):=(blk_cell BK36.out 5).trans rfl;have hcz27_6:w23.cell? ⟨gb36,6,none⟩=some (.slice A0_6 l0_6.length c0_6):=(blk_cell BK36.out 6).trans rfl;have hcz27_7:w23.cell? ⟨gb36,7,none⟩=some (.slice A0_7 l0_7.length c0_7):=(blk_cell BK36.out 7).trans rfl;have hfz27_0:=blk_frozen BK36.out 0;have hfz27_1:=blk_frozen BK36.out 1;have hfz27_2:=blk_frozen BK36.out 2;have hfz27_3:=blk_frozen BK36.out 3;have hfz27_4:=blk_frozen BK36.out 4;have hfz27_5:=blk_frozen BK36.out 5;have hfz27_6:=blk_frozen BK36.out 6;have hfz27_7:=blk_frozen BK36.out 7)|((first|((with_reducible refine gate_callee (f:=25) rfl ?_);refine goesL_ (some 24) rfl rfl Tryz.func25 (by kernel_rfl) rfl #[.slice A0_6 l0_6.length c0_6] rfl (by (try simp only [List.map_toArray,List.map_cons,List.map_nil]);first|done|rfl|(simp only [List.length_drop,List.length_take];rfl)) ?_;(with_reducible refine (laws_toDiffS.calls k _ _ l0_6 t46 _ ?side1 HC0_6.out A5.out).mono ?_);(case side1=>exact Kd.C_below HR0_6.out (bs HB));rintro e w28 ⟨v57,rfl,ho0,hb⟩;refine ⟨_,rfl,?_⟩)|(go_at_call 25;(with_reducible refine (laws_toDiffS.calls k _ _ l0_6 t46 _ ?side1 HC0_6.out A5.out).mono ?_);(case side1=>exact Kd.C_below HR0_6.out (bs HB));rintro e w28 ⟨v57,rfl,ho0,hb⟩));have n0_:=am (Kd.S_below (by (with_reducible repeat (first|apply Kd.S_alloc|apply Kd.S_drewN|apply Kd.S_drew));exact (Kd.S_mono (Kd.S_far (p:=⟨gb37,5,none⟩) (Kd.S_far (p:=⟨gb37,4,none⟩) (Kd.S_types HO41.out BK37.out (by decide)) (fun _ hk=>hk.2) (.slice Ao24 t44.length co24)) (fun _ hk=>hk.2) (.slice Ao26 t45.length co26)) (fun _ h_=>h_.1))) hb);have n1_:=am (Kd.R_below (by (with_reducible repeat (first|apply Kd.R_alloc|apply Kd.R_drewN|apply Kd.R_drew));exact (Kd.R_mono (rf (Kd.R_types HO48.out BK37.out (by decide))) (fun _ h_=>h_.1))) hb);have n2_:=am (Kd.R_below (by (with_reducible repeat (first|apply Kd.R_alloc|apply Kd.R_drewN|apply Kd.R_drew));exact (Kd.R_mono (rf (Kd.R_types HO49.out BK37.out (by decide))) (fun _ h_=>h_.1))) hb);have n3_:=am (Kd.R_below (by (with_reducible repeat (first|apply Kd.R_alloc|apply Kd.R_drewN|apply Kd.R_drew));exact (Kd.R_mono (rf (Kd.R_types HO50.out BK37.out (by decide))) (fun _ h_=>h_.1))) hb);have n4_:=am (Kd.R_lower ho0 (below_size (bs HB)));have n5_:=am (blk_below (ks BK36) hb);have n6_:=am (blk_below (ks BK38) hb);have n7_:=am (blk_below (g:=gb37) (o:=.cells #[.string a0_0,.int .i64 a0_1,.slice Ao16 t40.length co16,.slice Ao20 t42.length co20,.slice Ao24 t44.length co24,.slice Ao26 t45.length co26,.slice none 0 0,.slice none 0 0] 47 (0,0)) (kp BK37) hb);have n8_:=am (below_step (bs HB) hb);clear HO41;clear HO48;clear HO49;clear HO50;clear BK36;clear BK38;clear BK37;clear HB;have HO41:=n0_;have HO48:=n1_;have HO49:=n2_;have HO50:=n3_;have HO51:=n4_;have BK36:=n5_;have BK38:=n6_;have BK37:=n7_;have HB:=n8_;clear n0_ n1_ n2_ n3_ n4_ n5_ n6_ n7_ n8_;(try clear hb);(try clear hb2);(try clear hk);(try clear hi);(try clear ho0);obtain ⟨Ao29,co29,eo29⟩:=Kd.R_slice HO51.out;subst eo29;have hcz30:=cf8 BK37;have hcz31_0:w28.cell? ⟨gb36,0,none⟩=some (.string a0_0):=(blk_cell BK36.out 0).trans rfl;have hcz31_1:w28.cell? ⟨gb36,1,none⟩=some (.int .i64 a0_1):=(blk_cell BK36.out 1).trans rfl;have hcz31_2:w28.cell? ⟨gb36,2,none⟩=some (.slice A0_2 l0_2.length c0_2):=(blk_cell BK36.out 2).trans rfl;have hcz31_3:w28.cell? ⟨gb36,3,none⟩=some (.slice A0_3 l0_3.length c0_3):=(blk_cell BK36.out 3).trans rfl;have hcz31_4:w28.cell? ⟨gb36,4,none⟩=some (.slice A0_4 l0_4.length c0_4):=(blk_cell BK36.out 4).trans rfl;have hcz31_5:w28.cell? ⟨gb36,5,none⟩=some (.slice A0_5 l0_5.length c0_5):=(blk_cell BK36.out 5).trans rfl;have hcz31_6:w28.cell? ⟨gb36,6,none⟩=some (.slice A0_6 l0_6.length c0_6):=(blk_cell BK36.out 6).trans rfl;have hcz31_7:w28.cell? ⟨gb36,7,none⟩=some (.slice A0_7 l0_7.length c0_7):=(blk_cell BK36.out 7).trans rfl;have hfz31_0:=blk_frozen BK36.out 0;have hfz31_1:=blk_frozen BK36.out 1;have hfz31_2:=blk_frozen BK36.out 2;have hfz31_3:=blk_frozen BK36.out 3;have hfz31_4:=blk_frozen BK36.out 4;have hfz31_5:=blk_frozen BK36.out 5;have hfz31_6:=blk_frozen BK36.out 6;have hfz31_7:=blk_frozen BK36.out 7)|((first|((with_reducible refine gate_callee (f:=26) rfl ?_);refine goesL_ (some 28) rfl rfl Tryz.func26 (by kernel_rfl) rfl #[.slice A0_7 l0_7.length c0_7] rfl (by (try simp only [List.map_toArray,List.map_cons,List.map_nil]);first|done|rfl|(simp only [List.length_drop,List.length_take];rfl)) ?_;(with_reducible refine (laws_toOutS.calls k _ _ l0_7 t39 _ ?side1 HC0_7.out A6.out).mono ?_);(case side1=>exact Kd.C_below HR0_7.out (bs HB));rintro e w32 ⟨v58,rfl,ho0,hb⟩;refine ⟨_,rfl,?_⟩)|(go_at_call 26;(with_reducible refine (laws_toOutS.calls k _ _ l0_7 t39 _ ?side1 HC0_7.out A6.out).mono ?_);(case side1=>exact Kd.C_below HR0_7.out (bs HB));rintro e w32 ⟨v58,rfl,ho0,hb⟩));have n0_:=am (Kd.S_below (by (with_reducible repeat (first|apply Kd.S_alloc|apply Kd.S_drewN|apply Kd.S_drew));exact (Kd.S_mono (Kd.S_far (p:=⟨gb37,6,none⟩) (Kd.S_types HO41.out BK37.out (by decide)) (fun _ hk=>hk.2) (.slice Ao29 t46.length co29)) (fun _ h_=>h_.1))) hb);have n1_:=am (Kd.R_below (by (with_reducible repeat (first|apply Kd.R_alloc|apply Kd.R_drewN|apply Kd.R_drew));exact (Kd.R_mono (rf (Kd.R_types HO48.out BK37.out (by decide))) (fun _ h_=>h_.1))) hb);have n2_:=am (Kd.R_below (by (with_reducible repeat (first|apply Kd.R_alloc|apply Kd.R_drewN|apply Kd.R_drew));exact (Kd.R_mono (rf (Kd.R_types HO49.out BK37.out (by decide))) (fun _ h_=>h_.1))) hb);have n3_:=am (Kd.R_below (by (with_reducible repeat (first|apply Kd.R_alloc|apply Kd.R_drewN|apply Kd.R_drew));exact (Kd.R_mono (rf (Kd.R_types HO50.out BK37.out (by decide))) (fun _ h_=>h_.1))) hb);have n4_:=am (Kd.R_below (by (with_reducible repeat (first|apply Kd.R_alloc|apply Kd.R_drewN|apply Kd.R_drew));exact (Kd.R_mono (rf (Kd.R_types HO51.out BK37.out (by decide))) (fun _ h_=>h_.1))) hb);have n5_:=am (Kd.R_lower ho0 (below_size (bs HB)));have n6_:=am (blk_below (ks BK36) hb);have n7_:=am (blk_below (ks BK38) hb);have n8_:=am (blk_below (g:=gb37) (o:=.cells #[.string a0_0,.int .i64 a0_1,.slice Ao16 t40.length co16,.slice Ao20 t42.length co20,.slice Ao24 t44.length co24,.slice Ao26 t45.length co26,.slice Ao29 t46.length co29,.slice none 0 0] 47 (0,0)) (kp BK37) hb);have n9_:=am (below_step (bs HB) hb);clear HO41;clear HO48;clear HO49;clear HO50;clear HO51;clear BK36;clear BK38;clear BK37;clear HB;have HO41:=n0_;have HO48:=n1_;have HO49:=n2_;have HO50:=n3_;have HO51:=n4_;have HO52:=n5_;have BK36:=n6_;have BK38:=n7_;have BK37:=n8_;have HB:=n9_;clear n0_ n1_ n2_ n3_ n4_ n5_ n6_ n7_ n8_ n9_;(try clear hb);(try clear hb2);(try clear hk);(try clear hi);(try clear ho0);obtain ⟨Ao33,co33,eo33⟩:=Kd.R_slice HO52.out;subst eo33;have hcz34:=cf8 BK37;have hcz35:=cf8 BK38))
 refine bodyPost_ret (results_cell_row rfl _ _ gb38 47 #[.string a0_0,.int .i64 a0_1,.slice Ao16 t40.length co16,.slice Ao20 t42.length co20,.slice Ao24 t44.length co24,.slice Ao26 t45.length co26,.slice Ao29 t46.length co29,.slice Ao33 t39.length co33] (0,0) _ rfl (kp BK38) Tryz.underlying47 rfl (by kernel_rfl)) rfl ?_
 exact ⟨_,_,_,_,_,_,ff,by (with_reducible repeat (first|apply Kd.S_alloc|apply Kd.S_drewN|apply Kd.S_drew));exact Kd.S_mono (Kd.S_far (p:=⟨gb38,7,none⟩) (Kd.S_far (p:=⟨gb38,6,none⟩) (Kd.S_far (p:=⟨gb38,5,none⟩) (Kd.S_far (p:=⟨gb38,4,none⟩) (Kd.S_far (p:=⟨gb38,3,none⟩) (Kd.S_far (p:=⟨gb38,2,none⟩) (Kd.S_far (p:=⟨gb38,1,none⟩) (Kd.S_far (p:=⟨gb38,0,none⟩) (Kd.S_far (p:=⟨gb37,7,none⟩) (Kd.S_types (Kd.S_types HO41.out BK37.out (by decide)) BK38.out (by decide)) (fun _ hk=>hk.1.2) (.slice Ao33 t39.length co33)) (fun _ hk=>hk.2) (.string a0_0)) (fun _ hk=>hk.2) (.int .i64 a0_1)) (fun _ hk=>hk.2) (.slice Ao16 t40.length co16)) (fun _ hk=>hk.2) (.slice Ao20 t42.length co20)) (fun _ hk=>hk.2) (.slice Ao24 t44.length co24)) (fun _ hk=>hk.2) (.slice Ao26 t45.length co26)) (fun _ hk=>hk.2) (.slice Ao29 t46.length co29)) (fun _ hk=>hk.2) (.slice Ao33 t39.length co33)) (fun _ hk=>trivial),by (with_reducible repeat (first|apply Kd.R_alloc|apply Kd.R_drewN|apply Kd.R_drew));exact Kd.R_mono (Kd.R_far (p:=⟨gb38,7,none⟩) (Kd.R_far (p:=⟨gb38,6,none⟩) (Kd.R_far (p:=⟨gb38,5,none⟩) (Kd.R_far (p:=⟨gb38,4,none⟩) (Kd.R_far (p:=⟨gb38,3,none⟩) (Kd.R_far (p:=⟨gb38,2,none⟩) (Kd.R_far (p:=⟨gb38,1,none⟩) (Kd.R_far (p:=⟨gb38,0,none⟩) (Kd.R_far (p:=⟨gb37,7,none⟩) (Kd.R_types (Kd.R_types HO48.out BK37.out (by decide)) BK38.out (by decide)) (fun _ hk=>hk.1.2) (.slice Ao33 t39.length co33)) (fun _ hk=>hk.2) (.string a0_0)) (fun _ hk=>hk.2) (.int .i64 a0_1)) (fun _ hk=>hk.2) (.slice Ao16 t40.length co16)) (fun _ hk=>hk.2) (.slice Ao20 t42.length co20)) (fun _ hk=>hk.2) (.slice Ao24 t44.length co24)) (fun _ hk=>hk.2) (.slice Ao26 t45.length co26)) (fun _ hk=>hk.2) (.slice Ao29 t46.length co29)) (fun _ hk=>hk.2) (.slice Ao33 t39.length co33)) (fun _ hk=>trivial),by (with_reducible repeat (first|apply Kd.R_alloc|apply Kd.R_drewN|apply Kd.R_drew));exact Kd.R_mono (Kd.R_far (p:=⟨gb38,7,none⟩) (Kd.R_far (p:=⟨gb38,6,none⟩) (Kd.R_far (p:=⟨gb38,5,none⟩) (Kd.R_far (p:=⟨gb38,4,none⟩) (Kd.R_far (p:=⟨gb38,3,none⟩) (Kd.R_far (p:=⟨gb38,2,none⟩) (Kd.R_far (p:=⟨gb38,1,none⟩) (Kd.R_far (p:=⟨gb38,0,none⟩) (Kd.R_far (p:=⟨gb37,7,none⟩) (Kd.R_types (Kd.R_types HO49.out BK37.out (by decide)) BK38.out (by decide)) (fun _ hk=>hk.1.2) (.slice Ao33 t39.length co33)) (fun _ hk=>hk.2) (.string a0_0)) (fun _ hk=>hk.2) (.int .i64 a0_1)) (fun _ hk=>hk.2) (.slice Ao16 t40.length co16)) (fun _ hk=>hk.2) (.slice Ao20 t42.length co20)) (fun _ hk=>hk.2) (.slice Ao24 t44.length co24)) (fun _ hk=>hk.2) (.slice Ao26 t45.length co26)) (fun _ hk=>hk.2) (.slice Ao29 t46.length co29)) (fun _ hk=>hk.2) (.slice Ao33 t39.length co33)) (fun _ hk=>trivial),by (with_reducible repeat (first|apply Kd.R_alloc|apply Kd.R_drewN|apply Kd.R_drew));exact Kd.R_mono (Kd.R_far (p:=⟨gb38,7,none⟩) (Kd.R_far (p:=⟨gb38,6,none⟩) (Kd.R_far (p:=⟨gb38,5,none⟩) (Kd.R_far (p:=⟨gb38,4,none⟩) (Kd.R_far (p:=⟨gb38,3,none⟩) (Kd.R_far (p:=⟨gb38,2,none⟩) (Kd.R_far (p:=⟨gb38,1,none⟩) (Kd.R_far (p:=⟨gb38,0,none⟩) (Kd.R_far (p:=⟨gb37,7,none⟩) (Kd.R_types (Kd.R_types HO50.out BK37.out (by decide)) BK38.out (by decide)) (fun _ hk=>hk.1.2) (.slice Ao33 t39.length co33)) (fun _ hk=>hk.2) (.string a0_0)) (fun _ hk=>hk.2) (.int .i64 a0_1)) (fun _ hk=>hk.2) (.slice Ao16 t40.length co16)) (fun _ hk=>hk.2) (.slice Ao20 t42.length co20)) (fun _ hk=>hk.2) (.slice Ao24 t44.length co24)) (fun _ hk=>hk.2) (.slice Ao26 t45.length co26)) (fun _ hk=>hk.2) (.slice Ao29 t46.length co29)) (fun _ hk=>hk.2) (.slice Ao33 t39.length co33)) (fun _ hk=>trivial),by (with_reducible repeat (first|apply Kd.R_alloc|apply Kd.R_drewN|apply Kd.R_drew));exact Kd.R_mono (Kd.R_far (p:=⟨gb38,7,none⟩) (Kd.R_far (p:=⟨gb38,6,none⟩) (Kd.R_far (p:=⟨gb38,5,none⟩) (Kd.R_far (p:=⟨gb38,4,none⟩) (Kd.R_far (p:=⟨gb38,3,none⟩) (Kd.R_far (p:=⟨gb38,2,none⟩) (Kd.R_far (p:=⟨gb38,1,none⟩) (Kd.R_far (p:=⟨gb38,0,none⟩) (Kd.R_far (p:=⟨gb37,7,none⟩) (Kd.R_types (Kd.R_types HO51.out BK37.out (by decide)) BK38.out (by decide)) (fun _ hk=>hk.1.2) (.slice Ao33 t39.length co33)) (fun _ hk=>hk.2) (.string a0_0)) (fun _ hk=>hk.2) (.int .i64 a0_1)) (fun _ hk=>hk.2) (.slice Ao16 t40.length co16)) (fun _ hk=>hk.2) (.slice Ao20 t42.length co20)) (fun _ hk=>hk.2) (.slice Ao24 t44.length co24)) (fun _ hk=>hk.2) (.slice Ao26 t45.length co26)) (fun _ hk=>hk.2) (.slice Ao29 t46.length co29)) (fun _ hk=>hk.2) (.slice Ao33 t39.length co33)) (fun _ hk=>trivial),by (with_reducible repeat (first|apply Kd.R_alloc|apply Kd.R_drewN|apply Kd.R_drew));exact Kd.R_mono (Kd.R_far (p:=⟨gb38,7,none⟩) (Kd.R_far (p:=⟨gb38,6,none⟩) (Kd.R_far (p:=⟨gb38,5,none⟩) (Kd.R_far (p:=⟨gb38,4,none⟩) (Kd.R_far (p:=⟨gb38,3,none⟩) (Kd.R_far (p:=⟨gb38,2,none⟩) (Kd.R_far (p:=⟨gb38,1,none⟩) (Kd.R_far (p:=⟨gb38,0,none⟩) (Kd.R_far (p:=⟨gb37,7,none⟩) (Kd.R_types (Kd.R_types HO52.out BK37.out (by decide)) BK38.out (by decide)) (fun _ hk=>hk.1.2) (.slice Ao33 t39.length co33)) (fun _ hk=>hk.2) (.string a0_0)) (fun _ hk=>hk.2) (.int .i64 a0_1)) (fun _ hk=>hk.2) (.slice Ao16 t40.length co16)) (fun _ hk=>hk.2) (.slice Ao20 t42.length co20)) (fun _ hk=>hk.2) (.slice Ao24 t44.length co24)) (fun _ hk=>hk.2) (.slice Ao26 t45.length co26)) (fun _ hk=>hk.2) (.slice Ao29 t46.length co29)) (fun _ hk=>hk.2) (.slice Ao33 t39.length co33)) (fun _ hk=>trivial),bs HB⟩
theorem spec_l01Name.calls (k:Nat) (a0:ByteArray) (r:Bool) (w:World) (H:spec_l01Name.f k a0=some r) :
  Calls Tryz.prog 19 #[.string a0] w fun e w'=>e=.returned (.bool r)∧Drawn0 w w':=by
 unfold spec_l01Name.f at H;have HC2:=am H;clear H
 go_in
 go_upto_region 1 with (fail)
 go_cut [22] (fun v22 wc=>∃ (kq:Nat) (x22_1:Bool),v22=.bool x22_1∧Aside0 (spec_l01Name.j0 kq a0 x22_1=some r)∧Aside0 (kq≤k)∧Drawn0 w wc)
 case first =>
  have H:=HC2.out;clear HC2
  revert H;refine id2k ?_ ?_
  ·intro c3 c3b0 H;have c3b1:decide (a0.size<1)=true:=decide_eq_true (by omega);clear c3
   (first|rw [c3b0]|(simp only [i64_w,i32_w];rw [c3b0])|rw [c3b1]|skip)
   have H':=am H;clear H
   go_wp2
   go_meet
   case rel=>exact ⟨_,(true),fg,H',⟨fl⟩,by repeat (first|exact Drawn0.refl _|apply Drawn0.step)⟩
  ·intro c3 c3b0 H;have c3b1:decide (a0.size<1)=false:=decide_eq_false (by omega);clear c3
   (first|rw [c3b0]|(simp only [i64_w,i32_w];rw [c3b0])|rw [c3b1]|skip)
   revert H;refine ip2 ?_ ?_
   ·intro c4 H;have c4b0:decide (12<(a0.size:Int))=true:=decide_eq_true c4;have c4b1:decide (12<a0.size)=true:=decide_eq_true (by omega);clear c4;have H':=am H;clear H
    go_wp2
    go_meet
    case rel=>exact ⟨_,(true),fg,H',⟨fl⟩,by repeat (first|exact Drawn0.refl _|apply Drawn0.step)⟩
   ·intro c4 H;have c4b0:decide (12<(a0.size:Int))=false:=decide_eq_false c4;have c4b1:decide (12<a0.size)=false:=decide_eq_false (by omega);clear c4
    revert H;refine id1k ?_
    intro c5 c5b0 H;have c5b1:decide (0<a0.size)=true:=decide_eq_true (by omega);clear c5
    revert H;refine id2 ?_ ?_
    ·intro c7b0 H;have H':=am H;clear H;have p6:0≤(0:Int):=(by omega);have q6:0<a0.size:=(by have:(0:Int)<(a0.size:Int):=oa;omega);have hx6:∀ h:0<a0.size,((a0[0]'h).toNat:Int)=bt a0 0:=bt_at a0 0;clear p6;have qi6:(0<(a0.size:Int))=True:=eq_true (oa);replace q6:=eq_true q6
     go_wp2
     go_meet
     case rel=>exact ⟨_,(true),fg,H',⟨fl⟩,by repeat (first|exact Drawn0.refl _|apply Drawn0.step)⟩
    ·intro c7b0 H;have H':=am H;clear H;have p6:0≤(0:Int):=(by omega);have q6:0<a0.size:=(by have:(0:Int)<(a0.size:Int):=oa;omega);have hx6:∀ h:0<a0.size,((a0[0]'h).toNat:Int)=bt a0 0:=bt_at a0 0;clear p6;have qi6:(0<(a0.size:Int))=True:=eq_true (oa);replace q6:=eq_true q6;have p8:0≤(0:Int):=(by omega);have q8:0<a0.size:=(by have:(0:Int)<(a0.size:Int):=oa;omega);have hx8:∀ h:0<a0.size,((a0[0]'h).toNat:Int)=bt a0 0:=bt_at a0 0;clear p8;have qi8:(0<(a0.size:Int))=True:=eq_true (oa);replace q8:=eq_true q8
     go_wp2
     go_meet
     case rel=>exact ⟨_,(decide ((bt a0 0)>90)),fg,H',⟨fl⟩,by repeat (first|exact Drawn0.refl _|apply Drawn0.step)⟩
 case rest =>
  clear HC2
  obtain ⟨kq,x22_1,rfl,HA,HJ1,⟨mc1,rfl⟩⟩:=hcut
  cases kq with
  | zero=>exact absurd HA.out (by simp [spec_l01Name.j0])
  | succ kj1 =>
   have H:=HA.out;clear HA;simp only [spec_l01Name.j0] at H
   obtain rfl|rfl:=bt x22_1
   ·replace H:=itT H;obtain rfl:=si H
    go_wp2
    go_ret
    exact ⟨fg,dr⟩
   ·replace H:=itF H;have H':=am H;clear H
    go_wp2
    go_loopg [3] kj1 (fun kq v3 w'=>∃ (x3_2:Int),v3=.int .i64 x3_2∧Aside0 (spec_l01Name.l0 kq a0 x3_2=some r)∧Aside0 (kq≤kj1)∧Drawn0 w w')
    case atStart=>exact ⟨(0),fg,H',⟨Nat.le_refl _⟩,by repeat (first|exact Drawn0.refl _|apply Drawn0.step)⟩
    case round =>
     clear H'
     obtain ⟨x3_2,rfl,HA,HK2,⟨m2,rfl⟩⟩:=hrel
     cases gk with
     | zero=>exact absurd HA.out (by simp [spec_l01Name.l0])
     | succ k2 =>
      have H:=HA.out;clear HA;simp only [spec_l01Name.l0] at H
      revert H;refine id2 ?_ ?_
      ·intro c10b0 H
       revert H;refine id1 ?_
       intro c11b0 H
       revert H;refine ip2 ?_ ?_
       ·intro c13 H;have c13b0:decide (65≤(bt a0 x3_2))=true:=decide_eq_true c13;clear c13
        revert H;refine id2 ?_ ?_
        ·intro c14b0 H;have H':=am H;clear H;have p12:0≤(x3_2:Int):=oa;have q12:x3_2<(a0.size:Int):=oa;have hx12:=bt_at a0 x3_2;replace p12:=eq_true p12;replace q12:=eq_true q12
         go_wp2
         go_roundg k2
         case measure=>have:=HJ1.out;have:=HK2.out;omega
         case rel=>exact ⟨(wrap64 (x3_2+1)),fg,H',⟨by have:=HJ1.out;have:=HK2.out;omega⟩,by repeat (first|exact Drawn0.refl _|apply Drawn0.step)⟩
        ·intro c14b0 H
         revert H;refine ip2 ?_ ?_
         ·intro c15 H;have c15b0:decide (48≤(bt a0 x3_2))=true:=decide_eq_true c15;clear c15
          revert H;refine id2 ?_ ?_
          ·intro c16b0 H;have H':=am H;clear H;have p12:0≤(x3_2:Int):=oa;have q12:x3_2<(a0.size:Int):=oa;have hx12:=bt_at a0 x3_2;replace p12:=eq_true p12;replace q12:=eq_true q12
           go_wp2
           go_roundg k2
           case measure=>have:=HJ1.out;have:=HK2.out;omega
           case rel=>exact ⟨(wrap64 (x3_2+1)),fg,H',⟨by have:=HJ1.out;have:=HK2.out;omega⟩,by repeat (first|exact Drawn0.refl _|apply Drawn0.step)⟩
          ·intro c16b0 H
           revert H;refine ie2 ?_ ?_
           ·intro c17b0 c17b1 H;have H':=am H;clear H;have p12:0≤(x3_2:Int):=oa;have q12:x3_2<(a0.size:Int):=oa;have hx12:=bt_at a0 x3_2;replace p12:=eq_true p12;replace q12:=eq_true q12
            go_wp2
            go_roundg k2
            case measure=>have:=HJ1.out;have:=HK2.out;omega
            case rel=>exact ⟨(wrap64 (x3_2+1)),fg,H',⟨by have:=HJ1.out;have:=HK2.out;omega⟩,by repeat (first|exact Drawn0.refl _|apply Drawn0.step)⟩
           ·intro c17 c17b0 c17b1 H;obtain rfl:=si H;have p12:0≤(x3_2:Int):=oa;have q12:x3_2<(a0.size:Int):=oa;have hx12:=bt_at a0 x3_2;replace p12:=eq_true p12;replace q12:=eq_true q12
            go_wp2
            go_ret
            exact ⟨fg,dr⟩
         ·intro c15 H;have c15b0:decide (48≤(bt a0 x3_2))=false:=decide_eq_false c15;clear c15
          revert H;refine ie2 ?_ ?_
          ·intro c18b0 c18b1 H;have H':=am H;clear H;have p12:0≤(x3_2:Int):=oa;have q12:x3_2<(a0.size:Int):=oa;have hx12:=bt_at a0 x3_2;replace p12:=eq_true p12;replace q12:=eq_true q12
           go_wp2
           go_roundg k2
           case measure=>have:=HJ1.out;have:=HK2.out;omega
           case rel=>exact ⟨(wrap64 (x3_2+1)),fg,H',⟨by have:=HJ1.out;have:=HK2.out;omega⟩,by repeat (first|exact Drawn0.refl _|apply Drawn0.step)⟩
          ·intro c18 c18b0 c18b1 H;obtain rfl:=si H;have p12:0≤(x3_2:Int):=oa;have q12:x3_2<(a0.size:Int):=oa;have hx12:=bt_at a0 x3_2;replace p12:=eq_true p12;replace q12:=eq_true q12
           go_wp2
           go_ret
           exact ⟨fg,dr⟩
       ·intro c13 H;have c13b0:decide (65≤(bt a0 x3_2))=false:=decide_eq_false c13;clear c13
        revert H;refine ip2 ?_ ?_
        ·intro c19 H;have c19b0:decide (48≤(bt a0 x3_2))=true:=decide_eq_true c19;clear c19
         revert H;refine id2 ?_ ?_
         ·intro c20b0 H;have H':=am H;clear H;have p12:0≤(x3_2:Int):=oa;have q12:x3_2<(a0.size:Int):=oa;have hx12:=bt_at a0 x3_2;replace p12:=eq_true p12;replace q12:=eq_true q12
          go_wp2
          go_roundg k2
          case measure=>have:=HJ1.out;have:=HK2.out;omega
          case rel=>exact ⟨(wrap64 (x3_2+1)),fg,H',⟨by have:=HJ1.out;have:=HK2.out;omega⟩,by repeat (first|exact Drawn0.refl _|apply Drawn0.step)⟩
         ·intro c20b0 H
          revert H;refine ie2 ?_ ?_
          ·intro c21b0 c21b1 H;have H':=am H;clear H;have p12:0≤(x3_2:Int):=oa;have q12:x3_2<(a0.size:Int):=oa;have hx12:=bt_at a0 x3_2;replace p12:=eq_true p12;replace q12:=eq_true q12
           go_wp2
           go_roundg k2
           case measure=>have:=HJ1.out;have:=HK2.out;omega
           case rel=>exact ⟨(wrap64 (x3_2+1)),fg,H',⟨by have:=HJ1.out;have:=HK2.out;omega⟩,by repeat (first|exact Drawn0.refl _|apply Drawn0.step)⟩
          ·intro c21 c21b0 c21b1 H;obtain rfl:=si H;have p12:0≤(x3_2:Int):=oa;have q12:x3_2<(a0.size:Int):=oa;have hx12:=bt_at a0 x3_2;replace p12:=eq_true p12;replace q12:=eq_true q12
           go_wp2
           go_ret
           exact ⟨fg,dr⟩
        ·intro c19 H;have c19b0:decide (48≤(bt a0 x3_2))=false:=decide_eq_false c19;clear c19
         revert H;refine ie2 ?_ ?_
         ·intro c22b0 c22b1 H;have H':=am H;clear H;have p12:0≤(x3_2:Int):=oa;have q12:x3_2<(a0.size:Int):=oa;have hx12:=bt_at a0 x3_2;replace p12:=eq_true p12;replace q12:=eq_true q12
          go_wp2
          go_roundg k2
          case measure=>have:=HJ1.out;have:=HK2.out;omega
          case rel=>exact ⟨(wrap64 (x3_2+1)),fg,H',⟨by have:=HJ1.out;have:=HK2.out;omega⟩,by repeat (first|exact Drawn0.refl _|apply Drawn0.step)⟩
         ·intro c22 c22b0 c22b1 H;obtain rfl:=si H;have p12:0≤(x3_2:Int):=oa;have q12:x3_2<(a0.size:Int):=oa;have hx12:=bt_at a0 x3_2;replace p12:=eq_true p12;replace q12:=eq_true q12
          go_wp2
          go_ret
          exact ⟨fg,dr⟩
      ·intro c10b0 H;obtain rfl:=si H
       go_wp2
       go_ret
       exact ⟨fg,dr⟩
theorem spec_l01Day.calls (a0:Int) (r:Bool) (w:World) (H:spec_l01Day.f a0=some r) :
  Calls Tryz.prog 56 #[.int .i64 a0] w fun e w'=>e=.returned (.bool r)∧Drawn0 w w':=by
 unfold spec_l01Day.f at H
 revert H;refine ip2 ?_ ?_
 ·intro c2 H;have c2b0:decide (0≤a0)=true:=decide_eq_true c2;clear c2;obtain rfl:=si H
  go_in
  go_wp2
  go_ret
  exact ⟨fg,dr⟩
 ·intro c2 H;have c2b0:decide (0≤a0)=false:=decide_eq_false c2;clear c2;obtain rfl:=si H
  go_in
  go_wp2
  go_ret
  exact ⟨fg,dr⟩
theorem spec_l08Before.calls (a0_0:ByteArray) (a0_1:ByteArray) (a0_2:ByteArray) (a1_0:ByteArray) (a1_1:ByteArray) (a1_2:ByteArray) (r:Bool) (w:World) (H:spec_l08Before.f a0_0 a0_1 a0_2 a1_0 a1_1 a1_2=some r) :
  Calls Tryz.prog 91 #[.agg #[.string a0_0,.string a0_1,.string a0_2],.agg #[.string a1_0,.string a1_1,.string a1_2]] w fun e w'=>e=.returned (.bool r)∧Below w.heap.size w w':=by
 have hu111:=Tryz.underlying111;have HB:=am (Below.refl w.heap.size w);unfold spec_l08Before.f at H
 revert H;refine ip2 ?_ ?_
 ·intro c3 H;have c3b0:(Op.bytesLess a0_0.toList a1_0.toList)=true:=c3;clear c3;obtain rfl:=si H
  go_in
  go_wp2_with (first|((with_reducible refine gate_dst (N:=2) rfl ?_);refine bz 2 (cs:=#[.string a0_0,.string a0_1,.string a0_2]) (t:=111) HB ?_;clear HB;intro gb20 hg w4 BK20 GW20 hb HB;clear hb hg)|((with_reducible refine gate_dst (N:=3) rfl ?_);refine bz 3 (cs:=#[.string a1_0,.string a1_1,.string a1_2]) (t:=111) HB ?_;clear HB;intro gb21 hg w5 BK21 GW21 hb HB;have NB20_21:=na hg BK20;have NB21_20:=nc hg BK20;replace BK20:=bb BK20 hb;clear hb hg;have hnb6:=NB20_21.out;have hnc6:=NB21_20.out;have hcz7:=cf3 BK20;have hcz8:=cf3 BK21))
  go_ret
  exact ⟨ff,bs HB⟩
 ·intro c3 H
  have c3b0:(Op.bytesLess a0_0.toList a1_0.toList)=false:=by simpa using c3
  clear c3
  revert H;refine ie2 ?_ ?_
  ·intro c9b0 c9b1 H;obtain rfl:=si H
   go_in
   go_wp2_with (first|((with_reducible refine gate_dst (N:=2) rfl ?_);refine bz 2 (cs:=#[.string a0_0,.string a0_1,.string a0_2]) (t:=111) HB ?_;clear HB;intro gb20 hg w10 BK20 GW20 hb HB;clear hb hg)|((with_reducible refine gate_dst (N:=3) rfl ?_);refine bz 3 (cs:=#[.string a1_0,.string a1_1,.string a1_2]) (t:=111) HB ?_;clear HB;intro gb21 hg w11 BK21 GW21 hb HB;have NB20_21:=na hg BK20;have NB21_20:=nc hg BK20;replace BK20:=bb BK20 hb;clear hb hg;have hnb12:=NB20_21.out;have hnc12:=NB21_20.out;have hcz13:=cf3 BK20;have hcz14:=cf3 BK21))
   go_ret
   exact ⟨ff,bs HB⟩
  ·intro c9 c9b0 c9b1 H;obtain rfl:=si H
   go_in
   go_wp2_with (first|((with_reducible refine gate_dst (N:=2) rfl ?_);refine bz 2 (cs:=#[.string a0_0,.string a0_1,.string a0_2]) (t:=111) HB ?_;clear HB;intro gb20 hg w15 BK20 GW20 hb HB;clear hb hg)|((with_reducible refine gate_dst (N:=3) rfl ?_);refine bz 3 (cs:=#[.string a1_0,.string a1_1,.string a1_2]) (t:=111) HB ?_;clear HB;intro gb21 hg w16 BK21 GW21 hb HB;have NB20_21:=na hg BK20;have NB21_20:=nc hg BK20;replace BK20:=bb BK20 hb;clear hb hg;have hnb17:=NB20_21.out;have hnc17:=NB21_20.out;have hcz18:=cf3 BK20;have hcz19:=cf3 BK21))
   go_ret
   exact ⟨ff,bs HB⟩
theorem spec_l01Control.calls (a0:Int) (r:Bool) (w:World) (H:spec_l01Control.f a0=some r) :
  Calls Tryz.prog 20 #[.int .i64 a0] w fun e w'=>e=.returned (.bool r)∧Drawn0 w w':=by
 unfold spec_l01Control.f at H
 revert H;refine ip2 ?_ ?_
 ·intro c2 H;have c2b0:decide (1≤a0)=true:=decide_eq_true c2;clear c2;obtain rfl:=si H
  go_in
  go_wp2
  go_ret
  exact ⟨fg,dr⟩
 ·intro c2 H;have c2b0:decide (1≤a0)=false:=decide_eq_false c2;clear c2;obtain rfl:=si H
  go_in
  go_wp2
  go_ret
  exact ⟨fg,dr⟩
theorem spec_l12Out.calls (k:Nat) (a0_0:ByteArray) (a0_1:Int) (a0_2:ByteArray) (a0_3:Int) (a0_4:Int) (r:Bool) (w:World) (H:spec_l12Out.f k a0_0 a0_1 a0_2 a0_3 a0_4=some r) :
  Calls Tryz.prog 93 #[.agg #[.string a0_0,.int .i64 a0_1,.string a0_2,.int .i64 a0_3,.int .i64 a0_4]] w fun e w'=>e=.returned (.bool r)∧Below w.heap.size w w':=by
 have hu117:=Tryz.underlying117;have HB:=am (Below.refl w.heap.size w);unfold spec_l12Out.f at H;replace H:=bo H;obtain ⟨t21,A2,H⟩:=H
 go_in
 try go_wp2_with (first|((with_reducible refine gate_dst (N:=1) rfl ?_);(try (refine gate_guard (by rfl) ?_;dsimp only));refine bz 1 (cs:=#[.string a0_0,.int .i64 a0_1,.string a0_2,.int .i64 a0_3,.int .i64 a0_4]) (t:=117) HB ?_;clear HB;intro gb8 hg w3 BK8 GW8 hb HB;clear hb hg;have hcz4:=cf5 BK8))
 go_at_call 19;(with_reducible refine (spec_l01Name.calls k a0_0 t21 _ A2.out).mono ?_);rintro e w' ⟨rfl,⟨nd,rfl⟩⟩
 obtain rfl|rfl:=bt t21
 ·replace H:=itT H;replace H:=bo H;obtain ⟨t22,A6,H⟩:=H;have hcz7:=cf5 BK8
  try go_wp2_with (fail)
  go_at_call 20;(with_reducible refine (spec_l01Control.calls a0_1 t22 _ A6.out).mono ?_);rintro e w' ⟨rfl,⟨nd,rfl⟩⟩
  obtain rfl|rfl:=bt t22
  ·replace H:=itT H
   revert H;refine ip2 ?_ ?_
   ·intro c9 H;have c9b0:decide (1≤(a0_2.size:Int))=true:=decide_eq_true c9;have c9b1:decide (1≤a0_2.size)=true:=decide_eq_true (by omega);clear c9
    revert H;refine id2k ?_ ?_
    ·intro c10 c10b0 H;have c10b1:decide (a0_2.size≤20000)=true:=decide_eq_true (by omega);clear c10
     revert H;refine ip2 ?_ ?_
     ·intro c11 H;have c11b0:decide (0≤a0_3)=true:=decide_eq_true c11;clear c11
      revert H;refine id2 ?_ ?_
      ·intro c12b0 H;replace H:=bo H;obtain ⟨t23,A13,H⟩:=H;obtain rfl:=si H;have hcz14:=cf5 BK8
       go_wp2_with (first|(go_at_call 56;(with_reducible refine (spec_l01Day.calls a0_4 t23 _ A13.out).mono ?_);rintro e w' ⟨rfl,⟨nd,rfl⟩⟩))
       go_ret
       exact ⟨ff,bs HB⟩
      ·intro c12b0 H;obtain rfl:=si H;have hcz15:=cf5 BK8
       go_wp2
       go_ret
       exact ⟨ff,bs HB⟩
     ·intro c11 H;have c11b0:decide (0≤a0_3)=false:=decide_eq_false c11;clear c11;obtain rfl:=si H;have hcz16:=cf5 BK8
      go_wp2
      go_ret
      exact ⟨ff,bs HB⟩
    ·intro c10 c10b0 H;have c10b1:decide (a0_2.size≤20000)=false:=decide_eq_false (by omega);clear c10;obtain rfl:=si H;have hcz17:=cf5 BK8
     go_wp2
     go_ret
     exact ⟨ff,bs HB⟩
   ·intro c9 H;have c9b0:decide (1≤(a0_2.size:Int))=false:=decide_eq_false c9;have c9b1:decide (1≤a0_2.size)=false:=decide_eq_false (by omega);clear c9;obtain rfl:=si H;have hcz18:=cf5 BK8
    go_wp2
    go_ret
    exact ⟨ff,bs HB⟩
  ·replace H:=itF H;obtain rfl:=si H
   go_wp2
   go_ret
   exact ⟨ff,bs HB⟩
 ·replace H:=itF H;obtain rfl:=si H
  go_wp2
  go_ret
  exact ⟨ff,bs HB⟩
theorem spec_l12Before.calls (a0_0:ByteArray) (a0_1:Int) (a0_2:ByteArray) (a0_3:Int) (a0_4:Int) (a1_0:ByteArray) (a1_1:Int) (a1_2:ByteArray) (a1_3:Int) (a1_4:Int) (r:Bool) (w:World) (H:spec_l12Before.f a0_0 a0_1 a0_2 a0_3 a0_4 a1_0 a1_1 a1_2 a1_3 a1_4=some r) :
  Calls Tryz.prog 94 #[.agg #[.string a0_0,.int .i64 a0_1,.string a0_2,.int .i64 a0_3,.int .i64 a0_4],.agg #[.string a1_0,.int .i64 a1_1,.string a1_2,.int .i64 a1_3,.int .i64 a1_4]] w fun e w'=>e=.returned (.bool r)∧Below w.heap.size w w':=by
 have hu117:=Tryz.underlying117;have HB:=am (Below.refl w.heap.size w);unfold spec_l12Before.f at H
 revert H;refine ip2 ?_ ?_
 ·intro c3 H;have c3b0:(Op.bytesLess a0_0.toList a1_0.toList)=true:=c3;clear c3;obtain rfl:=si H
  go_in
  go_wp2_with (first|((with_reducible refine gate_dst (N:=2) rfl ?_);refine bz 2 (cs:=#[.string a0_0,.int .i64 a0_1,.string a0_2,.int .i64 a0_3,.int .i64 a0_4]) (t:=117) HB ?_;clear HB;intro gb20 hg w4 BK20 GW20 hb HB;clear hb hg)|((with_reducible refine gate_dst (N:=3) rfl ?_);refine bz 3 (cs:=#[.string a1_0,.int .i64 a1_1,.string a1_2,.int .i64 a1_3,.int .i64 a1_4]) (t:=117) HB ?_;clear HB;intro gb21 hg w5 BK21 GW21 hb HB;have NB20_21:=na hg BK20;have NB21_20:=nc hg BK20;replace BK20:=bb BK20 hb;clear hb hg;have hnb6:=NB20_21.out;have hnc6:=NB21_20.out;have hcz7:=cf5 BK20;have hcz8:=cf5 BK21))
  go_ret
  exact ⟨ff,bs HB⟩
 ·intro c3 H
  have c3b0:(Op.bytesLess a0_0.toList a1_0.toList)=false:=by simpa using c3
  clear c3
  revert H;refine ie2 ?_ ?_
  ·intro c9b0 c9b1 H;obtain rfl:=si H
   go_in
   go_wp2_with (first|((with_reducible refine gate_dst (N:=2) rfl ?_);refine bz 2 (cs:=#[.string a0_0,.int .i64 a0_1,.string a0_2,.int .i64 a0_3,.int .i64 a0_4]) (t:=117) HB ?_;clear HB;intro gb20 hg w10 BK20 GW20 hb HB;clear hb hg)|((with_reducible refine gate_dst (N:=3) rfl ?_);refine bz 3 (cs:=#[.string a1_0,.int .i64 a1_1,.string a1_2,.int .i64 a1_3,.int .i64 a1_4]) (t:=117) HB ?_;clear HB;intro gb21 hg w11 BK21 GW21 hb HB;have NB20_21:=na hg BK20;have NB21_20:=nc hg BK20;replace BK20:=bb BK20 hb;clear hb hg;have hnb12:=NB20_21.out;have hnc12:=NB21_20.out;have hcz13:=cf5 BK20;have hcz14:=cf5 BK21))
   go_ret
   exact ⟨ff,bs HB⟩
  ·intro c9 c9b0 c9b1 H;obtain rfl:=si H
   go_in
   go_wp2_with (first|((with_reducible refine gate_dst (N:=2) rfl ?_);refine bz 2 (cs:=#[.string a0_0,.int .i64 a0_1,.string a0_2,.int .i64 a0_3,.int .i64 a0_4]) (t:=117) HB ?_;clear HB;intro gb20 hg w15 BK20 GW20 hb HB;clear hb hg)|((with_reducible refine gate_dst (N:=3) rfl ?_);refine bz 3 (cs:=#[.string a1_0,.int .i64 a1_1,.string a1_2,.int .i64 a1_3,.int .i64 a1_4]) (t:=117) HB ?_;clear HB;intro gb21 hg w16 BK21 GW21 hb HB;have NB20_21:=na hg BK20;have NB21_20:=nc hg BK20;replace BK20:=bb BK20 hb;clear hb hg;have hnb17:=NB20_21.out;have hnc17:=NB21_20.out;have hcz18:=cf5 BK20;have hcz19:=cf5 BK21))
   go_ret
   exact ⟨ff,bs HB⟩
end Go.Proofs.YtkfcahggnpecjaaGreatDoor.QW
