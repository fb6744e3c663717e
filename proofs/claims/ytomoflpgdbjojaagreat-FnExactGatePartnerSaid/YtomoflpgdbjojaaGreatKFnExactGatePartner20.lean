-- Merged by a program of this session (wip/tool/pack.py) out of its own texts for this claim.
import Derived.Test.YtomoflpgdbjojaaGreatKFnExactGatePartner19
set_option maxHeartbeats 8000000
set_option maxRecDepth 100000
set_option linter.unusedSimpArgs false
set_option linter.unusedVariables false
namespace Go.Proofs.YtomoflpgdbjojaaGreat.QO
open Go.RowKit Go.Proofs.YtomoflpgdbjojaaGreatW.PrintWords Go.Proofs.YtomoflpgdbjojaaGreatW.PrintLast Go.Proofs.YtomoflpgdbjojaaGreatW.PrintMore
attribute [local go_sem] max2_int min2_int max_two min_two max_three min_three max_four min_four   -- for this text's walks alone
def impl_GatePartner.T:Bool × List (List Nat × List Nat):=(true,[([],[]),([0],[0]),([],[]),([],[]),([3],[3]),([4],[4]),([1,2,5,4],[1,2,5]),([0,1,2,3,4,5,6],[]),([7,6,6,0,1,2,3,4,5,6],[6,7])])
def impl_GatePartner.B:List Nat:=[0,1,0,0,8,24,63,127,255]
theorem impl_PartnerNew.calls1 (k:Nat) (a0:ByteArray) (w:World) (h:impl_isName.f k a0=some true) :
  Calls Tryz.prog 56 #[.string a0] w fun e w'=>e=.returned (.agg #[.string a0,.int .i64 1,.int .i64 1,.slice none 0 0])∧Below w.heap.size w w':=by
 have hu:=Tryz.underlying83;have HB:=Aside0.mk (Below.refl w.heap.size w);have HN:=Aside0.mk h;clear h
 go_enter Tryz.func56,Tryz.ntmps56
 go_wp2_with (first|((with_reducible refine gate_dst (N:=2) rfl ?_);refine bx 2 (cs:=#[.string (⟨#[]⟩:ByteArray),.int .i64 0,.int .i64 0,.slice none 0 0]) (t:=83) ?_;intro gb hg wa hbox hb;have BK:=Aside0.mk hbox;have GE:=Aside0.mk (gs hg (bs HB));replace HB:=Aside0.mk (below_step (bs HB) hb);clear hb hbox hg;have z:=cf4 BK)|(go_at_call 53;(with_reducible refine (impl_isName.calls k a0 true _ HN.out).mono ?_);rintro e w' ⟨rfl,⟨nd,rfl⟩⟩))
 refine bodyPost_ret (results_cell_row rfl _ _ gb 83 #[.string a0,.int .i64 1,.int .i64 1,.slice none 0 0] (0,0) _ rfl (kp BK) Tryz.underlying83 rfl (by kernel_rfl)) rfl ?_
 exact ⟨ff,bs HB⟩
theorem impl_GatePartner.calls (k:Nat) (a0_0:ByteArray) (a0_1:Int) (A0_2:Option Addr) (c0_2:Nat) (l0_2:List S83) (A0_3:Option Addr) (c0_3:Nat) (l0_3:List S114) (A0_4:Option Addr) (c0_4:Nat) (l0_4:List S152) (A0_5:Option Addr) (c0_5:Nat) (l0_5:List S161) (A0_6:Option Addr) (c0_6:Nat) (l0_6:List S118) (A0_7:Option Addr) (c0_7:Nat) (l0_7:List S120) (a1:ByteArray) (r1:ByteArray) (r2:Int) (r3:List S83) (r4:List S114) (r5:List S152) (r6:List S161) (r7:List S118) (r8:List S120) (r9:ByteArray) (r10 r11 r12 r13 r14:Int) (w:World) (hr0_2:Kd.C k83 w A0_2 l0_2.length l0_2) (hc0_2:l0_2.length≤c0_2) (hr0_3:Kd.C k114 w A0_3 l0_3.length l0_3) (hc0_3:l0_3.length≤c0_3) (hr0_4:Kd.C k152 w A0_4 l0_4.length l0_4) (hc0_4:l0_4.length≤c0_4) (hr0_5:Kd.C k161 w A0_5 l0_5.length l0_5) (hc0_5:l0_5.length≤c0_5) (hr0_6:Kd.C k118 w A0_6 l0_6.length l0_6) (hc0_6:l0_6.length≤c0_6) (hr0_7:Kd.C k120 w A0_7 l0_7.length l0_7) (hc0_7:l0_7.length≤c0_7) (H:impl_GatePartner.f k a0_0 a0_1 l0_2 l0_3 l0_4 l0_5 l0_6 l0_7 a1=some (r1,r2,r3,r4,r5,r6,r7,r8,r9,r10,r11,r12,r13,r14)) :
  Calls Tryz.prog 13 #[.agg #[.string a0_0,.int .i64 a0_1,.slice A0_2 l0_2.length c0_2,.slice A0_3 l0_3.length c0_3,.slice A0_4 l0_4.length c0_4,.slice A0_5 l0_5.length c0_5,.slice A0_6 l0_6.length c0_6,.slice A0_7 l0_7.length c0_7],.string a1] w fun e w'=>∃ v2_ v3_ v4_ v5_ v6_ v7_:Value,e=.returned (.agg #[.string r1,.int .i64 r2,v2_,v3_,v4_,v5_,v6_,v7_,.string r9,.int .i64 r10,.int .i64 r11,.int .i64 r12,.int .i64 r13,.int .i64 r14])∧Kd.S k83 83 w' w.heap.size (fun _=>True) v2_ r3∧Kd.R k114 114 w' w.heap.size (fun _=>True) v3_ r4∧Kd.R k152 152 w' w.heap.size (fun _=>True) v4_ r5∧Kd.R k161 161 w' w.heap.size (fun _=>True) v5_ r6∧Kd.R k118 118 w' w.heap.size (fun _=>True) v6_ r7∧Kd.R k120 120 w' w.heap.size (fun _=>True) v7_ r8∧Below w.heap.size w w':=by
 have hu:=Tryz.underlying42;have hu2:=Tryz.underlying49;have hu3:=Tryz.underlying83;have hu4:=Tryz.underlying33;have hu9:=Tryz.underlying9;have HR2:=am hr0_2;have HC2:=am hc0_2;clear hr0_2 hc0_2;have HR3:=am hr0_3;have HC3:=am hc0_3;clear hr0_3 hc0_3;have HR4:=am hr0_4;have HC4:=am hc0_4;clear hr0_4 hc0_4;have HR5:=am hr0_5;have HC5:=am hc0_5;clear hr0_5 hc0_5;have HR6:=am hr0_6;have HC6:=am hc0_6;clear hr0_6 hc0_6;have HR7:=am hr0_7;have HC7:=am hc0_7;clear hr0_7 hc0_7
 have HB:=am (Below.refl w.heap.size w);unfold impl_GatePartner.f at H;replace H:=bo H;obtain ⟨t1,A1,H⟩:=H
 go_in
 try go_wp2_with (first|((with_reducible refine gate_dst (N:=2) rfl ?_);refine bx 2 (cs:=#[.string a0_0,.int .i64 a0_1,.slice A0_2 l0_2.length c0_2,.slice A0_3 l0_3.length c0_3,.slice A0_4 l0_4.length c0_4,.slice A0_5 l0_5.length c0_5,.slice A0_6 l0_6.length c0_6,.slice A0_7 l0_7.length c0_7]) (t:=42) ?_;intro g2 hg wa hbox hb;have B2:=am hbox;have E2:=am (gs hg (bs HB));replace HB:=bq HB hb;clear hb hbox hg)|((with_reducible refine gate_dst (N:=4) rfl ?_);refine bx 4 (cs:=#[.string (⟨#[]⟩:ByteArray),.int .i64 0,.slice none 0 0,.slice none 0 0,.slice none 0 0,.slice none 0 0,.slice none 0 0,.slice none 0 0,.string (⟨#[]⟩:ByteArray),.int .i64 0,.int .i64 0,.int .i64 0,.int .i64 0,.int .i64 0]) (t:=49) ?_;intro g4 hg wb hbox hb;have B4:=am hbox;have E4:=am (gs hg (bs HB));replace HB:=bq HB hb;have N24:=am (gn hg (ks B2));have N42:=am (gm hg (ks B2));replace B2:=am (blk_below (ks B2) hb);clear hb hbox hg;have z2:=cf8 B2;have z4:=cf14 B4;have n24:=N24.out;have n42:=N42.out)|((with_reducible refine gate_dst (N:=9) rfl ?_);refine rl Kd.string 9 (N:=9) (xs:=[a1]) (inner:=[.string a1]) ?hp ?_;(case hp=>exact (Reps.one (show Kd.M Kd.string _ _ _ a1 [.string a1] from rfl) (Reps.none _ _)));intro v9 wc ho hb hg_ hn_;clear hg_ hn_;obtain ⟨A9,c9,e9⟩:=Kd.R_slice ho;subst e9;have H9:=am ho;clear ho z2 z4;replace B2:=am (blk_below (ks B2) hb);replace B4:=am (blk_below (ks B4) hb);replace HB:=bq HB hb;clear hb;have z2:=cf8 B2;have z4:=cf14 B4))
 go_at_call 52;refine (impl_longText.calls k _ _ [a1] t1 _ (Kd.R_reads' H9.out).2.2 (Kd.R_reads' H9.out).2.1 A1.out).mono ?_;rintro e w' ⟨rfl,⟨nd,rfl⟩⟩;clear H9
 obtain rfl|rfl:=bt t1
 ·replace H:=itT H
  ·replace H:=sj14 H;obtain ⟨rfl,rfl,rfl,rfl,rfl,rfl,rfl,rfl,rfl,rfl,rfl,rfl,rfl,rfl⟩:=H
   try go_wp2
   refine bodyPost_ret (results_cell_row rfl _ _ g4 49 #[.string (⟨#[]⟩:ByteArray),.int .i64 0,.slice none 0 0,.slice none 0 0,.slice none 0 0,.slice none 0 0,.slice none 0 0,.slice none 0 0,.string (⟨#[]⟩:ByteArray),.int .i64 0,.int .i64 0,.int .i64 0,.int .i64 0,.int .i64 2] (0,0) _ rfl (kp B4) Tryz.underlying49 rfl (by kernel_rfl)) rfl ?_
   exact ⟨_,_,_,_,_,_,ff,Kd.S_nil _ _ _ _ _,Kd.R_nil _ _ _ _ _,Kd.R_nil _ _ _ _ _,Kd.R_nil _ _ _ _ _,Kd.R_nil _ _ _ _ _,Kd.R_nil _ _ _ _ _,bs HB⟩
 replace H:=itF H;replace H:=bo H;obtain ⟨t2,A2,H⟩:=H
 try go_wp2_with (fail)
 go_at_call 31;refine (impl_GateRight.calls k a0_0 a0_1 _ _ l0_2 _ _ l0_3 _ _ l0_4 _ _ l0_5 _ _ l0_6 _ _ l0_7 t2 _ (Kd.C_below HR2.out (bs HB)) HC2.out (Kd.C_below HR3.out (bs HB)) HC3.out (Kd.C_below HR4.out (bs HB)) HC4.out (Kd.C_below HR5.out (bs HB)) HC5.out (Kd.C_below HR6.out (bs HB)) HC6.out (Kd.C_below HR7.out (bs HB)) HC7.out A2.out).mono ?_;rintro e wd ⟨rfl,hb⟩;replace B2:=am (blk_below (ks B2) hb);replace B4:=am (blk_below (ks B4) hb);replace HB:=bq HB hb;clear hb z2 z4;have z2:=cf8 B2;have z4:=cf14 B4
 obtain rfl|rfl:=bt t2;rotate_left
 ·replace H:=itF H
  ·replace H:=sj14 H;obtain ⟨rfl,rfl,rfl,rfl,rfl,rfl,rfl,rfl,rfl,rfl,rfl,rfl,rfl,rfl⟩:=H
   try go_wp2
   refine bodyPost_ret (results_cell_row rfl _ _ g4 49 #[.string (⟨#[]⟩:ByteArray),.int .i64 0,.slice none 0 0,.slice none 0 0,.slice none 0 0,.slice none 0 0,.slice none 0 0,.slice none 0 0,.string (⟨#[]⟩:ByteArray),.int .i64 0,.int .i64 0,.int .i64 0,.int .i64 0,.int .i64 1] (0,0) _ rfl (kp B4) Tryz.underlying49 rfl (by kernel_rfl)) rfl ?_
   exact ⟨_,_,_,_,_,_,ff,Kd.S_nil _ _ _ _ _,Kd.R_nil _ _ _ _ _,Kd.R_nil _ _ _ _ _,Kd.R_nil _ _ _ _ _,Kd.R_nil _ _ _ _ _,Kd.R_nil _ _ _ _ _,bs HB⟩
 replace H:=itT H;replace H:=bo H;obtain ⟨t3,A3,H⟩:=H
 try go_wp2_with (fail)
 go_at_call 53;(with_reducible refine (impl_isName.calls k a1 t3 _ A3.out).mono ?_);rintro e w' ⟨rfl,⟨nd3,rfl⟩⟩;replace B2:=am (blk_drewN B2.out nd3);replace B4:=am (blk_drewN B4.out nd3);replace HB:=am (pw_below_drewN HB.out nd3);clear z2 z4;generalize wd.drewN nd3=wd2 at B2 B4 HB ⊢;have z2:=cf8 B2;have z4:=cf14 B4
 obtain rfl|rfl:=bt t3;rotate_left
 ·replace H:=itF H
  ·replace H:=sj14 H;obtain ⟨rfl,rfl,rfl,rfl,rfl,rfl,rfl,rfl,rfl,rfl,rfl,rfl,rfl,rfl⟩:=H
   try go_wp2
   refine bodyPost_ret (results_cell_row rfl _ _ g4 49 #[.string (⟨#[]⟩:ByteArray),.int .i64 0,.slice none 0 0,.slice none 0 0,.slice none 0 0,.slice none 0 0,.slice none 0 0,.slice none 0 0,.string (⟨#[]⟩:ByteArray),.int .i64 0,.int .i64 0,.int .i64 0,.int .i64 0,.int .i64 1] (0,0) _ rfl (kp B4) Tryz.underlying49 rfl (by kernel_rfl)) rfl ?_
   exact ⟨_,_,_,_,_,_,ff,Kd.S_nil _ _ _ _ _,Kd.R_nil _ _ _ _ _,Kd.R_nil _ _ _ _ _,Kd.R_nil _ _ _ _ _,Kd.R_nil _ _ _ _ _,Kd.R_nil _ _ _ _ _,bs HB⟩
 replace H:=itT H;replace H:=bo H;obtain ⟨⟨at_,is_,n1,d1⟩,A4,H⟩:=H;dsimp only at H
 try go_wp2_with (fail)
 have HI:=am (show IsS42 w _ g2 a0_0 a0_1 l0_2 l0_3 l0_4 l0_5 l0_6 l0_7 from ⟨_,_,_,_,_,_,_,_,_,_,_,_,ks B2,E2.out,⟨HR2.out,HC2.out⟩,⟨HR3.out,HC3.out⟩,⟨HR4.out,HC4.out⟩,⟨HR5.out,HC5.out⟩,⟨HR6.out,HC6.out⟩,⟨HR7.out,HC7.out⟩⟩);clear B2 z2;go_at_call 54;refine (impl_Gate_partner.calls k g2 a0_0 a0_1 l0_2 l0_3 l0_4 l0_5 l0_6 l0_7 a1 at_ is_ n1 d1 w _ HI.out (bs HB) A4.out).mono ?_;rintro e we ⟨rfl,hI,hb,hk⟩;replace B4:=am (hk.2 g4 (blk_lt (ks B4)) N42.out (by simp) |>.trans (ks B4));replace HB:=am hb;clear hb hk HI z4;obtain ⟨Aq2,cq2,Aq3,cq3,Aq4,cq4,Aq5,cq5,Aq6,cq6,Aq7,cq7,hx,_,⟨p2,q2⟩,⟨p3,q3⟩,⟨p4,q4⟩,⟨p5,q5⟩,⟨p6,q6⟩,⟨p7,q7⟩⟩:=hI;have B2:=am hx;replace HR2:=am p2;replace HC2:=am q2;clear p2 q2;replace HR3:=am p3;replace HC3:=am q3;clear p3 q3;replace HR4:=am p4;replace HC4:=am q4;clear p4 q4;replace HR5:=am p5;replace HC5:=am q5;clear p5 q5;replace HR6:=am p6;replace HC6:=am q6;clear p6 q6;replace HR7:=am p7;replace HC7:=am q7;clear p7 q7;clear hx;have z2:=cf8 B2;have z4:=cf14 B4
 obtain rfl|rfl:=bt is_
 ·replace H:=itT H
  ·replace H:=sj14 H;obtain ⟨rfl,rfl,rfl,rfl,rfl,rfl,rfl,rfl,rfl,rfl,rfl,rfl,rfl,rfl⟩:=H
   try go_wp2
   refine bodyPost_ret (results_cell_row rfl _ _ g4 49 #[.string (⟨#[]⟩:ByteArray),.int .i64 0,.slice none 0 0,.slice none 0 0,.slice none 0 0,.slice none 0 0,.slice none 0 0,.slice none 0 0,.string (⟨#[]⟩:ByteArray),.int .i64 0,.int .i64 0,.int .i64 0,.int .i64 0,.int .i64 11] (0,0) _ rfl (kp B4) Tryz.underlying49 rfl (by kernel_rfl)) rfl ?_
   exact ⟨_,_,_,_,_,_,ff,Kd.S_nil _ _ _ _ _,Kd.R_nil _ _ _ _ _,Kd.R_nil _ _ _ _ _,Kd.R_nil _ _ _ _ _,Kd.R_nil _ _ _ _ _,Kd.R_nil _ _ _ _ _,bs HB⟩
 replace H:=itF H
 revert H;refine ie2 ?_ ?_
 ·intro b0 b1 H
  ·replace H:=sj14 H;obtain ⟨rfl,rfl,rfl,rfl,rfl,rfl,rfl,rfl,rfl,rfl,rfl,rfl,rfl,rfl⟩:=H
   try go_wp2
   refine bodyPost_ret (results_cell_row rfl _ _ g4 49 #[.string (⟨#[]⟩:ByteArray),.int .i64 0,.slice none 0 0,.slice none 0 0,.slice none 0 0,.slice none 0 0,.slice none 0 0,.slice none 0 0,.string (⟨#[]⟩:ByteArray),.int .i64 0,.int .i64 0,.int .i64 0,.int .i64 0,.int .i64 12] (0,0) _ rfl (kp B4) Tryz.underlying49 rfl (by kernel_rfl)) rfl ?_
   exact ⟨_,_,_,_,_,_,ff,Kd.S_nil _ _ _ _ _,Kd.R_nil _ _ _ _ _,Kd.R_nil _ _ _ _ _,Kd.R_nil _ _ _ _ _,Kd.R_nil _ _ _ _ _,Kd.R_nil _ _ _ _ _,bs HB⟩
 intro b c0 c1 H;replace H:=bo H;obtain ⟨⟨n2,d2,m2,m3,m4,m5,m6,m7⟩,A5,H⟩:=H;dsimp only at H;revert H;refine ip1 ?_;rintro ⟨i0,i1,i2⟩ H
 obtain ⟨mm,hmm⟩:∃ x,x=(m2.take at_.toNat++[(⟨a1,1,1,[]⟩:S83)]++m2.drop at_.toNat):=⟨_,rfl⟩;rw [← hmm] at H;have NM:=am hmm;clear hmm
 replace H:=sj14 H;obtain ⟨rfl,rfl,rfl,rfl,rfl,rfl,rfl,rfl,rfl,rfl,rfl,rfl,rfl,rfl⟩:=H
 try go_wp2_with (fail)
 go_at_call 30;refine (impl_ownGate.calls k n1 d1 _ _ l0_2 _ _ l0_3 _ _ l0_4 _ _ l0_5 _ _ l0_6 _ _ l0_7 n2 d2 m2 m3 m4 m5 m6 m7 _ (Kd.C_below HR2.out (bs HB)) HC2.out (Kd.C_below HR3.out (bs HB)) HC3.out (Kd.C_below HR4.out (bs HB)) HC4.out (Kd.C_below HR5.out (bs HB)) HC5.out (Kd.C_below HR6.out (bs HB)) HC6.out (Kd.C_below HR7.out (bs HB)) HC7.out A5.out).mono ?_;rintro e wf ⟨v2,v3,v4,v5,v6,v7,rfl,q2,q3,q4,q5,q6,q7,hb⟩;obtain ⟨A2m,c2m,e_⟩:=Kd.S_slice q2;subst e_;obtain ⟨A3m,c3m,e_⟩:=Kd.R_slice q3;subst e_;obtain ⟨A4m,c4m,e_⟩:=Kd.R_slice q4;subst e_;obtain ⟨A5m,c5m,e_⟩:=Kd.R_slice q5;subst e_;obtain ⟨A6m,c6m,e_⟩:=Kd.R_slice q6;subst e_;obtain ⟨A7m,c7m,e_⟩:=Kd.R_slice q7;subst e_;have D2:=am (blk_lt B2.out);have D4:=am (blk_lt B4.out);have J:=am (GG.make HB.out.size q2 q3 q4 q5 q6 q7);have LH:=am hb.size;clear q2 q3 q4 q5 q6 q7;(try clear z2);(try clear z4)
 replace B2:=am (blk_below (ks B2) hb);replace B4:=am (blk_below (ks B4) hb);replace HB:=bq HB hb;clear hb;generalize we.heap.size=lo at J D2 D4 LH;generalize wf.heap.size=hi at J LH;have z2:=cf8 B2;have z4:=cf14 B4
 try go_wp2_with (first|((with_reducible refine gate_store (t:=42) (p:=2) rfl ?_);refine store_event (t:=42) (p:=2) (v:=?vo2) (w1:=((((((((wf.setCell ⟨g2,0,none⟩ ((.string n2))).setCell ⟨g2,1,none⟩ ((.int .i64 d2))).setCell ⟨g2,2,none⟩ ((.slice A2m m2.length c2m))).setCell ⟨g2,3,none⟩ ((.slice A3m m3.length c3m))).setCell ⟨g2,4,none⟩ ((.slice A4m m4.length c4m))).setCell ⟨g2,5,none⟩ ((.slice A5m m5.length c5m))).setCell ⟨g2,6,none⟩ ((.slice A6m m6.length c6m))).setCell ⟨g2,7,none⟩ ((.slice A7m m7.length c7m)))) ?hg ?ho ?hn ?hr ?_;(case ho=>rfl);(case hg=>rfl);(case hn=>rfl);(case hr=>first|(go_simp;done)|(go_simp;rfl));intro wg hw;clear z2 z4;obtain ⟨hx,hk,hB⟩:=box8 B2.out hw;clear hw;replace HB:=am (hB _ HB.out E2.out);replace J:=am (J.out.kept hk (fun k_ p_ _ e_=>by have:=D2.out;omega));replace B4:=am (blk_kept B4.out hk (fun e_=>N42.out e_));replace B2:=am hx;clear hx hk hB))
 (try clear z2);(try clear z4);replace B2:=am (blk_drew B2.out);replace B4:=am (blk_drew B4.out);replace J:=am J.out.drew;replace HB:=am (below_drew1 HB.out);refine stad 9 [8] (hb8 B2) (fun hHeld=>?_);refine with_tabW (show rtab .any (opsOf Tryz.f13 11)=impl_GatePartner.T from by kernel_rfl) (show waitsOk impl_GatePartner.T.2 impl_GatePartner.B=true from by kernel_rfl) (fun HT_ HW_=>?_)
 generalize wg.drew=wh at B2 B4 J HB hHeld ⊢
 refine pz1 0 ?_;refine pz2 2 ?_;refine ta 1 ?_;refine oA 4 42 HT_ (fun K hK=>?_);refine gA Tryz.func56 #[.string a1] ?_;refine (impl_PartnerNew.calls1 k a1 _ A3.out).mono ?_;rintro e wi ⟨rfl,hb⟩;refine ⟨_,rfl,?_⟩;replace B2:=am (blk_below (ks B2) hb);replace B4:=am (blk_below (ks B4) hb);replace J:=am (J.out.below hb);replace HB:=bq HB hb;clear hb;refine hK.out _ _ (hb8 B2).out (fun hHeld=>?_);clear hK K;refine nA 42 ?_;refine oA 5 43 HT_ (fun K hK=>?_);refine Kd.R_lit_step (Kd.raw 4) _ 83 ?hg (N:=43) ?hd (xs:=[[.string a1,.int .i64 1,.int .i64 1,.slice none 0 0]]) (inner:=[.string a1,.int .i64 1,.int .i64 1,.slice none 0 0]) (ok:=fun _=>True) (okp:=fun _=>True) ?hr ?hp (fun _ hk=>hk) trivial (Below.refl _ _) (Nat.le_refl _) (by simp) ?_;(case hd=>rfl);(case hg=>rfl);(case hr=>first|(go_simp;done)|(go_simp;rfl));(case hp=>exact (Reps.c4 (show Kd.M (Kd.raw 4) _ _ _ [.string a1,.int .i64 1,.int .i64 1,.slice none 0 0] [.string a1,.int .i64 1,.int .i64 1,.slice none 0 0] from ⟨rfl,rfl,by simp only [List.mem_cons,List.not_mem_nil,or_false,forall_eq_or_imp,forall_eq];exact ⟨rfl,rfl,rfl,rfl⟩⟩) (Reps.none _ _)));intro v9 wj ho hb hg_ hn_;clear hg_ hn_;obtain ⟨A9,c9,e9⟩:=Kd.R_slice ho;subst e9;have H9:=am (Kd.R_lower (Kd.R_mono (ok':=fun k_=>wi.heap.size≤k_) (Kd.R_bound ho) (fun _ q=>q.2.1)) HB.out.size);have T9:=am J.out.top;have X2:=am (blk_lt B2.out);have X4:=am (blk_lt B4.out);clear ho;have hs9:=hb.size;replace B2:=am (blk_below (ks B2) hb);replace B4:=am (blk_below (ks B4) hb);replace J:=am (J.out.below hb);replace HB:=bq HB hb;clear hb;refine hK.out _ _ (hb8 B2).out (fun hHeld=>?_);clear hK K;refine nA 43 ?_
 have S9:=am (show wi.heap.size≤wj.heap.size from hs9);clear hs9;generalize wi.heap.size=s0 at H9 T9 X2 X4 S9
 refine oA 6 44 HT_ (fun K hK=>?_);refine gA Tryz.func55 #[.slice A2m m2.length c2m,.int .i64 at_,.slice A9 1 c9] ?_;refine (slices_Insert_rows.calls (fun k_=>(lo≤k_∧k_<hi)∧TyP w.heap.size wj [83,155] k_) _ m2 at_ (fun k_=>s0≤k_) _ ⟨a1,1,1,[]⟩ [.string a1,.int .i64 1,.int .i64 1,.slice none 0 0] w _ HB.out (S_tyP2 J.out.1 (by decide)) H9.out (fun W b=>k83_mkM W b _ _ (Kd.R_nil _ _ _ _ _)) (fun k_ p_ q_=>by obtain ⟨_,h1,_⟩:=J.out.1;have h2:lo≤k_∧k_<hi:=h1 k_ p_.symm;have h3:s0≤k_:=H9.out.1 k_ q_.symm;have:=T9.out;omega) i0 i1 i2).mono ?_;rintro e wk ⟨v0,rfl,ho,hb,hk⟩;refine ⟨_,rfl,?_⟩;rw [← NM.out] at ho;obtain ⟨Ap,cp,ep⟩:=Kd.S_slice ho;subst ep
 replace B2:=am (blk_kept B2.out hk (fun s=>s.elim (fun s=>by have h1:=D2.out;have h2:=s.1.1;omega) (fun s=>by have h1:=X2.out;omega)));replace B4:=am (blk_kept B4.out hk (fun s=>s.elim (fun s=>by have h1:=D4.out;have h2:=s.1.1;omega) (fun s=>by have h1:=X4.out;omega)));have Y2:=am (Kd.S_mono (ok':=fun k_=>lo≤k_) ho (fun k_ s=>by have h1:=T9.out;have h2:=LH.out;have h3:=S9.out;rcases s with (s|s)|s <;> first|exact s.1.1|omega));clear ho;have Y3:=am (Kd.R_mono (ok':=fun k_=>lo≤k_) (Kd.R_kept (R_noTy J.out.2.1 (by decide)) hk (fun k_ p s=>s.elim (fun s=>p.2 s.2) (fun s=>by have h1:=T9.out;have h2:=p.1.2;omega))) (fun _ q=>q.1.1));have Y4:=am (Kd.R_mono (ok':=fun k_=>lo≤k_) (Kd.R_kept (R_noTy J.out.2.2.1 (by decide)) hk (fun k_ p s=>s.elim (fun s=>p.2 s.2) (fun s=>by have h1:=T9.out;have h2:=p.1.2;omega))) (fun _ q=>q.1.1));have Y5:=am (Kd.R_mono (ok':=fun k_=>lo≤k_) (Kd.R_kept (R_noTy J.out.2.2.2.1 (by decide)) hk (fun k_ p s=>s.elim (fun s=>p.2 s.2) (fun s=>by have h1:=T9.out;have h2:=p.1.2;omega))) (fun _ q=>q.1.1));have Y6:=am (Kd.R_mono (ok':=fun k_=>lo≤k_) (Kd.R_kept (R_noTy J.out.2.2.2.2.1 (by decide)) hk (fun k_ p s=>s.elim (fun s=>p.2 s.2) (fun s=>by have h1:=T9.out;have h2:=p.1.2;omega))) (fun _ q=>q.1.1));have Y7:=am (Kd.R_mono (ok':=fun k_=>lo≤k_) (Kd.R_kept (R_noTy J.out.2.2.2.2.2.1 (by decide)) hk (fun k_ p s=>s.elim (fun s=>p.2 s.2) (fun s=>by have h1:=T9.out;have h2:=p.1.2;omega))) (fun _ q=>q.1.1));replace HB:=am hb;clear hb hk J H9 T9 X2 X4 S9 LH;refine hK.out _ _ (hb8 B2).out (fun hHeld=>?_);clear hK K;refine nA 44 ?_;refine pz1 7 ?_;refine last_ (i:=8) (N:=none) #[true,true,true,true,true,true,true,true,true] rfl rfl (one_of HT_.out (by kernel_rfl)) (by decide) (fun K hK=>?_);have hs:=(blk_cell B2.out 2).trans rfl;have hf:=blk_frozen B2.out 2;refine skip_ (w1:=wk.setCell ⟨g2,2,none⟩ (.slice Ap mm.length cp)) (by rfl) rfl (by first|(go_simp;done)|(go_simp;rfl)) ?_;refine hK.out _ _ ?_;clear hK K hs hf hHeld;refine done_ (done_of HT_.out (by kernel_rfl)) ?_;clear HT_ HW_;have hk:Kept wk (wk.setCell ⟨g2,2,none⟩ (.slice Ap mm.length cp)) (fun k_=>k_=g2):=Kept.setCell (p:=⟨g2,2,none⟩) (S:=fun k_=>k_=g2) (Kept.refl _ _) (Or.inl rfl) _;replace HB:=am (below_set (j:=2) (v:=.slice Ap mm.length cp) HB.out E2.out);replace B4:=am (blk_kept B4.out hk (fun e_=>N42.out e_));have B2':Aside0 ((wk.setCell ⟨g2,2,none⟩ (.slice Ap mm.length cp)).heap[g2]? = some (.cells #[.string n2,.int .i64 d2,.slice Ap mm.length cp,.slice A3m m3.length c3m,.slice A4m m4.length c4m,.slice A5m m5.length c5m,.slice A6m m6.length c6m,.slice A7m m7.length c7m] 42 (0,0))):=⟨kp B2⟩;clear B2;replace Y2:=am (Kd.S_kept Y2.out hk (fun k_ p_ e_=>by have:=D2.out;omega));replace Y3:=am (Kd.R_kept Y3.out hk (fun k_ p_ e_=>by have:=D2.out;omega));replace Y4:=am (Kd.R_kept Y4.out hk (fun k_ p_ e_=>by have:=D2.out;omega));replace Y5:=am (Kd.R_kept Y5.out hk (fun k_ p_ e_=>by have:=D2.out;omega));replace Y6:=am (Kd.R_kept Y6.out hk (fun k_ p_ e_=>by have:=D2.out;omega));replace Y7:=am (Kd.R_kept Y7.out hk (fun k_ p_ e_=>by have:=D2.out;omega))
 generalize wk.setCell ⟨g2,2,none⟩ (.slice Ap mm.length cp)=wl at HB B4 B2' Y2 Y3 Y4 Y5 Y6 Y7 hk ⊢;clear hk;have B2:=B2';clear B2';have z2:=cf8 B2;have z4:=cf14 B4
 have key:∀ {W2:World},Kept wl W2 (fun k_=>k_=g4)→Below w.heap.size w W2→Kd.S k83 83 W2 w.heap.size (fun _=>True) (.slice Ap mm.length cp) mm∧Kd.R k114 114 W2 w.heap.size (fun _=>True) (.slice A3m m3.length c3m) m3∧Kd.R k152 152 W2 w.heap.size (fun _=>True) (.slice A4m m4.length c4m) m4∧Kd.R k161 161 W2 w.heap.size (fun _=>True) (.slice A5m m5.length c5m) m5∧Kd.R k118 118 W2 w.heap.size (fun _=>True) (.slice A6m m6.length c6m) m6∧Kd.R k120 120 W2 w.heap.size (fun _=>True) (.slice A7m m7.length c7m) m7∧Below w.heap.size w W2:=fun hk hb=>⟨Kd.S_mono (Kd.S_kept Y2.out hk (fun k_ p_ e_=>by have:=D4.out;omega)) (fun _ _=>trivial),Kd.R_mono (Kd.R_kept Y3.out hk (fun k_ p_ e_=>by have:=D4.out;omega)) (fun _ _=>trivial),Kd.R_mono (Kd.R_kept Y4.out hk (fun k_ p_ e_=>by have:=D4.out;omega)) (fun _ _=>trivial),Kd.R_mono (Kd.R_kept Y5.out hk (fun k_ p_ e_=>by have:=D4.out;omega)) (fun _ _=>trivial),Kd.R_mono (Kd.R_kept Y6.out hk (fun k_ p_ e_=>by have:=D4.out;omega)) (fun _ _=>trivial),Kd.R_mono (Kd.R_kept Y7.out hk (fun k_ p_ e_=>by have:=D4.out;omega)) (fun _ _=>trivial),hb⟩
 go_wp2
 refine bodyPost_ret (results_cell_row rfl _ _ g4 49 #[.string n2,.int .i64 d2,.slice Ap mm.length cp,.slice A3m m3.length c3m,.slice A4m m4.length c4m,.slice A5m m5.length c5m,.slice A6m m6.length c6m,.slice A7m m7.length c7m,.string (⟨#[]⟩:ByteArray),.int .i64 0,.int .i64 0,.int .i64 0,.int .i64 0,.int .i64 0] (0,0) _ rfl (kp B4) Tryz.underlying49 rfl (by kernel_rfl)) rfl ?_
 exact ⟨_,_,_,_,_,_,ff,key kept14 (bs HB)⟩
theorem laws_eqSeen.calls (a0_0:Int) (a0_1:Int) (a0_2:Int) (a1_0:Int) (a1_1:Int) (a1_2:Int) (r:Bool) (w:World) (H:laws_eqSeen.f a0_0 a0_1 a0_2 a1_0 a1_1 a1_2=some r) :
  Calls Tryz.prog 151 #[.agg #[.int .i64 a0_0,.int .i64 a0_1,.int .i64 a0_2],.agg #[.int .i64 a1_0,.int .i64 a1_1,.int .i64 a1_2]] w fun e w'=>e=.returned (.bool r)∧Below w.heap.size w w':=by
 have hu:=Tryz.underlying155;have HB:=am (Below.refl w.heap.size w);unfold laws_eqSeen.f at H
 go_in
 go_upto_region 1 with (first|((with_reducible refine gate_dst (N:=2) rfl ?_);refine bx 2 (cs:=#[.int .i64 a0_0,.int .i64 a0_1,.int .i64 a0_2]) (t:=155) ?_;intro g0 hg wa hbox hb;have B0:=am hbox;replace HB:=bq HB hb;clear hb hbox hg)|((with_reducible refine gate_dst (N:=3) rfl ?_);refine bx 3 (cs:=#[.int .i64 a1_0,.int .i64 a1_1,.int .i64 a1_2]) (t:=155) ?_;intro g1 hg wb hbox hb;have B1:=am hbox;replace HB:=bq HB hb;replace B0:=am (blk_below (ks B0) hb);clear hb hbox hg;have z0:=cf3 B0;have z1:=cf3 B1))
 revert H;refine ie1 ?_
 intro c0b0 c0b1 H
 go_upto_region 3 with (fail)
 revert H;refine ie1 ?_
 intro c1b0 c1b1 H
 go_upto_region 5 with (fail)
 revert H;refine ie1 ?_
 intro c2b0 c2b1 H;obtain rfl:=si H
 go_wp2
 go_ret
 exact ⟨ff,bs HB⟩
def laws_eqT:Bool × List (List Nat × List Nat):=(true,[([],[]),([],[]),([0,1],[0,1]),([2],[2]),([],[]),([],[]),([4,5],[4,5]),([6],[6]),([3,7],[3,7]),([8],[8])])
def laws_eqB:List Nat:=[0,0,3,7,0,0,48,112,255,511]
theorem laws_eqSeenS.calls (k:Nat) (A0:Option Addr) (c0:Nat) (l0:List (S155)) (A1:Option Addr) (c1:Nat) (l1:List (S155)) (r:Bool) (w:World) (hr0:Kd.C k155 w A0 l0.length l0) (hc0:l0.length≤c0) (hr1:Kd.C k155 w A1 l1.length l1) (hc1:l1.length≤c1) (H:laws_eqSeenS.f k l0 l1=some r) :
  Calls Tryz.prog 135 #[.slice A0 l0.length c0,.slice A1 l1.length c1] w fun e w'=>e=.returned (.bool r)∧Below w.heap.size w w':=by
 have hu:=Tryz.underlying155;have HR0:=am hr0;have HR1:=am hr1;clear hr0 hc0 hr1 hc1;have HB:=am (Below.refl w.heap.size w);unfold laws_eqSeenS.f at H
 go_in
 revert H;refine ie1k ?_
 intro c3 c3b0 c3b1 H
 have c3b2:(l0.length == l1.length)=true:=by first|simpa using c3|(simp at c3 ⊢;omega)
 clear c3;have H':=am H;clear H
 go_wp2
 go_loopg [5] k (fun kq v5 w'=>∃ (x5:Int),v5=.int .i64 x5∧Aside0 (laws_eqSeenS.l0 kq l0 l1 x5=some r)∧Aside0 (kq≤k)∧Aside0 (Below w.heap.size w w'))
 case atStart=>exact ⟨0,fg,H',⟨Nat.le_refl _⟩,⟨bs HB⟩⟩
 case round =>
  clear H';(try clear c3b0);(try clear c3b1);(try clear c3b2);obtain ⟨x5,rfl,HA,HK1,HB⟩:=hrel
  cases gk with
  | zero=>exact absurd HA.out (by simp [laws_eqSeenS.l0])
  | succ k1 =>
   have H:=HA.out;clear HA;simp only [laws_eqSeenS.l0] at H
   revert H;refine id2 ?_ ?_
   ·intro c4b0 H;revert H;refine id1 ?_;intro c5b0 H;revert H;refine id1 ?_;intro c6b0 H;replace H:=bo H;obtain ⟨t,A7,H⟩:=H;have p1:0≤(x5:Int):=oa;have q1:x5<(l0.length:Int):=oa;have q2:x5<(l1.length:Int):=oa;obtain ⟨ad,ea,g0,g1,g2⟩:=at_T155 HR0.out x5 p1 q1;obtain ⟨ae,ee,j0,j1,j2⟩:=at_T155 HR1.out x5 p1 q2;cases ea;cases ee;replace p1:=eq_true p1;replace q1:=eq_true q1;replace q2:=eq_true q2;have G0:=am g0;have J0:=am j0;clear g0 j0;have G1:=am g1;have J1:=am j1;clear g1 j1;have G2:=am g2;have J2:=am j2;clear g2 j2
    try go_wp2
    replace HB:=am (below_drew1 HB.out);refine sta 10 (hca (cb HB G0.out) (hca (cb HB G1.out) (hca (cb HB G2.out) (hca (cb HB J0.out) (hca (cb HB J1.out) (hc (cb HB J2.out))))))) (fun hHeld=>?_);refine with_tabW (show rtab .any (opsOf Tryz.f135 6)=laws_eqT from by kernel_rfl) (show waitsOk laws_eqT.2 laws_eqB=true from by kernel_rfl) (fun HT_ HW_=>?_)
    generalize wr.drew=wa at HB hHeld ⊢
    refine pz3 0 ?_;refine pz3 4 ?_;refine ta 3 ?_;refine ta 7 ?_;refine oA 8 25 HT_ (fun K hK=>?_);refine gA Tryz.func151 #[.agg #[.int .i64 (rd_T155 l0 x5).f0,.int .i64 (rd_T155 l0 x5).f1,.int .i64 (rd_T155 l0 x5).f2],.agg #[.int .i64 (rd_T155 l1 x5).f0,.int .i64 (rd_T155 l1 x5).f1,.int .i64 (rd_T155 l1 x5).f2]] ?_;(with_reducible refine (laws_eqSeen.calls ((rd_T155 l0 x5).f0) ((rd_T155 l0 x5).f1) ((rd_T155 l0 x5).f2) ((rd_T155 l1 x5).f0) ((rd_T155 l1 x5).f1) ((rd_T155 l1 x5).f2) t _ A7.out).mono ?_);rintro e wb ⟨rfl,hb⟩;refine ⟨_,rfl,?_⟩;replace HB:=bq HB hb;clear hb;refine hK.out _ _ (hca (cb HB G0.out) (hca (cb HB G1.out) (hca (cb HB G2.out) (hca (cb HB J0.out) (hca (cb HB J1.out) (hc (cb HB J2.out))))))).out (fun hHeld=>?_);clear hK K;refine nA 25 ?_;refine pz1 9 ?_;refine done_ (done_of HT_.out (by kernel_rfl)) ?_;clear HT_ HW_ hHeld
    obtain rfl|rfl:=bt t;rotate_left
    ·replace H:=itF H;cases H
    replace H:=itT H;have H':=am H;clear H
    try go_wp2
    go_roundg k1
    case measure=>have:=HK1.out;omega
    case rel=>exact ⟨wrap64 (x5+1),fg,H',⟨by have:=HK1.out;omega⟩,⟨bs HB⟩⟩
   ·intro c4b0 H;obtain rfl:=si H
    go_wp2
    go_ret
    exact ⟨ff,bs HB⟩
theorem laws_eqPartner.calls (k:Nat) (a0_0:ByteArray) (a0_1:Int) (a0_2:Int) (A0_3:Option Addr) (c0_3:Nat) (l0_3:List (S155)) (a1_0:ByteArray) (a1_1:Int) (a1_2:Int) (A1_3:Option Addr) (c1_3:Nat) (l1_3:List (S155)) (r:Bool) (w:World) (hr0_3:Kd.C k155 w A0_3 l0_3.length l0_3) (hc0_3:l0_3.length≤c0_3) (hr1_3:Kd.C k155 w A1_3 l1_3.length l1_3) (hc1_3:l1_3.length≤c1_3) (H:laws_eqPartner.f k a0_0 a0_1 a0_2 l0_3 a1_0 a1_1 a1_2 l1_3=some r) :
  Calls Tryz.prog 88 #[.agg #[.string a0_0,.int .i64 a0_1,.int .i64 a0_2,.slice A0_3 l0_3.length c0_3],.agg #[.string a1_0,.int .i64 a1_1,.int .i64 a1_2,.slice A1_3 l1_3.length c1_3]] w fun e w'=>e=.returned (.bool r)∧Below w.heap.size w w':=by
 have hu83:=Tryz.underlying83;have HR0_3:=am hr0_3;have HC0_3:=am hc0_3;clear hr0_3 hc0_3;have HR1_3:=am hr1_3;have HC1_3:=am hc1_3;clear hr1_3 hc1_3;have HB:=am (Below.refl w.heap.size w);unfold laws_eqPartner.f at H
 revert H;refine ie2 ?_ ?_
 ·intro c3b0 c3b1 H
  revert H;refine ie2 ?_ ?_
  ·intro c4b0 c4b1 H
   revert H;refine ie2 ?_ ?_
   ·intro c5b0 c5b1 H;replace H:=bo H;obtain ⟨t30,A6,H⟩:=H
    go_in
    try go_wp2_with (first|((with_reducible refine gate_dst (N:=2) rfl ?_);refine bz 2 (cs:=#[.string a0_0,.int .i64 a0_1,.int .i64 a0_2,.slice A0_3 l0_3.length c0_3]) (t:=83) HB ?_;clear HB;intro gb13 hg w7 BK13 GW13 hb HB;clear hb hg)|((with_reducible refine gate_dst (N:=3) rfl ?_);refine bz 3 (cs:=#[.string a1_0,.int .i64 a1_1,.int .i64 a1_2,.slice A1_3 l1_3.length c1_3]) (t:=83) HB ?_;clear HB;intro gb29 hg w8 BK29 GW29 hb HB;have NB13_29:=na hg BK13;have NB29_13:=nc hg BK13;replace BK13:=bb BK13 hb;clear hb hg;have hnb9:=NB13_29.out;have hnc9:=NB29_13.out;have hcz10:=cf4 BK13;have hcz11:=cf4 BK29))
    go_at_call 135;(with_reducible refine (laws_eqSeenS.calls k _ _ l0_3 _ _ l1_3 t30 _ (Kd.C_below HR0_3.out (bs HB)) HC0_3.out (Kd.C_below HR1_3.out (bs HB)) HC1_3.out A6.out).mono ?_);rintro e w12 ⟨rfl,hb⟩;replace BK13:=bb BK13 hb;replace BK29:=bb BK29 hb;replace HB:=bq HB hb;(try clear hb);(try clear hb2);(try clear hk);(try clear hi)
    obtain rfl|rfl:=bt t30
    ·replace H:=itT H;obtain rfl:=si H
     go_wp2
     go_ret
     exact ⟨ff,bs HB⟩
    ·replace H:=itF H;obtain rfl:=si H
     go_wp2
     go_ret
     exact ⟨ff,bs HB⟩
   ·intro c5 c5b0 c5b1 H;obtain rfl:=si H
    go_in
    go_wp2_with (first|((with_reducible refine gate_dst (N:=2) rfl ?_);refine bz 2 (cs:=#[.string a0_0,.int .i64 a0_1,.int .i64 a0_2,.slice A0_3 l0_3.length c0_3]) (t:=83) HB ?_;clear HB;intro gb13 hg w14 BK13 GW13 hb HB;clear hb hg)|((with_reducible refine gate_dst (N:=3) rfl ?_);refine bz 3 (cs:=#[.string a1_0,.int .i64 a1_1,.int .i64 a1_2,.slice A1_3 l1_3.length c1_3]) (t:=83) HB ?_;clear HB;intro gb29 hg w15 BK29 GW29 hb HB;have NB13_29:=na hg BK13;have NB29_13:=nc hg BK13;replace BK13:=bb BK13 hb;clear hb hg;have hnb16:=NB13_29.out;have hnc16:=NB29_13.out;have hcz17:=cf4 BK13;have hcz18:=cf4 BK29))
    go_ret
    exact ⟨ff,bs HB⟩
  ·intro c4 c4b0 c4b1 H;obtain rfl:=si H
   go_in
   go_wp2_with (first|((with_reducible refine gate_dst (N:=2) rfl ?_);refine bz 2 (cs:=#[.string a0_0,.int .i64 a0_1,.int .i64 a0_2,.slice A0_3 l0_3.length c0_3]) (t:=83) HB ?_;clear HB;intro gb13 hg w19 BK13 GW13 hb HB;clear hb hg)|((with_reducible refine gate_dst (N:=3) rfl ?_);refine bz 3 (cs:=#[.string a1_0,.int .i64 a1_1,.int .i64 a1_2,.slice A1_3 l1_3.length c1_3]) (t:=83) HB ?_;clear HB;intro gb29 hg w20 BK29 GW29 hb HB;have NB13_29:=na hg BK13;have NB29_13:=nc hg BK13;replace BK13:=bb BK13 hb;clear hb hg;have hnb21:=NB13_29.out;have hnc21:=NB29_13.out;have hcz22:=cf4 BK13;have hcz23:=cf4 BK29))
   go_ret
   exact ⟨ff,bs HB⟩
 ·intro c3 c3b0 c3b1 H;obtain rfl:=si H
  go_in
  go_wp2_with (first|((with_reducible refine gate_dst (N:=2) rfl ?_);refine bz 2 (cs:=#[.string a0_0,.int .i64 a0_1,.int .i64 a0_2,.slice A0_3 l0_3.length c0_3]) (t:=83) HB ?_;clear HB;intro gb13 hg w24 BK13 GW13 hb HB;clear hb hg)|((with_reducible refine gate_dst (N:=3) rfl ?_);refine bz 3 (cs:=#[.string a1_0,.int .i64 a1_1,.int .i64 a1_2,.slice A1_3 l1_3.length c1_3]) (t:=83) HB ?_;clear HB;intro gb29 hg w25 BK29 GW29 hb HB;have NB13_29:=na hg BK13;have NB29_13:=nc hg BK13;replace BK13:=bb BK13 hb;clear hb hg;have hnb26:=NB13_29.out;have hnc26:=NB29_13.out;have hcz27:=cf4 BK13;have hcz28:=cf4 BK29))
  go_ret
  exact ⟨ff,bs HB⟩
def laws_eqPartnerS.T6:Bool × List (List Nat × List Nat):=(true,[([],[]),([],[]),([0,1],[0,1]),([2],[2]),([],[]),([],[]),([4,5],[4,5]),([6],[6]),([3,7],[3,7]),([8],[8])])
def laws_eqPartnerS.B6:List Nat:=[0,0,3,7,0,0,48,112,255,511]
theorem laws_eqPartnerS.tab6:rtab .any (opsOf Tryz.f33 6)=laws_eqPartnerS.T6:=by kernel_rfl
theorem laws_eqPartnerS.bits6:waitsOk laws_eqPartnerS.T6.2 laws_eqPartnerS.B6=true:=by kernel_rfl
theorem laws_eqPartnerS.calls (k:Nat) (A0:Option Addr) (c0:Nat) (l0:List (S83)) (A1:Option Addr) (c1:Nat) (l1:List (S83)) (r:Bool) (w:World) (hr0:Kd.C k83 w A0 l0.length l0) (hc0:l0.length≤c0) (hr1:Kd.C k83 w A1 l1.length l1) (hc1:l1.length≤c1) (H:laws_eqPartnerS.f k l0 l1=some r) :
  Calls Tryz.prog 33 #[.slice A0 l0.length c0,.slice A1 l1.length c1] w fun e w'=>e=.returned (.bool r)∧Below w.heap.size w w':=by
 have hu83:=Tryz.underlying83;have HR0:=am hr0;have HC0:=am hc0;clear hr0 hc0;have HR1:=am hr1;have HC1:=am hc1;clear hr1 hc1;have HB:=am (Below.refl w.heap.size w);unfold laws_eqPartnerS.f at H
 revert H;refine ie2k ?_ ?_
 ·intro c3 c3b0 c3b1 H
  have c3b2:(l0.length == l1.length)=true:=by first|simpa using c3|(simp at c3 ⊢;omega)
  clear c3;have H':=am H;clear H
  go_in
  go_wp2
  go_loopg [5] k (fun kq v5 w'=>∃ (x5_1:Int),v5=.int .i64 x5_1∧Aside0 (laws_eqPartnerS.l0 kq l0 l1 x5_1=some r)∧Aside0 (kq≤k)∧Aside0 (Below w.heap.size w w'))
  case atStart=>exact ⟨(0),fg,H',⟨Nat.le_refl _⟩,⟨bs HB⟩⟩
  case round =>
   clear H'
   try clear c1
   try clear c3
   try clear c3b0
   try clear c3b1
   try clear c3b2
   obtain ⟨x5_1,rfl,HA,HK1,HB⟩:=hrel
   cases gk with
   | zero=>exact absurd HA.out (by simp [laws_eqPartnerS.l0])
   | succ k1 =>
    have H:=HA.out;clear HA;simp only [laws_eqPartnerS.l0] at H
    revert H;refine id2 ?_ ?_
    ·intro c4b0 H
     revert H;refine id1 ?_
     intro c5b0 H
     revert H;refine id1 ?_
     intro c6b0 H;replace H:=bo H;obtain ⟨t15,A7,H⟩:=H
     obtain rfl|rfl:=bt t15
     ·replace H:=itT H;have H':=am H;clear H
      try go_wp2
      replace HB:=am (below_drew1 HB.out);have p13:0≤(x5_1:Int):=oa;have q13:x5_1<(l0.length:Int):=oa;obtain ⟨ad13,A13_3,c13_3,e13,hx13_0,hx13_1,hx13_2,hx13_3,hl13_3,hi13_3⟩:=at_T83 HR0.out x5_1 p13 q13;have hw13_3:=hx13_3;have hw13_2:=hx13_2;have hw13_1:=hx13_1;have hw13_0:=hx13_0
      cases e13
      replace hx13_0:=cb HB hx13_0;replace hx13_1:=cb HB hx13_1;replace hx13_2:=cb HB hx13_2;replace hx13_3:=cb HB hx13_3;have HR13_3:=am hi13_3;have HC13_3:=am hl13_3;clear hi13_3 hl13_3;replace p13:=eq_true p13;replace q13:=eq_true q13;have p14:0≤(x5_1:Int):=oa;have q14:x5_1<(l1.length:Int):=oa;obtain ⟨ad14,A14_3,c14_3,e14,hx14_0,hx14_1,hx14_2,hx14_3,hl14_3,hi14_3⟩:=at_T83 HR1.out x5_1 p14 q14;have hw14_3:=hx14_3;have hw14_2:=hx14_2;have hw14_1:=hx14_1;have hw14_0:=hx14_0
      cases e14
      replace hx14_0:=cb HB hx14_0;replace hx14_1:=cb HB hx14_1;replace hx14_2:=cb HB hx14_2;replace hx14_3:=cb HB hx14_3;have HR14_3:=am hi14_3;have HC14_3:=am hl14_3;clear hi14_3 hl14_3;replace p14:=eq_true p14;replace q14:=eq_true q14;refine sta 10 (hca (cb HB hw13_0) (hca (cb HB hw13_1) (hca (cb HB hw13_2) (hca (cb HB hw13_3) (hca (cb HB hw14_0) (hca (cb HB hw14_1) (hca (cb HB hw14_2) (hc (cb HB hw14_3))))))))) (fun hHeld=>?_);refine with_tabW laws_eqPartnerS.tab6 laws_eqPartnerS.bits6 (fun HT_ HW_=>?_)
      generalize wr.drew=w9 at HB HR13_3 HR14_3 hx13_0 hx13_1 hx13_2 hx13_3 hx14_0 hx14_1 hx14_2 hx14_3 hHeld ⊢
      refine pz3 0 ?_;refine pz3 4 ?_;refine ta 3 ?_;refine ta 7 ?_;refine oA 8 25 HT_ (fun K hK=>?_);refine gA Tryz.func88 #[.agg #[.string ((rd_T83 l0 x5_1).f0),.int .i64 ((rd_T83 l0 x5_1).f1),.int .i64 ((rd_T83 l0 x5_1).f2),.slice A13_3 ((rd_T83 l0 x5_1).f3).length c13_3],.agg #[.string ((rd_T83 l1 x5_1).f0),.int .i64 ((rd_T83 l1 x5_1).f1),.int .i64 ((rd_T83 l1 x5_1).f2),.slice A14_3 ((rd_T83 l1 x5_1).f3).length c14_3]] ?_;(with_reducible refine (laws_eqPartner.calls k1 ((rd_T83 l0 x5_1).f0) ((rd_T83 l0 x5_1).f1) ((rd_T83 l0 x5_1).f2) _ _ ((rd_T83 l0 x5_1).f3) ((rd_T83 l1 x5_1).f0) ((rd_T83 l1 x5_1).f1) ((rd_T83 l1 x5_1).f2) _ _ ((rd_T83 l1 x5_1).f3) true _ ?side1 ?side2 ?side3 ?side4 A7.out).mono ?_)
      (case side1=>exact sd (Kd.C_below HR13_3.out HB.out))
      (case side2=>exact HC13_3.out)
      (case side3=>exact sd (Kd.C_below HR14_3.out HB.out))
      (case side4=>exact HC14_3.out)
      rintro e w10 ⟨rfl,hb⟩;refine ⟨_,rfl,?_⟩;replace HB:=bq HB hb;(try clear hb);(try clear hb2);(try clear hk);(try clear hi);refine hK.out _ _ (hca (cb HB hw13_0) (hca (cb HB hw13_1) (hca (cb HB hw13_2) (hca (cb HB hw13_3) (hca (cb HB hw14_0) (hca (cb HB hw14_1) (hca (cb HB hw14_2) (hc (cb HB hw14_3))))))))).out (fun hHeld=>?_);clear hK K;refine nA 25 ?_;refine pz1 9 ?_;refine done_ (done_of HT_.out (by kernel_rfl)) ?_
      try go_wp2
      go_roundg k1
      case measure=>have:=HK1.out;omega
      case rel=>exact ⟨(wrap64 (x5_1+1)),fg,H',⟨by have:=HK1.out;omega⟩,⟨bs HB⟩⟩
     ·replace H:=itF H;obtain rfl:=si H
      try go_wp2
      replace HB:=am (below_drew1 HB.out);have p13:0≤(x5_1:Int):=oa;have q13:x5_1<(l0.length:Int):=oa;obtain ⟨ad13,A13_3,c13_3,e13,hx13_0,hx13_1,hx13_2,hx13_3,hl13_3,hi13_3⟩:=at_T83 HR0.out x5_1 p13 q13;have hw13_3:=hx13_3;have hw13_2:=hx13_2;have hw13_1:=hx13_1;have hw13_0:=hx13_0
      cases e13
      replace hx13_0:=cb HB hx13_0;replace hx13_1:=cb HB hx13_1;replace hx13_2:=cb HB hx13_2;replace hx13_3:=cb HB hx13_3;have HR13_3:=am hi13_3;have HC13_3:=am hl13_3;clear hi13_3 hl13_3;replace p13:=eq_true p13;replace q13:=eq_true q13;have p14:0≤(x5_1:Int):=oa;have q14:x5_1<(l1.length:Int):=oa;obtain ⟨ad14,A14_3,c14_3,e14,hx14_0,hx14_1,hx14_2,hx14_3,hl14_3,hi14_3⟩:=at_T83 HR1.out x5_1 p14 q14;have hw14_3:=hx14_3;have hw14_2:=hx14_2;have hw14_1:=hx14_1;have hw14_0:=hx14_0
      cases e14
      replace hx14_0:=cb HB hx14_0;replace hx14_1:=cb HB hx14_1;replace hx14_2:=cb HB hx14_2;replace hx14_3:=cb HB hx14_3;have HR14_3:=am hi14_3;have HC14_3:=am hl14_3;clear hi14_3 hl14_3;replace p14:=eq_true p14;replace q14:=eq_true q14;refine sta 10 (hca (cb HB hw13_0) (hca (cb HB hw13_1) (hca (cb HB hw13_2) (hca (cb HB hw13_3) (hca (cb HB hw14_0) (hca (cb HB hw14_1) (hca (cb HB hw14_2) (hc (cb HB hw14_3))))))))) (fun hHeld=>?_);refine with_tabW laws_eqPartnerS.tab6 laws_eqPartnerS.bits6 (fun HT_ HW_=>?_)
      generalize wr.drew=w11 at HB HR13_3 HR14_3 hx13_0 hx13_1 hx13_2 hx13_3 hx14_0 hx14_1 hx14_2 hx14_3 hHeld ⊢
      refine pz3 0 ?_;refine pz3 4 ?_;refine ta 3 ?_;refine ta 7 ?_;refine oA 8 25 HT_ (fun K hK=>?_);refine gA Tryz.func88 #[.agg #[.string ((rd_T83 l0 x5_1).f0),.int .i64 ((rd_T83 l0 x5_1).f1),.int .i64 ((rd_T83 l0 x5_1).f2),.slice A13_3 ((rd_T83 l0 x5_1).f3).length c13_3],.agg #[.string ((rd_T83 l1 x5_1).f0),.int .i64 ((rd_T83 l1 x5_1).f1),.int .i64 ((rd_T83 l1 x5_1).f2),.slice A14_3 ((rd_T83 l1 x5_1).f3).length c14_3]] ?_;(with_reducible refine (laws_eqPartner.calls k1 ((rd_T83 l0 x5_1).f0) ((rd_T83 l0 x5_1).f1) ((rd_T83 l0 x5_1).f2) _ _ ((rd_T83 l0 x5_1).f3) ((rd_T83 l1 x5_1).f0) ((rd_T83 l1 x5_1).f1) ((rd_T83 l1 x5_1).f2) _ _ ((rd_T83 l1 x5_1).f3) false _ ?side1 ?side2 ?side3 ?side4 A7.out).mono ?_)
      (case side1=>exact sd (Kd.C_below HR13_3.out HB.out))
      (case side2=>exact HC13_3.out)
      (case side3=>exact sd (Kd.C_below HR14_3.out HB.out))
      (case side4=>exact HC14_3.out)
      rintro e w12 ⟨rfl,hb⟩;refine ⟨_,rfl,?_⟩;replace HB:=bq HB hb;(try clear hb);(try clear hb2);(try clear hk);(try clear hi);refine hK.out _ _ (hca (cb HB hw13_0) (hca (cb HB hw13_1) (hca (cb HB hw13_2) (hca (cb HB hw13_3) (hca (cb HB hw14_0) (hca (cb HB hw14_1) (hca (cb HB hw14_2) (hc (cb HB hw14_3))))))))).out (fun hHeld=>?_);clear hK K;refine nA 25 ?_;refine pz1 9 ?_;refine done_ (done_of HT_.out (by kernel_rfl)) ?_
      try go_wp2
      go_ret
      exact ⟨ff,bs HB⟩
    ·intro c4b0 H;obtain rfl:=si H
     go_wp2
     go_ret
     exact ⟨ff,bs HB⟩
 ·intro c3 c3b0 c3b1 H
  have c3b2:(l0.length == l1.length)=false:=by first|simpa using c3|(simp at c3 ⊢;omega)
  obtain rfl:=si H
  go_in
  go_wp2
  go_ret
  exact ⟨ff,bs HB⟩
theorem laws_eqCross.calls (a0_0:ByteArray) (a0_1:ByteArray) (a0_2:ByteArray) (a1_0:ByteArray) (a1_1:ByteArray) (a1_2:ByteArray) (r:Bool) (w:World) (H:laws_eqCross.f a0_0 a0_1 a0_2 a1_0 a1_1 a1_2=some r) :
  Calls Tryz.prog 89 #[.agg #[.string a0_0,.string a0_1,.string a0_2],.agg #[.string a1_0,.string a1_1,.string a1_2]] w fun e w'=>e=.returned (.bool r)∧Below w.heap.size w w':=by
 have hu:=Tryz.underlying114;have HB:=am (Below.refl w.heap.size w);unfold laws_eqCross.f at H
 go_in
 go_upto_region 1 with (first|((with_reducible refine gate_dst (N:=2) rfl ?_);refine bx 2 (cs:=#[.string a0_0,.string a0_1,.string a0_2]) (t:=114) ?_;intro g0 hg wa hbox hb;have B0:=am hbox;replace HB:=bq HB hb;clear hb hbox hg)|((with_reducible refine gate_dst (N:=3) rfl ?_);refine bx 3 (cs:=#[.string a1_0,.string a1_1,.string a1_2]) (t:=114) ?_;intro g1 hg wb hbox hb;have B1:=am hbox;replace HB:=bq HB hb;replace B0:=am (blk_below (ks B0) hb);clear hb hbox hg;have z0:=cf3 B0;have z1:=cf3 B1))
 revert H;refine ie1 ?_
 intro c0b0 c0b1 H
 go_upto_region 3 with (fail)
 revert H;refine ie1 ?_
 intro c1b0 c1b1 H
 go_upto_region 5 with (fail)
 revert H;refine ie1 ?_
 intro c2b0 c2b1 H;obtain rfl:=si H
 go_wp2
 go_ret
 exact ⟨ff,bs HB⟩
theorem laws_eqCrossS.calls (k:Nat) (A0:Option Addr) (c0:Nat) (l0:List (S114)) (A1:Option Addr) (c1:Nat) (l1:List (S114)) (r:Bool) (w:World) (hr0:Kd.C k114 w A0 l0.length l0) (hc0:l0.length≤c0) (hr1:Kd.C k114 w A1 l1.length l1) (hc1:l1.length≤c1) (H:laws_eqCrossS.f k l0 l1=some r) :
  Calls Tryz.prog 34 #[.slice A0 l0.length c0,.slice A1 l1.length c1] w fun e w'=>e=.returned (.bool r)∧Below w.heap.size w w':=by
 have hu:=Tryz.underlying114;have HR0:=am hr0;have HR1:=am hr1;clear hr0 hc0 hr1 hc1;have HB:=am (Below.refl w.heap.size w);unfold laws_eqCrossS.f at H
 go_in
 revert H;refine ie1k ?_
 intro c3 c3b0 c3b1 H
 have c3b2:(l0.length == l1.length)=true:=by first|simpa using c3|(simp at c3 ⊢;omega)
 clear c3;have H':=am H;clear H
 go_wp2
 go_loopg [5] k (fun kq v5 w'=>∃ (x5:Int),v5=.int .i64 x5∧Aside0 (laws_eqCrossS.l0 kq l0 l1 x5=some r)∧Aside0 (kq≤k)∧Aside0 (Below w.heap.size w w'))
 case atStart=>exact ⟨0,fg,H',⟨Nat.le_refl _⟩,⟨bs HB⟩⟩
 case round =>
  clear H';(try clear c3b0);(try clear c3b1);(try clear c3b2);obtain ⟨x5,rfl,HA,HK1,HB⟩:=hrel
  cases gk with
  | zero=>exact absurd HA.out (by simp [laws_eqCrossS.l0])
  | succ k1 =>
   have H:=HA.out;clear HA;simp only [laws_eqCrossS.l0] at H
   revert H;refine id2 ?_ ?_
   ·intro c4b0 H;revert H;refine id1 ?_;intro c5b0 H;revert H;refine id1 ?_;intro c6b0 H;replace H:=bo H;obtain ⟨t,A7,H⟩:=H;have p1:0≤(x5:Int):=oa;have q1:x5<(l0.length:Int):=oa;have q2:x5<(l1.length:Int):=oa;obtain ⟨ad,ea,g0,g1,g2⟩:=at_T114 HR0.out x5 p1 q1;obtain ⟨ae,ee,j0,j1,j2⟩:=at_T114 HR1.out x5 p1 q2;cases ea;cases ee;replace p1:=eq_true p1;replace q1:=eq_true q1;replace q2:=eq_true q2;have G0:=am g0;have J0:=am j0;clear g0 j0;have G1:=am g1;have J1:=am j1;clear g1 j1;have G2:=am g2;have J2:=am j2;clear g2 j2
    try go_wp2
    replace HB:=am (below_drew1 HB.out);refine sta 10 (hca (cb HB G0.out) (hca (cb HB G1.out) (hca (cb HB G2.out) (hca (cb HB J0.out) (hca (cb HB J1.out) (hc (cb HB J2.out))))))) (fun hHeld=>?_);refine with_tabW (show rtab .any (opsOf Tryz.f34 6)=laws_eqT from by kernel_rfl) (show waitsOk laws_eqT.2 laws_eqB=true from by kernel_rfl) (fun HT_ HW_=>?_)
    generalize wr.drew=wa at HB hHeld ⊢
    refine pz3 0 ?_;refine pz3 4 ?_;refine ta 3 ?_;refine ta 7 ?_;refine oA 8 25 HT_ (fun K hK=>?_);refine gA Tryz.func89 #[.agg #[.string (rd_T114 l0 x5).f0,.string (rd_T114 l0 x5).f1,.string (rd_T114 l0 x5).f2],.agg #[.string (rd_T114 l1 x5).f0,.string (rd_T114 l1 x5).f1,.string (rd_T114 l1 x5).f2]] ?_;(with_reducible refine (laws_eqCross.calls ((rd_T114 l0 x5).f0) ((rd_T114 l0 x5).f1) ((rd_T114 l0 x5).f2) ((rd_T114 l1 x5).f0) ((rd_T114 l1 x5).f1) ((rd_T114 l1 x5).f2) t _ A7.out).mono ?_);rintro e wb ⟨rfl,hb⟩;refine ⟨_,rfl,?_⟩;replace HB:=bq HB hb;clear hb;refine hK.out _ _ (hca (cb HB G0.out) (hca (cb HB G1.out) (hca (cb HB G2.out) (hca (cb HB J0.out) (hca (cb HB J1.out) (hc (cb HB J2.out))))))).out (fun hHeld=>?_);clear hK K;refine nA 25 ?_;refine pz1 9 ?_;refine done_ (done_of HT_.out (by kernel_rfl)) ?_;clear HT_ HW_ hHeld
    obtain rfl|rfl:=bt t;rotate_left
    ·replace H:=itF H;cases H
    replace H:=itT H;have H':=am H;clear H
    try go_wp2
    go_roundg k1
    case measure=>have:=HK1.out;omega
    case rel=>exact ⟨wrap64 (x5+1),fg,H',⟨by have:=HK1.out;omega⟩,⟨bs HB⟩⟩
   ·intro c4b0 H;obtain rfl:=si H
    go_wp2
    go_ret
    exact ⟨ff,bs HB⟩
theorem laws_eqStock.calls (a0_0:ByteArray) (a0_1:Int) (a1_0:ByteArray) (a1_1:Int) (r:Bool) (w:World) (H:laws_eqStock.f a0_0 a0_1 a1_0 a1_1=some r) :
  Calls Tryz.prog 136 #[.agg #[.string a0_0,.int .i64 a0_1],.agg #[.string a1_0,.int .i64 a1_1]] w fun e w'=>e=.returned (.bool r)∧Below w.heap.size w w':=by
 have hu:=Tryz.underlying152;have HB:=am (Below.refl w.heap.size w);unfold laws_eqStock.f at H
 go_in
 go_upto_region 1 with (first|((with_reducible refine gate_dst (N:=2) rfl ?_);refine bx 2 (cs:=#[.string a0_0,.int .i64 a0_1]) (t:=152) ?_;intro g0 hg wa hbox hb;have B0:=am hbox;replace HB:=bq HB hb;clear hb hbox hg)|((with_reducible refine gate_dst (N:=3) rfl ?_);refine bx 3 (cs:=#[.string a1_0,.int .i64 a1_1]) (t:=152) ?_;intro g1 hg wb hbox hb;have B1:=am hbox;replace HB:=bq HB hb;replace B0:=am (blk_below (ks B0) hb);clear hb hbox hg;have z0:=cf2 B0;have z1:=cf2 B1))
 revert H;refine ie1 ?_
 intro c0b0 c0b1 H
 go_upto_region 3 with (fail)
 revert H;refine ie1 ?_
 intro c1b0 c1b1 H;obtain rfl:=si H
 go_wp2
 go_ret
 exact ⟨ff,bs HB⟩
theorem laws_eqStockS.calls (k:Nat) (A0:Option Addr) (c0:Nat) (l0:List (S152)) (A1:Option Addr) (c1:Nat) (l1:List (S152)) (r:Bool) (w:World) (hr0:Kd.C k152 w A0 l0.length l0) (hc0:l0.length≤c0) (hr1:Kd.C k152 w A1 l1.length l1) (hc1:l1.length≤c1) (H:laws_eqStockS.f k l0 l1=some r) :
  Calls Tryz.prog 90 #[.slice A0 l0.length c0,.slice A1 l1.length c1] w fun e w'=>e=.returned (.bool r)∧Below w.heap.size w w':=by
 have hu:=Tryz.underlying152;have HR0:=am hr0;have HR1:=am hr1;clear hr0 hc0 hr1 hc1;have HB:=am (Below.refl w.heap.size w);unfold laws_eqStockS.f at H
 go_in
 revert H;refine ie1k ?_
 intro c3 c3b0 c3b1 H
 have c3b2:(l0.length == l1.length)=true:=by first|simpa using c3|(simp at c3 ⊢;omega)
 clear c3;have H':=am H;clear H
 go_wp2
 go_loopg [5] k (fun kq v5 w'=>∃ (x5:Int),v5=.int .i64 x5∧Aside0 (laws_eqStockS.l0 kq l0 l1 x5=some r)∧Aside0 (kq≤k)∧Aside0 (Below w.heap.size w w'))
 case atStart=>exact ⟨0,fg,H',⟨Nat.le_refl _⟩,⟨bs HB⟩⟩
 case round =>
  clear H';(try clear c3b0);(try clear c3b1);(try clear c3b2);obtain ⟨x5,rfl,HA,HK1,HB⟩:=hrel
  cases gk with
  | zero=>exact absurd HA.out (by simp [laws_eqStockS.l0])
  | succ k1 =>
   have H:=HA.out;clear HA;simp only [laws_eqStockS.l0] at H
   revert H;refine id2 ?_ ?_
   ·intro c4b0 H;revert H;refine id1 ?_;intro c5b0 H;revert H;refine id1 ?_;intro c6b0 H;replace H:=bo H;obtain ⟨t,A7,H⟩:=H;have p1:0≤(x5:Int):=oa;have q1:x5<(l0.length:Int):=oa;have q2:x5<(l1.length:Int):=oa;obtain ⟨ad,ea,g0,g1⟩:=at_T152 HR0.out x5 p1 q1;obtain ⟨ae,ee,j0,j1⟩:=at_T152 HR1.out x5 p1 q2;cases ea;cases ee;replace p1:=eq_true p1;replace q1:=eq_true q1;replace q2:=eq_true q2;have G0:=am g0;have J0:=am j0;clear g0 j0;have G1:=am g1;have J1:=am j1;clear g1 j1
    try go_wp2
    replace HB:=am (below_drew1 HB.out);refine sta 10 (hca (cb HB G0.out) (hca (cb HB G1.out) (hca (cb HB J0.out) (hc (cb HB J1.out))))) (fun hHeld=>?_);refine with_tabW (show rtab .any (opsOf Tryz.f90 6)=laws_eqT from by kernel_rfl) (show waitsOk laws_eqT.2 laws_eqB=true from by kernel_rfl) (fun HT_ HW_=>?_)
    generalize wr.drew=wa at HB hHeld ⊢
    refine pz3 0 ?_;refine pz3 4 ?_;refine ta 3 ?_;refine ta 7 ?_;refine oA 8 25 HT_ (fun K hK=>?_);refine gA Tryz.func136 #[.agg #[.string (rd_T152 l0 x5).f0,.int .i64 (rd_T152 l0 x5).f1],.agg #[.string (rd_T152 l1 x5).f0,.int .i64 (rd_T152 l1 x5).f1]] ?_;(with_reducible refine (laws_eqStock.calls ((rd_T152 l0 x5).f0) ((rd_T152 l0 x5).f1) ((rd_T152 l1 x5).f0) ((rd_T152 l1 x5).f1) t _ A7.out).mono ?_);rintro e wb ⟨rfl,hb⟩;refine ⟨_,rfl,?_⟩;replace HB:=bq HB hb;clear hb;refine hK.out _ _ (hca (cb HB G0.out) (hca (cb HB G1.out) (hca (cb HB J0.out) (hc (cb HB J1.out))))).out (fun hHeld=>?_);clear hK K;refine nA 25 ?_;refine pz1 9 ?_;refine done_ (done_of HT_.out (by kernel_rfl)) ?_;clear HT_ HW_ hHeld
    obtain rfl|rfl:=bt t;rotate_left
    ·replace H:=itF H;cases H
    replace H:=itT H;have H':=am H;clear H
    try go_wp2
    go_roundg k1
    case measure=>have:=HK1.out;omega
    case rel=>exact ⟨wrap64 (x5+1),fg,H',⟨by have:=HK1.out;omega⟩,⟨bs HB⟩⟩
   ·intro c4b0 H;obtain rfl:=si H
    go_wp2
    go_ret
    exact ⟨ff,bs HB⟩
theorem laws_eqOrderLine.calls (a0_0:ByteArray) (a0_1:ByteArray) (a0_2:Int) (a0_3:ByteArray) (a0_4:Int) (a0_5:Int) (a0_6:Int) (a0_7:Int) (a1_0:ByteArray) (a1_1:ByteArray) (a1_2:Int) (a1_3:ByteArray) (a1_4:Int) (a1_5:Int) (a1_6:Int) (a1_7:Int) (r:Bool) (w:World) (H:laws_eqOrderLine.f a0_0 a0_1 a0_2 a0_3 a0_4 a0_5 a0_6 a0_7 a1_0 a1_1 a1_2 a1_3 a1_4 a1_5 a1_6 a1_7=some r) :
  Calls Tryz.prog 137 #[.agg #[.string a0_0,.string a0_1,.int .i64 a0_2,.string a0_3,.int .i64 a0_4,.int .i64 a0_5,.int .i64 a0_6,.int .i64 a0_7],.agg #[.string a1_0,.string a1_1,.int .i64 a1_2,.string a1_3,.int .i64 a1_4,.int .i64 a1_5,.int .i64 a1_6,.int .i64 a1_7]] w fun e w'=>e=.returned (.bool r)∧Below w.heap.size w w':=by
 have hu:=Tryz.underlying161;have HB:=am (Below.refl w.heap.size w);unfold laws_eqOrderLine.f at H
 go_in
 go_upto_region 1 with (first|((with_reducible refine gate_dst (N:=2) rfl ?_);refine bx 2 (cs:=#[.string a0_0,.string a0_1,.int .i64 a0_2,.string a0_3,.int .i64 a0_4,.int .i64 a0_5,.int .i64 a0_6,.int .i64 a0_7]) (t:=161) ?_;intro g0 hg wa hbox hb;have B0:=am hbox;replace HB:=bq HB hb;clear hb hbox hg)|((with_reducible refine gate_dst (N:=3) rfl ?_);refine bx 3 (cs:=#[.string a1_0,.string a1_1,.int .i64 a1_2,.string a1_3,.int .i64 a1_4,.int .i64 a1_5,.int .i64 a1_6,.int .i64 a1_7]) (t:=161) ?_;intro g1 hg wb hbox hb;have B1:=am hbox;replace HB:=bq HB hb;replace B0:=am (blk_below (ks B0) hb);clear hb hbox hg;have z0:=cf8 B0;have z1:=cf8 B1))
 revert H;refine ie1 ?_
 intro c0b0 c0b1 H
 go_upto_region 3 with (fail)
 revert H;refine ie1 ?_
 intro c1b0 c1b1 H
 go_upto_region 5 with (fail)
 revert H;refine ie1 ?_
 intro c2b0 c2b1 H
 go_upto_region 7 with (fail)
 revert H;refine ie1 ?_
 intro c3b0 c3b1 H
 go_upto_region 9 with (fail)
 revert H;refine ie1 ?_
 intro c4b0 c4b1 H
 go_upto_region 11 with (fail)
 revert H;refine ie1 ?_
 intro c5b0 c5b1 H
 go_upto_region 13 with (fail)
 revert H;refine ie1 ?_
 intro c6b0 c6b1 H
 go_upto_region 15 with (fail)
 revert H;refine ie1 ?_
 intro c7b0 c7b1 H;obtain rfl:=si H
 go_wp2
 go_ret
 exact ⟨ff,bs HB⟩
theorem laws_eqOrderLineS.calls (k:Nat) (A0:Option Addr) (c0:Nat) (l0:List (S161)) (A1:Option Addr) (c1:Nat) (l1:List (S161)) (r:Bool) (w:World) (hr0:Kd.C k161 w A0 l0.length l0) (hc0:l0.length≤c0) (hr1:Kd.C k161 w A1 l1.length l1) (hc1:l1.length≤c1) (H:laws_eqOrderLineS.f k l0 l1=some r) :
  Calls Tryz.prog 91 #[.slice A0 l0.length c0,.slice A1 l1.length c1] w fun e w'=>e=.returned (.bool r)∧Below w.heap.size w w':=by
 have hu:=Tryz.underlying161;have HR0:=am hr0;have HR1:=am hr1;clear hr0 hc0 hr1 hc1;have HB:=am (Below.refl w.heap.size w);unfold laws_eqOrderLineS.f at H
 go_in
 revert H;refine ie1k ?_
 intro c3 c3b0 c3b1 H
 have c3b2:(l0.length == l1.length)=true:=by first|simpa using c3|(simp at c3 ⊢;omega)
 clear c3;have H':=am H;clear H
 go_wp2
 go_loopg [5] k (fun kq v5 w'=>∃ (x5:Int),v5=.int .i64 x5∧Aside0 (laws_eqOrderLineS.l0 kq l0 l1 x5=some r)∧Aside0 (kq≤k)∧Aside0 (Below w.heap.size w w'))
 case atStart=>exact ⟨0,fg,H',⟨Nat.le_refl _⟩,⟨bs HB⟩⟩
 case round =>
  clear H';(try clear c3b0);(try clear c3b1);(try clear c3b2);obtain ⟨x5,rfl,HA,HK1,HB⟩:=hrel
  cases gk with
  | zero=>exact absurd HA.out (by simp [laws_eqOrderLineS.l0])
  | succ k1 =>
   have H:=HA.out;clear HA;simp only [laws_eqOrderLineS.l0] at H
   revert H;refine id2 ?_ ?_
   ·intro c4b0 H;revert H;refine id1 ?_;intro c5b0 H;revert H;refine id1 ?_;intro c6b0 H;replace H:=bo H;obtain ⟨t,A7,H⟩:=H;have p1:0≤(x5:Int):=oa;have q1:x5<(l0.length:Int):=oa;have q2:x5<(l1.length:Int):=oa;obtain ⟨ad,ea,g0,g1,g2,g3,g4,g5,g6,g7⟩:=at_T161 HR0.out x5 p1 q1;obtain ⟨ae,ee,j0,j1,j2,j3,j4,j5,j6,j7⟩:=at_T161 HR1.out x5 p1 q2;cases ea;cases ee;replace p1:=eq_true p1;replace q1:=eq_true q1;replace q2:=eq_true q2;have G0:=am g0;have J0:=am j0;clear g0 j0;have G1:=am g1;have J1:=am j1;clear g1 j1;have G2:=am g2;have J2:=am j2;clear g2 j2;have G3:=am g3;have J3:=am j3;clear g3 j3;have G4:=am g4;have J4:=am j4;clear g4 j4;have G5:=am g5;have J5:=am j5;clear g5 j5;have G6:=am g6;have J6:=am j6;clear g6 j6;have G7:=am g7;have J7:=am j7;clear g7 j7
    try go_wp2
    replace HB:=am (below_drew1 HB.out);refine sta 10 (hca (cb HB G0.out) (hca (cb HB G1.out) (hca (cb HB G2.out) (hca (cb HB G3.out) (hca (cb HB G4.out) (hca (cb HB G5.out) (hca (cb HB G6.out) (hca (cb HB G7.out) (hca (cb HB J0.out) (hca (cb HB J1.out) (hca (cb HB J2.out) (hca (cb HB J3.out) (hca (cb HB J4.out) (hca (cb HB J5.out) (hca (cb HB J6.out) (hc (cb HB J7.out))))))))))))))))) (fun hHeld=>?_);refine with_tabW (show rtab .any (opsOf Tryz.f91 6)=laws_eqT from by kernel_rfl) (show waitsOk laws_eqT.2 laws_eqB=true from by kernel_rfl) (fun HT_ HW_=>?_)
    generalize wr.drew=wa at HB hHeld ⊢
    refine pz3 0 ?_;refine pz3 4 ?_;refine ta 3 ?_;refine ta 7 ?_;refine oA 8 25 HT_ (fun K hK=>?_);refine gA Tryz.func137 #[.agg #[.string (rd_T161 l0 x5).f0,.string (rd_T161 l0 x5).f1,.int .i64 (rd_T161 l0 x5).f2,.string (rd_T161 l0 x5).f3,.int .i64 (rd_T161 l0 x5).f4,.int .i64 (rd_T161 l0 x5).f5,.int .i64 (rd_T161 l0 x5).f6,.int .i64 (rd_T161 l0 x5).f7],.agg #[.string (rd_T161 l1 x5).f0,.string (rd_T161 l1 x5).f1,.int .i64 (rd_T161 l1 x5).f2,.string (rd_T161 l1 x5).f3,.int .i64 (rd_T161 l1 x5).f4,.int .i64 (rd_T161 l1 x5).f5,.int .i64 (rd_T161 l1 x5).f6,.int .i64 (rd_T161 l1 x5).f7]] ?_;(with_reducible refine (laws_eqOrderLine.calls ((rd_T161 l0 x5).f0) ((rd_T161 l0 x5).f1) ((rd_T161 l0 x5).f2) ((rd_T161 l0 x5).f3) ((rd_T161 l0 x5).f4) ((rd_T161 l0 x5).f5) ((rd_T161 l0 x5).f6) ((rd_T161 l0 x5).f7) ((rd_T161 l1 x5).f0) ((rd_T161 l1 x5).f1) ((rd_T161 l1 x5).f2) ((rd_T161 l1 x5).f3) ((rd_T161 l1 x5).f4) ((rd_T161 l1 x5).f5) ((rd_T161 l1 x5).f6) ((rd_T161 l1 x5).f7) t _ A7.out).mono ?_);rintro e wb ⟨rfl,hb⟩;refine ⟨_,rfl,?_⟩;replace HB:=bq HB hb;clear hb;refine hK.out _ _ (hca (cb HB G0.out) (hca (cb HB G1.out) (hca (cb HB G2.out) (hca (cb HB G3.out) (hca (cb HB G4.out) (hca (cb HB G5.out) (hca (cb HB G6.out) (hca (cb HB G7.out) (hca (cb HB J0.out) (hca (cb HB J1.out) (hca (cb HB J2.out) (hca (cb HB J3.out) (hca (cb HB J4.out) (hca (cb HB J5.out) (hca (cb HB J6.out) (hc (cb HB J7.out))))))))))))))))).out (fun hHeld=>?_);clear hK K;refine nA 25 ?_;refine pz1 9 ?_;refine done_ (done_of HT_.out (by kernel_rfl)) ?_;clear HT_ HW_ hHeld
    obtain rfl|rfl:=bt t;rotate_left
    ·replace H:=itF H;cases H
    replace H:=itT H;have H':=am H;clear H
    try go_wp2
    go_roundg k1
    case measure=>have:=HK1.out;omega
    case rel=>exact ⟨wrap64 (x5+1),fg,H',⟨by have:=HK1.out;omega⟩,⟨bs HB⟩⟩
   ·intro c4b0 H;obtain rfl:=si H
    go_wp2
    go_ret
    exact ⟨ff,bs HB⟩
end Go.Proofs.YtomoflpgdbjojaaGreat.QO
