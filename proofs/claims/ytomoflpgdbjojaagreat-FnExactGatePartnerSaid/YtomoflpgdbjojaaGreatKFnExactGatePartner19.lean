-- Merged by a program of this session (wip/tool/pack.py) out of its own texts for this claim.
import Derived.Lib.SliceRun
import Derived.Test.YtomoflpgdbjojaaGreatKFnExactGatePartner18
set_option maxHeartbeats 8000000
set_option maxRecDepth 100000
set_option linter.unusedSimpArgs false
set_option linter.unusedVariables false
namespace Go.Proofs.YtomoflpgdbjojaaGreat.QO
open Go.RowKit Go.Proofs.YtomoflpgdbjojaaGreatW.PrintWords Go.Proofs.YtomoflpgdbjojaaGreatW.PrintLast Go.Proofs.YtomoflpgdbjojaaGreatW.PrintMore
attribute [local go_sem] max2_int min2_int max_two min_two max_three min_three max_four min_four   -- for this text's walks alone
theorem slices_Clone_implOut.calls (A0:Option Addr) (c0:Nat) (l0:List S120) (r:List S120) (w:World) (hr0:Kd.C k120 w A0 l0.length l0) (hc0:l0.length≤c0) (h:slices_Clone_implOut.f l0=some r) :
  Calls Tryz.prog 81 #[.slice A0 l0.length c0] w fun e w'=>∃ v0_:Value,e=.returned (v0_)∧Kd.R k120 120 w' w.heap.size (fun _=>True) v0_ r∧Below w.heap.size w w':=by
 unfold slices_Clone_implOut.f at h
 by_cases hl:l0.length<2513169434916
 ·rw [if_pos hl] at h
  obtain rfl:=Option.some.inj h
  cases A0 with
  | none =>
   have h0:l0.length=0:=by
    by_cases g:0<l0.length
    ·obtain ⟨ad,e,_⟩:=hr0.2.2 g
     cases e
    ·omega
   obtain rfl:l0=[]:=List.eq_nil_of_length_eq_zero h0;clear hr0 hl h h0
   have hq:∀ W,(binOp .eql 40 (.slice none 0 c0) (.slice none 0 0)).run Tryz.prog W=.ok (.bool true) W:=fun W=>Lib.run_eql_slice_nil W _ _ none _ _ _ _ Tryz.underlying40
   simp only [List.length_nil]
   go_in
   go_wp2
   go_ret
   exact ⟨_,rfl,Kd.R_nil _ _ _ _ _,Below.refl _ _⟩
  | some a0 =>
   have HB:=am (Below.refl w.heap.size w);have HR0:=am hr0;have HL:=am hl;clear hr0 hl h hc0
   have hq:∀ W,(binOp .eql 40 (.slice (some a0) l0.length c0) (.slice none 0 0)).run Tryz.prog W=.ok (.bool false) W:=fun W=>Lib.run_eql_slice_nil W _ _ (some a0) _ _ _ _ Tryz.underlying40
   go_in
   go_wp2_with (first|((with_reducible refine gate_dst (N:=5) rfl ?_);refine rl k120 120 (N:=5) (xs:=([]:List S120)) (inner:=[]) ?hp ?_;(case hp=>exact (Reps.none _ _));intro v1 w5 ho6 hb hg_ hnew_;clear hg_ hnew_;have HO1:=am (Kd.R_lower ho6 (below_size (bs HB)));replace HB:=bq HB hb;clear hb ho6)|((with_reducible refine gate_builtin (b:=.append) (xs:=#[.tmp 5,.tmp 6]) rfl ?_);at_builtin;refine Kd.R_append_rows k120 (w0:=w) w.heap.size rfl (.tmp 5) (.tmp 6) 40 120 ((.agg #[(.string ⟨#[]⟩),(.int .i64 0),(.string ⟨#[]⟩),(.int .i64 0),(.int .i64 0)])) 56 rfl Tryz.underlying40 info120 rfl (by decide) (by omega) v1 [] l0 _ _ _ (fun _=>True) (fun _=>False) rfl rfl ?aO ?aR (fun _ _ h=>h) (fun _ h=>h.elim) ?aF ?aB ?aS ?aL ?_;(case aR=>repeat (first|exact (Kd.C_below HR0.out HB.out)|(with_reducible refine Kd.C_alloc ?_ _)|(with_reducible refine Kd.C_drewN ?_ _)|(with_reducible refine Kd.C_drew ?_)));(case aB=>exact (bs HB));(case aF=>exact (fun _ _=>trivial));(case aO=>exact (rs HO1));(case aS=>exact (below_size (bs HB)));(case aL=>have:=HL.out;simp only [List.length_nil];omega);intro v2 w6 ho hb hg hat;have HO2:=am ho;replace HB:=am hb;clear ho hb hg hat HO1))
   go_ret
   exact ⟨_,rfl,by (with_reducible repeat (first|apply Kd.R_alloc|apply Kd.R_drewN|apply Kd.R_drew));exact HO2.out,bs HB⟩
 ·rw [if_neg hl] at h
  cases h
theorem impl_ownGate.calls (k:Nat) (a0_0:ByteArray) (a0_1:Int) (A0_2:Option Addr) (c0_2:Nat) (l0_2:List (S83)) (A0_3:Option Addr) (c0_3:Nat) (l0_3:List (S114)) (A0_4:Option Addr) (c0_4:Nat) (l0_4:List (S152)) (A0_5:Option Addr) (c0_5:Nat) (l0_5:List (S161)) (A0_6:Option Addr) (c0_6:Nat) (l0_6:List (S118)) (A0_7:Option Addr) (c0_7:Nat) (l0_7:List (S120)) (r1:ByteArray) (r2:Int) (r3:List (S83)) (r4:List (S114)) (r5:List (S152)) (r6:List (S161)) (r7:List (S118)) (r8:List (S120)) (w:World) (hr0_2:Kd.C k83 w A0_2 l0_2.length l0_2) (hc0_2:l0_2.length≤c0_2) (hr0_3:Kd.C k114 w A0_3 l0_3.length l0_3) (hc0_3:l0_3.length≤c0_3) (hr0_4:Kd.C k152 w A0_4 l0_4.length l0_4) (hc0_4:l0_4.length≤c0_4) (hr0_5:Kd.C k161 w A0_5 l0_5.length l0_5) (hc0_5:l0_5.length≤c0_5) (hr0_6:Kd.C k118 w A0_6 l0_6.length l0_6) (hc0_6:l0_6.length≤c0_6) (hr0_7:Kd.C k120 w A0_7 l0_7.length l0_7) (hc0_7:l0_7.length≤c0_7) (H:impl_ownGate.f k a0_0 a0_1 l0_2 l0_3 l0_4 l0_5 l0_6 l0_7=some (r1,r2,r3,r4,r5,r6,r7,r8)) :
  Calls Tryz.prog 30 #[.agg #[.string a0_0,.int .i64 a0_1,.slice A0_2 l0_2.length c0_2,.slice A0_3 l0_3.length c0_3,.slice A0_4 l0_4.length c0_4,.slice A0_5 l0_5.length c0_5,.slice A0_6 l0_6.length c0_6,.slice A0_7 l0_7.length c0_7]] w fun e w'=>∃ v2_ v3_ v4_ v5_ v6_ v7_:Value,e=.returned (.agg #[.string r1,.int .i64 r2,v2_,v3_,v4_,v5_,v6_,v7_])∧Kd.S k83 83 w' w.heap.size (fun _=>True) v2_ r3∧Kd.R k114 114 w' w.heap.size (fun _=>True) v3_ r4∧Kd.R k152 152 w' w.heap.size (fun _=>True) v4_ r5∧Kd.R k161 161 w' w.heap.size (fun _=>True) v5_ r6∧Kd.R k118 118 w' w.heap.size (fun _=>True) v6_ r7∧Kd.R k120 120 w' w.heap.size (fun _=>True) v7_ r8∧Below w.heap.size w w':=by
 have hu42:=Tryz.underlying42;have hu83:=Tryz.underlying83;have hu38:=Tryz.underlying38;have HR0_2:=am hr0_2;have HC0_2:=am hc0_2;clear hr0_2 hc0_2;have HR0_3:=am hr0_3;have HC0_3:=am hc0_3;clear hr0_3 hc0_3;have HR0_4:=am hr0_4;have HC0_4:=am hc0_4;clear hr0_4 hc0_4;have HR0_5:=am hr0_5;have HC0_5:=am hc0_5;clear hr0_5 hc0_5;have HR0_6:=am hr0_6;have HC0_6:=am hc0_6;clear hr0_6 hc0_6;have HR0_7:=am hr0_7;have HC0_7:=am hc0_7;clear hr0_7 hc0_7;have HB:=am (Below.refl w.heap.size w);unfold impl_ownGate.f at H;obtain ⟨y52,hy52⟩:∃ y_:List (S83),y_=(([]:List (S83))):=⟨_,rfl⟩
 replace H:(impl_ownGate.l0 k y52 l0_2 (l0_2.length:Int) 0 a0_0 a0_1 l0_2 l0_3 l0_4 l0_5 l0_6 l0_7)=some (r1,r2,r3,r4,r5,r6,r7,r8):=ye hy52 H
 have Ny52:=am hy52;clear hy52;have H':=am H;clear H
 go_in
 go_wp2_with (first|((with_reducible refine gate_dst (N:=1) rfl ?_);refine bz 1 (cs:=#[.string a0_0,.int .i64 a0_1,.slice A0_2 l0_2.length c0_2,.slice A0_3 l0_3.length c0_3,.slice A0_4 l0_4.length c0_4,.slice A0_5 l0_5.length c0_5,.slice A0_6 l0_6.length c0_6,.slice A0_7 l0_7.length c0_7]) (t:=42) HB ?_;clear HB;intro gb41 hg w2 BK41 GW41 hb HB;clear hb hg)|((with_reducible refine gate_dst (N:=2) rfl ?_);refine bz 2 (cs:=#[.string (⟨#[]⟩:ByteArray),.int .i64 0,.slice none 0 0,.slice none 0 0,.slice none 0 0,.slice none 0 0,.slice none 0 0,.slice none 0 0]) (t:=42) HB ?_;clear HB;intro gb43 hg w3 BK43 GW43 hb HB;have NB41_43:=na hg BK41;have NB43_41:=nc hg BK41;replace BK41:=bb BK41 hb;clear hb hg)|((with_reducible refine gate_dst (N:=6) rfl ?_);refine Kd.S_lit k83 _ 83 ?hg (N:=6) ?hd (xs:=([]:List (S83))) (inner:=[]) (ok:=fun _=>True) (okp:=fun _=>True) ?hr ?hp (fun _ hk=>hk) trivial (Below.refl _ _) (Nat.le_refl _) (by simp) ?_;(case hd=>rfl);(case hg=>rfl);(case hr=>first|(go_simp;done)|(go_simp;rfl));(case hp=>exact (Reps.none _ _));intro v73 w4 ho5 hb hg_ hnew_;clear hg_ hnew_;(first|rw [← Ny52.out] at ho5|(simp only [Int.reduceToNat] at ho5;rw [← Ny52.out] at ho5));have HO65:=am (Kd.S_lower ho5 (below_size (bs HB)));replace BK41:=bb BK41 hb;replace BK43:=bb BK43 hb;replace HB:=bq HB hb;clear hb ho5;have hnb6:=NB41_43.out;have hnc6:=NB43_41.out;have hcz7:=cf8 BK41))
 go_loopg [3,10] k (fun kq v3 v10 w'=>∃ (x3_1:List (S83)) (x10_1:Int),v10=.int .i64 x10_1∧Aside0 (impl_ownGate.l0 kq x3_1 l0_2 (l0_2.length:Int) x10_1 a0_0 a0_1 l0_2 l0_3 l0_4 l0_5 l0_6 l0_7=some (r1,r2,r3,r4,r5,r6,r7,r8))∧Aside0 (kq≤k)∧Aside0 (Kd.S k83 83 w' w.heap.size (fun _=>True) v3 x3_1)∧Aside0 (w'.heap[gb41]? = some (.cells #[.string a0_0,.int .i64 a0_1,(.slice A0_2 l0_2.length c0_2),(.slice A0_3 l0_3.length c0_3),(.slice A0_4 l0_4.length c0_4),(.slice A0_5 l0_5.length c0_5),(.slice A0_6 l0_6.length c0_6),(.slice A0_7 l0_7.length c0_7)] 42 (0,0)))∧Aside0 (w'.heap[gb43]? = some (.cells #[.string (⟨#[]⟩:ByteArray),.int .i64 0,(.slice none 0 0),(.slice none 0 0),(.slice none 0 0),(.slice none 0 0),(.slice none 0 0),(.slice none 0 0)] 42 (0,0)))∧Aside0 (Below w.heap.size w w'))
 case atStart=>exact ⟨(y52),(0),fg,H',⟨Nat.le_refl _⟩,⟨by (with_reducible repeat (first|apply Kd.S_alloc|apply Kd.S_drewN|apply Kd.S_drew));exact HO65.out⟩,⟨ks BK41⟩,⟨ks BK43⟩,⟨bs HB⟩⟩
 case round =>
  clear H'
  try clear hcz7
  try clear BK41
  try clear BK43
  obtain ⟨x3_1,x10_1,rfl,HA,HK1,HO_3,BK41,BK43,HB⟩:=hrel
  cases gk with
  | zero=>exact absurd HA.out (by simp [impl_ownGate.l0])
  | succ k1 =>
   have H:=HA.out;clear HA;simp only [impl_ownGate.l0] at H
   revert H;refine id2 ?_ ?_
   ·intro c8b0 H
    revert H;refine id1 ?_
    intro c9b0 H
    revert H;refine id1 ?_
    intro c10b0 H;replace H:=bo H;obtain ⟨⟨t58,t59,t60,t57⟩,A11,H⟩:=H;(try dsimp only at H)
    revert H;refine ip1 ?_
    intro c12 H;have LMc12:=am c12;clear c12;obtain ⟨y53,hy53⟩:∃ y_:List (S83),y_=(x3_1++[(⟨t58,t59,t60,t57⟩:S83)]):=⟨_,rfl⟩
    replace H:(impl_ownGate.l0 k1 y53 l0_2 (l0_2.length:Int) (wrap64 (x10_1+1)) a0_0 a0_1 l0_2 l0_3 l0_4 l0_5 l0_6 l0_7)=some (r1,r2,r3,r4,r5,r6,r7,r8):=ye hy53 H
    have Ny53:=am hy53;clear hy53;have H':=am H;clear H;have p44:0≤(x10_1:Int):=oa;have q44:x10_1<(l0_2.length:Int):=oa;obtain ⟨ad44,A44_3,c44_3,e44,hx44_0,hx44_1,hx44_2,hx44_3,hl44_3,hi44_3⟩:=at_T83 HR0_2.out x10_1 p44 q44
    cases e44
    replace hx44_0:=cb HB hx44_0;replace hx44_1:=cb HB hx44_1;replace hx44_2:=cb HB hx44_2;replace hx44_3:=cb HB hx44_3;have HR44_3:=am hi44_3;have HC44_3:=am hl44_3;clear hi44_3 hl44_3;replace p44:=eq_true p44;replace q44:=eq_true q44
    go_wp2_with (first|((with_reducible refine gate_dst (N:=5) rfl ?_);refine bx 5 (cs:=#[.string (⟨#[]⟩:ByteArray),.int .i64 0,.int .i64 0,.slice none 0 0]) (t:=83) ?_;intro gb45 hg w13 hbox hb;have n0_:=am (Kd.S_below (Kd.S_elderB (by (with_reducible repeat (first|apply Kd.S_alloc|apply Kd.S_drewN|apply Kd.S_drew));exact HO_3.out) gb45 (Nat.le_of_eq hg.symm)) hb);have n1_:=am (blk_below (ks BK41) hb);have n2_:=am (blk_below (ks BK43) hb);have n3_:=am (below_step (bs HB) hb);have n4_:=am (hbox);have n5_:=am ((gs hg (bs HB)));have n6_:=am ((gs hg (bs HB)));have n7_:=am ((gn hg (ks BK41)));have n8_:=am ((gm hg (ks BK41)));have n9_:=am ((gn hg (ks BK43)));have n10_:=am ((gm hg (ks BK43)));clear HO_3;clear BK41;clear BK43;clear HB;have HO_3:=n0_;have BK41:=n1_;have BK43:=n2_;have HB:=n3_;have BK45:=n4_;have GW45:=n5_;have GE45:=n6_;have NB41_45:=n7_;have NB45_41:=n8_;have NB43_45:=n9_;have NB45_43:=n10_;clear n0_ n1_ n2_ n3_ n4_ n5_ n6_ n7_ n8_ n9_ n10_;clear hb hbox hg;have hnb14:=NB45_41.out;have hnc14:=NB41_45.out;have hnb15:=NB45_43.out;have hnc15:=NB43_45.out;have hcz16_0:w13.cell? ⟨gb45,0,none⟩=some (.string (⟨#[]⟩:ByteArray)):=(blk_cell BK45.out 0).trans rfl;have hcz16_1:w13.cell? ⟨gb45,1,none⟩=some (.int .i64 0):=(blk_cell BK45.out 1).trans rfl;have hcz16_2:w13.cell? ⟨gb45,2,none⟩=some (.int .i64 0):=(blk_cell BK45.out 2).trans rfl;have hcz16_3:w13.cell? ⟨gb45,3,none⟩=some (.slice none 0 0):=(blk_cell BK45.out 3).trans rfl;have hfz16_0:=blk_frozen BK45.out 0;have hfz16_1:=blk_frozen BK45.out 1;have hfz16_2:=blk_frozen BK45.out 2;have hfz16_3:=blk_frozen BK45.out 3)|((first|((with_reducible refine gate_callee (f:=77) rfl ?_);refine goesL_ (some 16) rfl rfl Tryz.func77 (by kernel_rfl) rfl #[.agg #[.string ((rd_T83 l0_2 x10_1).f0),.int .i64 ((rd_T83 l0_2 x10_1).f1),.int .i64 ((rd_T83 l0_2 x10_1).f2),.slice A44_3 ((rd_T83 l0_2 x10_1).f3).length c44_3]] rfl (by (try simp only [List.map_toArray,List.map_cons,List.map_nil]);first|done|rfl|(simp only [List.length_drop,List.length_take];rfl)) ?_;(with_reducible refine (impl_ownPartner.calls ((rd_T83 l0_2 x10_1).f0) ((rd_T83 l0_2 x10_1).f1) ((rd_T83 l0_2 x10_1).f2) _ _ ((rd_T83 l0_2 x10_1).f3) t58 t59 t60 t57 _ ?side1 HC44_3.out A11.out).mono ?_);(case side1=>exact Kd.C_below HR44_3.out (bs HB));rintro e w17 ⟨v66,rfl,ho0,hb⟩;refine ⟨_,rfl,?_⟩)|(go_at_call 77;(with_reducible refine (impl_ownPartner.calls ((rd_T83 l0_2 x10_1).f0) ((rd_T83 l0_2 x10_1).f1) ((rd_T83 l0_2 x10_1).f2) _ _ ((rd_T83 l0_2 x10_1).f3) t58 t59 t60 t57 _ ?side1 HC44_3.out A11.out).mono ?_);(case side1=>exact Kd.C_below HR44_3.out (bs HB));rintro e w17 ⟨v66,rfl,ho0,hb⟩));have n0_:=am (Kd.S_elder' (by (with_reducible repeat (first|apply Kd.S_alloc|apply Kd.S_drewN|apply Kd.S_drew));exact (Kd.S_mono (Kd.S_far (p:=⟨gb45,3,none⟩) (Kd.S_far (p:=⟨gb45,2,none⟩) (Kd.S_far (p:=⟨gb45,1,none⟩) (Kd.S_far (p:=⟨gb45,0,none⟩) (Kd.S_mono HO_3.out (fun k_ hk=>(⟨hk,hk.2⟩:_∧k_≠gb45))) (fun _ hk=>hk.2) (.string ((rd_T83 l0_2 x10_1).f0))) (fun _ hk=>hk.2) (.int .i64 ((rd_T83 l0_2 x10_1).f1))) (fun _ hk=>hk.2) (.int .i64 ((rd_T83 l0_2 x10_1).f2))) (fun _ hk=>hk.2) (.slice A44_3 ((rd_T83 l0_2 x10_1).f3).length c44_3)) (fun _ h_=>h_.1))) (Kd.R_base ho0) hb);have n1_:=am (Kd.R_lower ho0 (below_size (bs HB)));have n2_:=am (blk_below (ks BK41) hb);have n3_:=am (blk_below (ks BK43) hb);have n4_:=am (blk_below (g:=gb45) (o:=.cells #[.string ((rd_T83 l0_2 x10_1).f0),.int .i64 ((rd_T83 l0_2 x10_1).f1),.int .i64 ((rd_T83 l0_2 x10_1).f2),.slice A44_3 ((rd_T83 l0_2 x10_1).f3).length c44_3] 83 (0,0)) (kp BK45) hb);have n5_:=am (below_step (bs HB) hb);clear HO_3;clear BK41;clear BK43;clear BK45;clear HB;have HO_3:=n0_;have HO62:=n1_;have BK41:=n2_;have BK43:=n3_;have BK45:=n4_;have HB:=n5_;clear n0_ n1_ n2_ n3_ n4_ n5_;(try clear hb);(try clear hb2);(try clear hk);(try clear hi);(try clear ho0);obtain ⟨Ao19,co19,eo19⟩:=Kd.R_slice HO62.out;subst eo19)|((with_reducible refine gate_builtin (b:=.append) (xs:=#[.tmp 14,.tmp 17]) rfl ?_);at_builtin;refine Kd.S_append k83 (w0:=w) w.heap.size rfl (.tmp 14) (.tmp 17) 33 83 (.agg #[(.string ⟨#[]⟩),(.int .i64 0),(.int .i64 0),(.slice none 0 0)]) 56 rfl Tryz.underlying33 info83 rfl (by decide) (by omega) u3 x3_1 (⟨t58,t59,t60,t57⟩:S83) [.string t58,.int .i64 t59,.int .i64 t60,.slice Ao19 t57.length co19] (fun k_=>k_≠gb45) (fun k_=>some k_=(.slice Ao19 t57.length co19:Value).ownBlock) rfl rfl ?aP (fun k_ hk_=>((Kd.R_mono (ok':=fun k_=>((fun k_=>k_≠gb45)) k_∧some k_≠(u3:Value).ownBlock) (Kd.R_types (Kd.R_apart' (HO62.out) (Kd.S_typed HO_3.out) (by decide)) BK45.out (by decide)) (fun k_ hk=>⟨hk.2,hk.1.2⟩))).1 k_ hk_.symm) ?aF ?aO ?aB ?aS ?aL ?_;(case aP=>exact k83_mkM _ _ _ (⟨t58,t59,t60,t57⟩:S83) (Kd.R_mono (Kd.R_tight rfl (Kd.R_mono (ok':=fun k_=>((fun k_=>k_≠gb45)) k_∧some k_≠(u3:Value).ownBlock) (Kd.R_types (Kd.R_apart' (HO62.out) (Kd.S_typed HO_3.out) (by decide)) BK45.out (by decide)) (fun k_ hk=>⟨hk.2,hk.1.2⟩))) (fun _ h_=>h_)));(case aB=>exact (bs HB));(case aF=>exact (fun k_ hk=>Kd.freshB (g:=gb45) (o:=.cells #[.string ((rd_T83 l0_2 x10_1).f0),.int .i64 ((rd_T83 l0_2 x10_1).f1),.int .i64 ((rd_T83 l0_2 x10_1).f2),.slice A44_3 ((rd_T83 l0_2 x10_1).f3).length c44_3] 83 (0,0)) (ks BK45) k_ hk));(case aO=>exact (by (with_reducible repeat (first|apply Kd.S_alloc|apply Kd.S_drewN|apply Kd.S_drew));exact Kd.S_mono HO_3.out (fun k_ hk=>⟨hk.1.2,fun e_=>hk.2 e_⟩)));(case aS=>exact (below_size (bs HB)));(case aL=>have:=LMc12.out;omega);intro v74 w18 ho hb hg hat;rw [← Ny53.out] at ho;have n0_:=am (blk_grown (ks BK41) hg (Kd.S_ne HO_3.out BK41.out (by decide)));have n1_:=am (blk_grown (ks BK43) hg (Kd.S_ne HO_3.out BK43.out (by decide)));have n2_:=am (blk_grown (ks BK45) hg (Kd.S_away HO_3.out (fun _ hk=>hk.1.2)));have n3_:=am (hb);have n4_:=am (ho);clear BK41;clear BK43;clear BK45;clear HB;clear HO_3;clear HO62;have BK41:=n0_;have BK43:=n1_;have BK45:=n2_;have HB:=n3_;have HO67:=n4_;clear n0_ n1_ n2_ n3_ n4_;clear ho hb hg hat))
    go_roundg k1
    case measure=>have:=HK1.out;omega
    case rel=>exact ⟨(y53),(wrap64 (x10_1+1)),fg,H',⟨by have:=HK1.out;omega⟩,⟨by (with_reducible repeat (first|apply Kd.S_alloc|apply Kd.S_drewN|apply Kd.S_drew));exact Kd.S_mono HO67.out (fun _ hk=>trivial)⟩,⟨ks BK41⟩,⟨ks BK43⟩,⟨bs HB⟩⟩
   ·intro c8b0 H;replace H:=bo H;obtain ⟨t47,A20,H⟩:=H;replace H:=bo H;obtain ⟨⟨t48,t49⟩,A21,H⟩:=H;(try dsimp only at H);replace H:=bo H;obtain ⟨t50,A22,H⟩:=H;replace H:=bo H;obtain ⟨t46,A23,H⟩:=H;replace H:=sj8 H;obtain ⟨rfl,rfl,rfl,rfl,rfl,rfl,rfl,rfl⟩:=H;obtain ⟨Ao24,co24,eo24⟩:=Kd.S_slice HO_3.out;subst eo24;have hnb25:=NB41_43.out;have hnc25:=NB43_41.out;have hcz26:=cf8 BK41
    go_wp2_with (first|((first|((with_reducible refine gate_callee (f:=78) rfl ?_);refine goesL_ (some 24) rfl rfl Tryz.func78 (by kernel_rfl) rfl #[.slice A0_3 l0_3.length c0_3] rfl (by (try simp only [List.map_toArray,List.map_cons,List.map_nil]);first|done|rfl|(simp only [List.length_drop,List.length_take];rfl)) ?_;(with_reducible refine (slices_Clone_implCross.calls _ _ l0_3 t47 _ ?side1 HC0_3.out A20.out).mono ?_);(case side1=>exact Kd.C_below HR0_3.out (bs HB));rintro e w27 ⟨v68,rfl,ho0,hb⟩;refine ⟨_,rfl,?_⟩)|(go_at_call 78;(with_reducible refine (slices_Clone_implCross.calls _ _ l0_3 t47 _ ?side1 HC0_3.out A20.out).mono ?_);(case side1=>exact Kd.C_below HR0_3.out (bs HB));rintro e w27 ⟨v68,rfl,ho0,hb⟩));have n0_:=am (Kd.S_below (by (with_reducible repeat (first|apply Kd.S_alloc|apply Kd.S_drewN|apply Kd.S_drew));exact (Kd.S_mono (Kd.S_far (p:=⟨gb41,2,none⟩) (Kd.S_types HO_3.out BK41.out (by decide)) (fun _ hk=>hk.2) (.slice Ao24 x3_1.length co24)) (fun _ h_=>h_.1))) hb);have n1_:=am (Kd.R_lower ho0 (below_size (bs HB)));have n2_:=am (blk_below (g:=gb41) (o:=.cells #[.string a0_0,.int .i64 a0_1,.slice Ao24 x3_1.length co24,.slice A0_3 l0_3.length c0_3,.slice A0_4 l0_4.length c0_4,.slice A0_5 l0_5.length c0_5,.slice A0_6 l0_6.length c0_6,.slice A0_7 l0_7.length c0_7] 42 (0,0)) (kp BK41) hb);have n3_:=am (blk_below (ks BK43) hb);have n4_:=am (below_step (bs HB) hb);clear HO_3;clear BK41;clear BK43;clear HB;have HO_3:=n0_;have HO51:=n1_;have BK41:=n2_;have BK43:=n3_;have HB:=n4_;clear n0_ n1_ n2_ n3_ n4_;(try clear hb);(try clear hb2);(try clear hk);(try clear hi);(try clear ho0);obtain ⟨Ao28,co28,eo28⟩:=Kd.R_slice HO51.out;subst eo28;have hcz29_0:w27.cell? ⟨gb41,0,none⟩=some (.string a0_0):=(blk_cell BK41.out 0).trans rfl;have hcz29_1:w27.cell? ⟨gb41,1,none⟩=some (.int .i64 a0_1):=(blk_cell BK41.out 1).trans rfl;have hcz29_2:w27.cell? ⟨gb41,2,none⟩=some (.slice Ao24 x3_1.length co24):=(blk_cell BK41.out 2).trans rfl;have hcz29_3:w27.cell? ⟨gb41,3,none⟩=some (.slice A0_3 l0_3.length c0_3):=(blk_cell BK41.out 3).trans rfl;have hcz29_4:w27.cell? ⟨gb41,4,none⟩=some (.slice A0_4 l0_4.length c0_4):=(blk_cell BK41.out 4).trans rfl;have hcz29_5:w27.cell? ⟨gb41,5,none⟩=some (.slice A0_5 l0_5.length c0_5):=(blk_cell BK41.out 5).trans rfl;have hcz29_6:w27.cell? ⟨gb41,6,none⟩=some (.slice A0_6 l0_6.length c0_6):=(blk_cell BK41.out 6).trans rfl;have hcz29_7:w27.cell? ⟨gb41,7,none⟩=some (.slice A0_7 l0_7.length c0_7):=(blk_cell BK41.out 7).trans rfl;have hfz29_0:=blk_frozen BK41.out 0;have hfz29_1:=blk_frozen BK41.out 1;have hfz29_2:=blk_frozen BK41.out 2;have hfz29_3:=blk_frozen BK41.out 3;have hfz29_4:=blk_frozen BK41.out 4;have hfz29_5:=blk_frozen BK41.out 5;have hfz29_6:=blk_frozen BK41.out 6;have hfz29_7:=blk_frozen BK41.out 7)|((first|((with_reducible refine gate_callee (f:=79) rfl ?_);refine goesL_ (some 28) rfl rfl Tryz.func79 (by kernel_rfl) rfl #[.agg #[.slice A0_4 l0_4.length c0_4,.slice A0_5 l0_5.length c0_5]] rfl (by (try simp only [List.map_toArray,List.map_cons,List.map_nil]);first|done|rfl|(simp only [List.length_drop,List.length_take];rfl)) ?_;(with_reducible refine (impl_ownBook.calls _ _ l0_4 _ _ l0_5 t48 t49 _ ?side1 HC0_4.out ?side3 HC0_5.out A21.out).mono ?_);(case side1=>exact Kd.C_below HR0_4.out (bs HB));(case side3=>exact Kd.C_below HR0_5.out (bs HB));rintro e w30 ⟨v69,v70,rfl,ho0,ho1,hb⟩;refine ⟨_,rfl,?_⟩)|(go_at_call 79;(with_reducible refine (impl_ownBook.calls _ _ l0_4 _ _ l0_5 t48 t49 _ ?side1 HC0_4.out ?side3 HC0_5.out A21.out).mono ?_);(case side1=>exact Kd.C_below HR0_4.out (bs HB));(case side3=>exact Kd.C_below HR0_5.out (bs HB));rintro e w30 ⟨v69,v70,rfl,ho0,ho1,hb⟩));have n0_:=am (Kd.S_below (by (with_reducible repeat (first|apply Kd.S_alloc|apply Kd.S_drewN|apply Kd.S_drew));exact (Kd.S_mono (Kd.S_far (p:=⟨gb41,3,none⟩) (Kd.S_types HO_3.out BK41.out (by decide)) (fun _ hk=>hk.2) (.slice Ao28 t47.length co28)) (fun _ h_=>h_.1))) hb);have n1_:=am (Kd.R_below (by (with_reducible repeat (first|apply Kd.R_alloc|apply Kd.R_drewN|apply Kd.R_drew));exact (Kd.R_mono (rf (Kd.R_types HO51.out BK41.out (by decide))) (fun _ h_=>h_.1))) hb);have n2_:=am (Kd.R_lower ho0 (below_size (bs HB)));have n3_:=am (Kd.R_lower ho1 (below_size (bs HB)));have n4_:=am (blk_below (g:=gb41) (o:=.cells #[.string a0_0,.int .i64 a0_1,.slice Ao24 x3_1.length co24,.slice Ao28 t47.length co28,.slice A0_4 l0_4.length c0_4,.slice A0_5 l0_5.length c0_5,.slice A0_6 l0_6.length c0_6,.slice A0_7 l0_7.length c0_7] 42 (0,0)) (kp BK41) hb);have n5_:=am (blk_below (ks BK43) hb);have n6_:=am (below_step (bs HB) hb);clear HO_3;clear HO51;clear BK41;clear BK43;clear HB;have HO_3:=n0_;have HO51:=n1_;have HO54:=n2_;have HO55:=n3_;have BK41:=n4_;have BK43:=n5_;have HB:=n6_;clear n0_ n1_ n2_ n3_ n4_ n5_ n6_;(try clear hb);(try clear hb2);(try clear hk);(try clear hi);(try clear ho0);(try clear ho1);obtain ⟨Ao31,co31,eo31⟩:=Kd.R_slice HO54.out;subst eo31;have hcz32:=cf8 BK41;obtain ⟨Ao33,co33,eo33⟩:=Kd.R_slice HO55.out;subst eo33)|((first|((with_reducible refine gate_callee (f:=80) rfl ?_);refine goesL_ (some 32) rfl rfl Tryz.func80 (by kernel_rfl) rfl #[.slice A0_6 l0_6.length c0_6] rfl (by (try simp only [List.map_toArray,List.map_cons,List.map_nil]);first|done|rfl|(simp only [List.length_drop,List.length_take];rfl)) ?_;(with_reducible refine (slices_Clone_implDiff.calls _ _ l0_6 t50 _ ?side1 HC0_6.out A22.out).mono ?_);(case side1=>exact Kd.C_below HR0_6.out (bs HB));rintro e w34 ⟨v71,rfl,ho0,hb⟩;refine ⟨_,rfl,?_⟩)|(go_at_call 80;(with_reducible refine (slices_Clone_implDiff.calls _ _ l0_6 t50 _ ?side1 HC0_6.out A22.out).mono ?_);(case side1=>exact Kd.C_below HR0_6.out (bs HB));rintro e w34 ⟨v71,rfl,ho0,hb⟩));have n0_:=am (Kd.S_below (by (with_reducible repeat (first|apply Kd.S_alloc|apply Kd.S_drewN|apply Kd.S_drew));exact (Kd.S_mono (Kd.S_far (p:=⟨gb41,5,none⟩) (Kd.S_far (p:=⟨gb41,4,none⟩) (Kd.S_types HO_3.out BK41.out (by decide)) (fun _ hk=>hk.2) (.slice Ao31 t48.length co31)) (fun _ hk=>hk.2) (.slice Ao33 t49.length co33)) (fun _ h_=>h_.1))) hb);have n1_:=am (Kd.R_below (by (with_reducible repeat (first|apply Kd.R_alloc|apply Kd.R_drewN|apply Kd.R_drew));exact (Kd.R_mono (rf (Kd.R_types HO51.out BK41.out (by decide))) (fun _ h_=>h_.1))) hb);have n2_:=am (Kd.R_below (by (with_reducible repeat (first|apply Kd.R_alloc|apply Kd.R_drewN|apply Kd.R_drew));exact (Kd.R_mono (rf (Kd.R_types HO54.out BK41.out (by decide))) (fun _ h_=>h_.1))) hb);have n3_:=am (Kd.R_below (by (with_reducible repeat (first|apply Kd.R_alloc|apply Kd.R_drewN|apply Kd.R_drew));exact (Kd.R_mono (rf (Kd.R_types HO55.out BK41.out (by decide))) (fun _ h_=>h_.1))) hb);have n4_:=am (Kd.R_lower ho0 (below_size (bs HB)));have n5_:=am (blk_below (g:=gb41) (o:=.cells #[.string a0_0,.int .i64 a0_1,.slice Ao24 x3_1.length co24,.slice Ao28 t47.length co28,.slice Ao31 t48.length co31,.slice Ao33 t49.length co33,.slice A0_6 l0_6.length c0_6,.slice A0_7 l0_7.length c0_7] 42 (0,0)) (kp BK41) hb);have n6_:=am (blk_below (ks BK43) hb);have n7_:=am (below_step (bs HB) hb);clear HO_3;clear HO51;clear HO54;clear HO55;clear BK41;clear BK43;clear HB;have HO_3:=n0_;have HO51:=n1_;have HO54:=n2_;have HO55:=n3_;have HO61:=n4_;have BK41:=n5_;have BK43:=n6_;have HB:=n7_;clear n0_ n1_ n2_ n3_ n4_ n5_ n6_ n7_;(try clear hb);(try clear hb2);(try clear hk);(try clear hi);(try clear ho0);obtain ⟨Ao35,co35,eo35⟩:=Kd.R_slice HO61.out;subst eo35;have hcz36_0:w34.cell? ⟨gb41,0,none⟩=some (.string a0_0):=(blk_cell BK41.out 0).trans rfl;have hcz36_1:w34.cell? ⟨gb41,1,none⟩=some (.int .i64 a0_1):=(blk_cell BK41.out 1).trans rfl;have hcz36_2:w34.cell? ⟨gb41,2,none⟩=some (.slice Ao24 x3_1.length co24):=(blk_cell BK41.out 2).trans rfl;have hcz36_3:w34.cell? ⟨gb41,3,none⟩=some (.slice Ao28 t47.length co28):=(blk_cell BK41.out 3).trans rfl;have hcz36_4:w34.cell? ⟨gb41,4,none⟩=some (.slice Ao31 t48.length co31):=(blk_cell BK41.out 4).trans rfl;have hcz36_5:w34.cell? ⟨gb41,5,none⟩=some (.slice Ao33 t49.length co33):=(blk_cell BK41.out 5).trans rfl;have hcz36_6:w34.cell? ⟨gb41,6,none⟩=some (.slice A0_6 l0_6.length c0_6):=(blk_cell BK41.out 6).trans rfl;have hcz36_7:w34.cell? ⟨gb41,7,none⟩=some (.slice A0_7 l0_7.length c0_7):=(blk_cell BK41.out 7).trans rfl;have hfz36_0:=blk_frozen BK41.out 0;have hfz36_1:=blk_frozen BK41.out 1;have hfz36_2:=blk_frozen BK41.out 2;have hfz36_3:=blk_frozen BK41.out 3;have hfz36_4:=blk_frozen BK41.out 4;have hfz36_5:=blk_frozen BK41.out 5;have hfz36_6:=blk_frozen BK41.out 6;have hfz36_7:=blk_frozen BK41.out 7)|((first|((with_reducible refine gate_callee (f:=81) rfl ?_);refine goesL_ (some 36) rfl rfl Tryz.func81 (by kernel_rfl) rfl #[.slice A0_7 l0_7.length c0_7] rfl (by (try simp only [List.map_toArray,List.map_cons,List.map_nil]);first|done|rfl|(simp only [List.length_drop,List.length_take];rfl)) ?_;(with_reducible refine (slices_Clone_implOut.calls _ _ l0_7 t46 _ ?side1 HC0_7.out A23.out).mono ?_);(case side1=>exact Kd.C_below HR0_7.out (bs HB));rintro e w37 ⟨v72,rfl,ho0,hb⟩;refine ⟨_,rfl,?_⟩)|(go_at_call 81;(with_reducible refine (slices_Clone_implOut.calls _ _ l0_7 t46 _ ?side1 HC0_7.out A23.out).mono ?_);(case side1=>exact Kd.C_below HR0_7.out (bs HB));rintro e w37 ⟨v72,rfl,ho0,hb⟩));have n0_:=am (Kd.S_below (by (with_reducible repeat (first|apply Kd.S_alloc|apply Kd.S_drewN|apply Kd.S_drew));exact (Kd.S_mono (Kd.S_far (p:=⟨gb41,6,none⟩) (Kd.S_types HO_3.out BK41.out (by decide)) (fun _ hk=>hk.2) (.slice Ao35 t50.length co35)) (fun _ h_=>h_.1))) hb);have n1_:=am (Kd.R_below (by (with_reducible repeat (first|apply Kd.R_alloc|apply Kd.R_drewN|apply Kd.R_drew));exact (Kd.R_mono (rf (Kd.R_types HO51.out BK41.out (by decide))) (fun _ h_=>h_.1))) hb);have n2_:=am (Kd.R_below (by (with_reducible repeat (first|apply Kd.R_alloc|apply Kd.R_drewN|apply Kd.R_drew));exact (Kd.R_mono (rf (Kd.R_types HO54.out BK41.out (by decide))) (fun _ h_=>h_.1))) hb);have n3_:=am (Kd.R_below (by (with_reducible repeat (first|apply Kd.R_alloc|apply Kd.R_drewN|apply Kd.R_drew));exact (Kd.R_mono (rf (Kd.R_types HO55.out BK41.out (by decide))) (fun _ h_=>h_.1))) hb);have n4_:=am (Kd.R_below (by (with_reducible repeat (first|apply Kd.R_alloc|apply Kd.R_drewN|apply Kd.R_drew));exact (Kd.R_mono (rf (Kd.R_types HO61.out BK41.out (by decide))) (fun _ h_=>h_.1))) hb);have n5_:=am (Kd.R_lower ho0 (below_size (bs HB)));have n6_:=am (blk_below (g:=gb41) (o:=.cells #[.string a0_0,.int .i64 a0_1,.slice Ao24 x3_1.length co24,.slice Ao28 t47.length co28,.slice Ao31 t48.length co31,.slice Ao33 t49.length co33,.slice Ao35 t50.length co35,.slice A0_7 l0_7.length c0_7] 42 (0,0)) (kp BK41) hb);have n7_:=am (blk_below (ks BK43) hb);have n8_:=am (below_step (bs HB) hb);clear HO_3;clear HO51;clear HO54;clear HO55;clear HO61;clear BK41;clear BK43;clear HB;have HO_3:=n0_;have HO51:=n1_;have HO54:=n2_;have HO55:=n3_;have HO61:=n4_;have HO63:=n5_;have BK41:=n6_;have BK43:=n7_;have HB:=n8_;clear n0_ n1_ n2_ n3_ n4_ n5_ n6_ n7_ n8_;(try clear hb);(try clear hb2);(try clear hk);(try clear hi);(try clear ho0);obtain ⟨Ao38,co38,eo38⟩:=Kd.R_slice HO63.out;subst eo38;have hcz39:=cf8 BK41;have hcz40:=cf8 BK43))
    refine bodyPost_ret (results_cell_row rfl _ _ gb43 42 #[.string a0_0,.int .i64 a0_1,.slice Ao24 x3_1.length co24,.slice Ao28 t47.length co28,.slice Ao31 t48.length co31,.slice Ao33 t49.length co33,.slice Ao35 t50.length co35,.slice Ao38 t46.length co38] (0,0) _ rfl (kp BK43) Tryz.underlying42 rfl (by kernel_rfl)) rfl ?_
    exact ⟨_,_,_,_,_,_,ff,by (with_reducible repeat (first|apply Kd.S_alloc|apply Kd.S_drewN|apply Kd.S_drew));exact Kd.S_mono (Kd.S_far (p:=⟨gb43,7,none⟩) (Kd.S_far (p:=⟨gb43,6,none⟩) (Kd.S_far (p:=⟨gb43,5,none⟩) (Kd.S_far (p:=⟨gb43,4,none⟩) (Kd.S_far (p:=⟨gb43,3,none⟩) (Kd.S_far (p:=⟨gb43,2,none⟩) (Kd.S_far (p:=⟨gb43,1,none⟩) (Kd.S_far (p:=⟨gb43,0,none⟩) (Kd.S_far (p:=⟨gb41,7,none⟩) (Kd.S_types (Kd.S_types HO_3.out BK41.out (by decide)) BK43.out (by decide)) (fun _ hk=>hk.1.2) (.slice Ao38 t46.length co38)) (fun _ hk=>hk.2) (.string a0_0)) (fun _ hk=>hk.2) (.int .i64 a0_1)) (fun _ hk=>hk.2) (.slice Ao24 x3_1.length co24)) (fun _ hk=>hk.2) (.slice Ao28 t47.length co28)) (fun _ hk=>hk.2) (.slice Ao31 t48.length co31)) (fun _ hk=>hk.2) (.slice Ao33 t49.length co33)) (fun _ hk=>hk.2) (.slice Ao35 t50.length co35)) (fun _ hk=>hk.2) (.slice Ao38 t46.length co38)) (fun _ hk=>trivial),by (with_reducible repeat (first|apply Kd.R_alloc|apply Kd.R_drewN|apply Kd.R_drew));exact Kd.R_mono (Kd.R_far (p:=⟨gb43,7,none⟩) (Kd.R_far (p:=⟨gb43,6,none⟩) (Kd.R_far (p:=⟨gb43,5,none⟩) (Kd.R_far (p:=⟨gb43,4,none⟩) (Kd.R_far (p:=⟨gb43,3,none⟩) (Kd.R_far (p:=⟨gb43,2,none⟩) (Kd.R_far (p:=⟨gb43,1,none⟩) (Kd.R_far (p:=⟨gb43,0,none⟩) (Kd.R_far (p:=⟨gb41,7,none⟩) (Kd.R_types (Kd.R_types HO51.out BK41.out (by decide)) BK43.out (by decide)) (fun _ hk=>hk.1.2) (.slice Ao38 t46.length co38)) (fun _ hk=>hk.2) (.string a0_0)) (fun _ hk=>hk.2) (.int .i64 a0_1)) (fun _ hk=>hk.2) (.slice Ao24 x3_1.length co24)) (fun _ hk=>hk.2) (.slice Ao28 t47.length co28)) (fun _ hk=>hk.2) (.slice Ao31 t48.length co31)) (fun _ hk=>hk.2) (.slice Ao33 t49.length co33)) (fun _ hk=>hk.2) (.slice Ao35 t50.length co35)) (fun _ hk=>hk.2) (.slice Ao38 t46.length co38)) (fun _ hk=>trivial),by (with_reducible repeat (first|apply Kd.R_alloc|apply Kd.R_drewN|apply Kd.R_drew));exact Kd.R_mono (Kd.R_far (p:=⟨gb43,7,none⟩) (Kd.R_far (p:=⟨gb43,6,none⟩) (Kd.R_far (p:=⟨gb43,5,none⟩) (Kd.R_far (p:=⟨gb43,4,none⟩) (Kd.R_far (p:=⟨gb43,3,none⟩) (Kd.R_far (p:=⟨gb43,2,none⟩) (Kd.R_far (p:=⟨gb43,1,none⟩) (Kd.R_far (p:=⟨gb43,0,none⟩) (Kd.R_far (p:=⟨gb41,7,none⟩) (Kd.R_types (Kd.R_types HO54.out BK41.out (by decide)) BK43.out (by decide)) (fun _ hk=>hk.1.2) (.slice Ao38 t46.length co38)) (fun _ hk=>hk.2) (.string a0_0)) (fun _ hk=>hk.2) (.int .i64 a0_1)) (fun _ hk=>hk.2) (.slice Ao24 x3_1.length co24)) (fun _ hk=>hk.2) (.slice Ao28 t47.length co28)) (fun _ hk=>hk.2) (.slice Ao31 t48.length co31)) (fun _ hk=>hk.2) (.slice Ao33 t49.length co33)) (fun _ hk=>hk.2) (.slice Ao35 t50.length co35)) (fun _ hk=>hk.2) (.slice Ao38 t46.length co38)) (fun _ hk=>trivial),by (with_reducible repeat (first|apply Kd.R_alloc|apply Kd.R_drewN|apply Kd.R_drew));exact Kd.R_mono (Kd.R_far (p:=⟨gb43,7,none⟩) (Kd.R_far (p:=⟨gb43,6,none⟩) (Kd.R_far (p:=⟨gb43,5,none⟩) (Kd.R_far (p:=⟨gb43,4,none⟩) (Kd.R_far (p:=⟨gb43,3,none⟩) (Kd.R_far (p:=⟨gb43,2,none⟩) (Kd.R_far (p:=⟨gb43,1,none⟩) (Kd.R_far (p:=⟨gb43,0,none⟩) (Kd.R_far (p:=⟨gb41,7,none⟩) (Kd.R_types (Kd.R_types HO55.out BK41.out (by decide)) BK43.out (by decide)) (fun _ hk=>hk.1.2) (.slice Ao38 t46.length co38)) (fun _ hk=>hk.2) (.string a0_0)) (fun _ hk=>hk.2) (.int .i64 a0_1)) (fun _ hk=>hk.2) (.slice Ao24 x3_1.length co24)) (fun _ hk=>hk.2) (.slice Ao28 t47.length co28)) (fun _ hk=>hk.2) (.slice Ao31 t48.length co31)) (fun _ hk=>hk.2) (.slice Ao33 t49.length co33)) (fun _ hk=>hk.2) (.slice Ao35 t50.length co35)) (fun _ hk=>hk.2) (.slice Ao38 t46.length co38)) (fun _ hk=>trivial),by (with_reducible repeat (first|apply Kd.R_alloc|apply Kd.R_drewN|apply Kd.R_drew));exact Kd.R_mono (Kd.R_far (p:=⟨gb43,7,none⟩) (Kd.R_far (p:=⟨gb43,6,none⟩) (Kd.R_far (p:=⟨gb43,5,none⟩) (Kd.R_far (p:=⟨gb43,4,none⟩) (Kd.R_far (p:=⟨gb43,3,none⟩) (Kd.R_far (p:=⟨gb43,2,none⟩) (Kd.R_far (p:=⟨gb43,1,none⟩) (Kd.R_far (p:=⟨gb43,0,none⟩) (Kd.R_far (p:=⟨gb41,7,none⟩) (Kd.R_types (Kd.R_types HO61.out BK41.out (by decide)) BK43.out (by decide)) (fun _ hk=>hk.1.2) (.slice Ao38 t46.length co38)) (fun _ hk=>hk.2) (.string a0_0)) (fun _ hk=>hk.2) (.int .i64 a0_1)) (fun _ hk=>hk.2) (.slice Ao24 x3_1.length co24)) (fun _ hk=>hk.2) (.slice Ao28 t47.length co28)) (fun _ hk=>hk.2) (.slice Ao31 t48.length co31)) (fun _ hk=>hk.2) (.slice Ao33 t49.length co33)) (fun _ hk=>hk.2) (.slice Ao35 t50.length co35)) (fun _ hk=>hk.2) (.slice Ao38 t46.length co38)) (fun _ hk=>trivial),by (with_reducible repeat (first|apply Kd.R_alloc|apply Kd.R_drewN|apply Kd.R_drew));exact Kd.R_mono (Kd.R_far (p:=⟨gb43,7,none⟩) (Kd.R_far (p:=⟨gb43,6,none⟩) (Kd.R_far (p:=⟨gb43,5,none⟩) (Kd.R_far (p:=⟨gb43,4,none⟩) (Kd.R_far (p:=⟨gb43,3,none⟩) (Kd.R_far (p:=⟨gb43,2,none⟩) (Kd.R_far (p:=⟨gb43,1,none⟩) (Kd.R_far (p:=⟨gb43,0,none⟩) (Kd.R_far (p:=⟨gb41,7,none⟩) (Kd.R_types (Kd.R_types HO63.out BK41.out (by decide)) BK43.out (by decide)) (fun _ hk=>hk.1.2) (.slice Ao38 t46.length co38)) (fun _ hk=>hk.2) (.string a0_0)) (fun _ hk=>hk.2) (.int .i64 a0_1)) (fun _ hk=>hk.2) (.slice Ao24 x3_1.length co24)) (fun _ hk=>hk.2) (.slice Ao28 t47.length co28)) (fun _ hk=>hk.2) (.slice Ao31 t48.length co31)) (fun _ hk=>hk.2) (.slice Ao33 t49.length co33)) (fun _ hk=>hk.2) (.slice Ao35 t50.length co35)) (fun _ hk=>hk.2) (.slice Ao38 t46.length co38)) (fun _ hk=>trivial),bs HB⟩
theorem slices_Insert_raw_end (P0_:Nat→Prop) (u:Value) (l0:List (List Value)) (P2_:Nat→Prop) (u2:Value) (l2:List (List Value)) (w0 w:World) (hB:Below w0.heap.size w0 w) (ho0:Kd.R (Kd.raw 4) 83 w w0.heap.size P0_ u l0) (ho2:Kd.R (Kd.raw 4) 83 w w0.heap.size P2_ u2 l2) (hl:l0.length+1<2513169434916) (h1:l2.length=1) :
  Calls Tryz.prog 55 #[u,.int .i64 l0.length,u2] w fun e w'=>∃ v0_:Value,e=.returned (v0_)∧Kd.R (Kd.raw 4) 83 w' w0.heap.size (fun k_=>((P0_ k_∨P2_ k_)∨w.heap.size≤k_)) v0_ (l0++l2)∧Below w0.heap.size w0 w'∧Kept w w' (fun k_=>P0_ k_∨P2_ k_):=by
 have HB:=Aside0.mk hB;have HO:=Aside0.mk (show Kd.R (Kd.raw 4) 83 w w0.heap.size (fun k_=>P0_ k_∨w.heap.size≤k_) u l0 from Kd.R_mono ho0 (fun k hk=>.inl hk));have HP:=Aside0.mk ho0;have HL:=Aside0.mk hl;obtain ⟨A2,c2,rfl,hc2,hC2⟩:=Kd.R_reads ho2;have HC:=Aside0.mk hC2;rw [h1]
 rw [h1] at HC hc2
 have HZ:=Aside0.mk hB.size
 have hs:(u=.slice none 0 0∧l0.length=0)∨∃ g cap,u=.slice (some ⟨g,0,none⟩) l0.length cap∧l0.length≤cap:=by
  obtain ⟨_,inner,hown,_⟩:=ho0
  rcases hown.2 with h | ⟨g,cap,cur,e,_,_,hle,_⟩
  ·exact .inl h
  ·exact .inr ⟨g,cap,e,hle⟩
 clear hB ho0 ho2 hl hC2 hc2;have key:∀ (u:Value),Aside0 (Kd.R (Kd.raw 4) 83 w w0.heap.size (fun k_=>P0_ k_∨w.heap.size≤k_) u l0)→Aside0 (Kd.R (Kd.raw 4) 83 w w0.heap.size P0_ u l0) →
   ((u=.slice none 0 0∧l0.length=0)∨∃ g cap,u=.slice (some ⟨g,0,none⟩) l0.length cap∧l0.length≤cap)→Calls Tryz.prog 55 #[u,.int .i64 l0.length,.slice A2 1 c2] w fun e w'=>∃ v0_:Value,e=.returned (v0_)∧Kd.R (Kd.raw 4) 83 w' w0.heap.size (fun k_=>((P0_ k_∨P2_ k_)∨w.heap.size≤k_)) v0_ (l0++l2)∧Below w0.heap.size w0 w'∧Kept w w' (fun k_=>P0_ k_∨P2_ k_):=by
  intro u HO HP hs
  rcases hs with ⟨e,h0⟩ | ⟨g,cap,e,hle⟩
  ·subst e;rw [h0];clear h0
   go_enter Tryz.func55,Tryz.ntmps55
   go_wp2_with ((with_reducible refine gate_builtin (b:=.append) (xs:=#[.tmp 23,.tmp 24]) rfl ?_);at_builtin;refine Kd.R_append_rows (Kd.raw 4) (w0:=w0) w0.heap.size rfl (.tmp 23) (.tmp 24) 33 83 ((.agg #[(.string ⟨#[]⟩),(.int .i64 0),(.int .i64 0),(.slice none 0 0)])) 56 rfl Tryz.underlying33 info83 rfl (by decide) (by omega) _ l0 l2 A2 1 c2 _ (fun _=>False) rfl rfl HO.out HC.out (fun _ _ h=>h) (fun _ h=>h.elim) (fun k hk=>.inr hk) HB.out HZ.out (by have:=HL.out;omega) ?_;intro v2 w6 ho hb hg hat;have HO2:=Aside0.mk ho;have HG:=Aside0.mk hg;replace HB:=Aside0.mk hb;clear ho hb hg hat)
   go_ret
   exact ⟨_,rfl,Kd.R_mono HO2.out (fun k hk=>hk.elim (fun h=>.inl (.inl h)) .inr),HB.out,Kept.of_grown HG.out (Kept.refl _ _) (fun k hk=>by cases hk)⟩
  ·subst e
   have hq:¬ ((l0.length:Int)<0):=by omega
   by_cases hcap:cap=l0.length
   ·subst hcap
    go_enter Tryz.func55,Tryz.ntmps55
    go_wp2_with ((with_reducible refine gate_builtin (b:=.append) (xs:=#[.tmp 23,.tmp 24]) rfl ?_);at_builtin;refine Kd.R_append_rows (Kd.raw 4) (w0:=w0) w0.heap.size rfl (.tmp 23) (.tmp 24) 33 83 ((.agg #[(.string ⟨#[]⟩),(.int .i64 0),(.int .i64 0),(.slice none 0 0)])) 56 rfl Tryz.underlying33 info83 rfl (by decide) (by omega) (.slice (some ⟨g,0,none⟩) l0.length l0.length) l0 l2 A2 1 c2 _ (fun _=>False) rfl rfl HO.out HC.out (fun _ _ h=>h) (fun _ h=>h.elim) (fun k hk=>.inr hk) HB.out HZ.out (by have:=HL.out;omega) ?_;intro v2 w6 ho hb hg hat;have HO2:=Aside0.mk ho;have HG:=Aside0.mk hg;replace HB:=Aside0.mk hb;clear ho hb hg hat)
    go_ret
    exact ⟨_,rfl,Kd.R_mono HO2.out (fun k hk=>hk.elim (fun h=>.inl (.inl h)) .inr),HB.out,Kept.of_grown HG.out (Kept.refl _ _) (fun k hk=>.inl (.inl (HP.out.1 k hk)))⟩
   ·skip
    go_enter Tryz.func55,Tryz.ntmps55
    go_wp2_with ((with_reducible refine gate_builtin (b:=.append) (xs:=#[.tmp 23,.tmp 24]) rfl ?_);at_builtin;refine Kd.R_append_rows (Kd.raw 4) (w0:=w0) w0.heap.size rfl (.tmp 23) (.tmp 24) 33 83 ((.agg #[(.string ⟨#[]⟩),(.int .i64 0),(.int .i64 0),(.slice none 0 0)])) 56 rfl Tryz.underlying33 info83 rfl (by decide) (by omega) (.slice (some ⟨g,0,none⟩) l0.length cap) l0 l2 A2 1 c2 _ (fun _=>False) rfl rfl HO.out HC.out (fun _ _ h=>h) (fun _ h=>h.elim) (fun k hk=>.inr hk) HB.out HZ.out (by have:=HL.out;omega) ?_;intro v2 w6 ho hb hg hat;have HO2:=Aside0.mk ho;have HG:=Aside0.mk hg;replace HB:=Aside0.mk hb;clear ho hb hg hat)
    go_ret
    exact ⟨_,rfl,Kd.R_mono HO2.out (fun k hk=>hk.elim (fun h=>.inl (.inl h)) .inr),HB.out,Kept.of_grown HG.out (Kept.refl _ _) (fun k hk=>.inl (.inl (HP.out.1 k hk)))⟩
 exact key u HO HP hs
theorem slices_Insert_raw_room (P0_:Nat→Prop) (u:Value) (l0:List (List Value)) (P2_:Nat→Prop) (u2:Value) (l2:List (List Value)) (i g cap:Nat) (w0 w:World) (hB:Below w0.heap.size w0 w) (ho0:Kd.R (Kd.raw 4) 83 w w0.heap.size P0_ u l0) (hp:∀ k_,P0_ k_→¬ P2_ k_) (ho2:Kd.R (Kd.raw 4) 83 w w0.heap.size P2_ u2 l2) (h1:l2.length=1) (hi:i<l0.length) (hu:u=.slice (some ⟨g,0,none⟩) l0.length cap) (hroom:l0.length+1≤cap) :
  Calls Tryz.prog 55 #[u,.int .i64 i,u2] w fun e w'=>∃ v0_:Value,e=.returned (v0_)∧Kd.R (Kd.raw 4) 83 w' w0.heap.size (fun k_=>((P0_ k_∨P2_ k_)∨w.heap.size≤k_)) v0_ (l0.take i++l2++l0.drop i)∧Below w0.heap.size w0 w'∧Kept w w' (fun k_=>P0_ k_∨P2_ k_):=by
 rcases r_row ho0 with ⟨_,h0⟩ | ⟨g',cap',cur,e1,hbg,hPg,hg,hle,hm,hs,hr0,hone0⟩
 ·subst h0;simp at hi
 rw [hu] at e1
 injection e1 with e1a e1b e1c
 injection e1a with e1a
 injection e1a with e1a
 subst e1a e1c hu
 rcases r_row ho2 with ⟨_,h0⟩ | ⟨gv,capv,curv,rfl,hbgv,hPv,hgv,hlev,hmv,hsv,hrv,honev⟩
 ·subst h0;simp at h1
 rw [h1] at hrv honev hlev ⊢
 have hne:gv≠g:=fun e=>hp g hPg (e ▸ hPv)
 have hsz:((Kd.raw 4)).sz=4:=rfl
 rw [hsz] at hs hr0 hone0 hrv honev hsv
 obtain ⟨V,hV⟩:∃ V,V=curv.toList.take (1 * 4):=⟨_,rfl⟩
 rw [← hV] at hrv honev
 have hVl:V.length=4:=by rw [hV,List.length_take];simp;omega
 obtain ⟨C,hC⟩:∃ C,C=cur.toList:=⟨_,rfl⟩
 rw [← hC] at hr0 hone0
 have hCl:C.length=cap * 4:=by rw [hC];simpa using hs
 have hg':w.heap[g]? = some (.cells C.toArray 83 (0,0)):=by rw [hC];simpa using hg
 have hN:l0.length * 4+4≤C.length:=by rw [hCl];omega
 obtain ⟨X,hX⟩:∃ X,X=(C.take (l0.length * 4)).drop (i * 4):=⟨_,rfl⟩
 have hXl:X.length=(l0.length - i) * 4:=by rw [hX,List.length_drop,List.length_take];omega
 have hXo:∀ v ∈ X,v.oneCell'=true:=fun v hv=>hone0 v (List.mem_of_mem_drop (hX ▸ hv))
 obtain ⟨C1,hC1⟩:∃ C1,C1=splice C (i * 4+4) X:=⟨_,rfl⟩;obtain ⟨C2,hC2⟩:∃ C2,C2=splice C1 (i * 4) V:=⟨_,rfl⟩;have hfin:=ins_room C (l0.length * 4) (i * 4) 4 V (by omega) hVl hN
 rw [← hX,← hC1,← hC2] at hfin
 have hC1l:C1.length=C.length:=by rw [hC1];exact length_splice _ _ _ (by omega)
 have hcp1:∀ W:World,W.heap=w.heap→∀ ty dc sc,(Builtin.copy_ #[33,33] ty #[.slice (some ⟨g,(i+1) * 4,none⟩) (l0.length - i) dc,.slice (some ⟨g,i * 4,none⟩) (l0.length+1 - i) sc]).run Tryz.prog W=.ok (goInt ((l0.length - i:Nat):Int)) (W.setRow g C1.toArray):=by
  intro W hW ty dc sc
  have hmin:Nat.min (l0.length+1 - i) (l0.length - i)=l0.length - i:=by simp only [Nat.min_def];split <;> omega
  have h:=run_copyN (P:=Tryz.prog) W 33 33 ty 83 4 g ((i+1) * 4) (l0.length - i) dc ⟨g,i * 4,none⟩ (l0.length+1 - i) sc C 83 X Tryz.underlying33 (info_sz info83)
   (by rw [hW];exact hg') (by rw [hmin,hXl]) (cellrow (cur:=C.toArray) (by rw [hW];exact hg') _ _ (fun j v hj=>by
    rw [hX,List.getElem?_drop,List.getElem?_take] at hj
    split at hj
    ·simpa using hj
    ·cases hj)) (by omega) hXo
  rw [hmin] at h
  rw [h,hC1]
  have e:(i+1) * 4=i * 4+4:=by omega
  rw [e]
 have hcp2:∀ W:World,W.heap=(w.setRow g C1.toArray).heap→∀ ty dc,(Builtin.copy_ #[33,33] ty #[.slice (some ⟨g,i * 4,none⟩) (l0.length+1 - i) dc,.slice (some ⟨gv,0,none⟩) 1 capv]).run Tryz.prog W=.ok (goInt ((1:Nat):Int)) (W.setRow g C2.toArray):=by
  intro W hW ty dc
  have hmin:Nat.min 1 (l0.length+1 - i)=1:=by simp only [Nat.min_def];split <;> omega
  have hWg:W.heap[g]? = some (.cells C1.toArray 83 (0,0)):=by rw [hW];exact setRow_heap w g _ _ _ _ hg'
  have hWv:W.heap[gv]? = some (.cells curv 83 (0,0)):=by rw [hW,setRow_other _ _ _ _ hne];exact hgv
  have h:=run_copyN (P:=Tryz.prog) W 33 33 ty 83 4 g (i * 4) (l0.length+1 - i) dc ⟨gv,0,none⟩ 1 capv C1 83 V Tryz.underlying33 (info_sz info83)
   hWg (by rw [hmin,hVl,Nat.one_mul]) (cellrow hWv _ _ (fun j v hj=>by
    rw [hV,List.getElem?_take] at hj
    split at hj
    ·simpa using hj
    ·cases hj)) (by omega) honev
  rw [hmin] at h
  rw [h,hC2]
 have hov:∀ lb cb,(callFunc 109 #[.slice (some ⟨gv,0,none⟩) 1 capv,.slice (some ⟨g,(i+1) * 4,none⟩) lb cb]).run Tryz.prog w=.ok (.value (.bool false)) w:=fun lb cb=>by
  rw [run_callFunc_extern Tryz.func109 (by kernel_rfl) (by kernel_rfl) (by kernel_rfl) (e:=Extern.SlicesOverlaps.overlaps #[33,33] #[4]) (by kernel_rfl),
   Lib.run_overlaps_apart w 33 4 83 Tryz.underlying33 4 (fun w=>by kernel_rfl) ⟨gv,0,none⟩ ⟨g,(i+1) * 4,none⟩ 1 capv lb cb hne 83 83 curv.size C.toArray.size (by simp [World.shape?,hgv]) (by simp [World.shape?,hg']) (by rw [List.size_toArray];omega) (by simp [World.frozen?,hgv]) (by simp [World.frozen?,hgv])]
  rfl
 have hw1:IntKind.i64.wrap ((i:Int)+1)=(i:Int)+1:=by rw [IntKind.wrap_i64];unfold maxLen at hm;omega
 have hw2:IntKind.i64.wrap ((l0.length:Int)+1)=(l0.length:Int)+1:=by rw [IntKind.wrap_i64];unfold maxLen at hm;omega
 have hb1:(0:Int)≤(i:Int)+1:=by omega
 have htn:((i:Int)+1).toNat=i+1:=by omega
 have htn2:((l0.length:Int)+1).toNat=l0.length+1:=by omega
 have hz2:¬ ((i:Int)=(l0.length:Int)):=by omega
 have hz3:¬ ((cap:Int)<(l0.length:Int)+1):=by omega
 have hb2:¬ (cap=i+1):=by omega
 have hb4:¬ (cap=i):=by omega
 have hb5:i≤l0.length:=by omega
 have hb6:i+1≤l0.length+1:=by omega
 have hb7:(i:Int)≤(l0.length:Int)+1:=by omega
 have HR:=Aside0.mk hr0;have HV:=Aside0.mk hrv;have HF:=Aside0.mk hfin;have HB:=Aside0.mk hB;have HG:=Aside0.mk hg';have HM:=Aside0.mk hm;have HL:=Aside0.mk hCl;have HS0:=Aside0.mk hbg;have HP0:=Aside0.mk hPg;have HC1:=Aside0.mk hC1l;have HXD:=Aside0.mk hX;have HH1:=Aside0.mk h1;have HVL:=Aside0.mk hVl;clear hr0 hrv hfin hB hg' hm hCl hbg hPg hC1l hX hC1 hC2 hV hC hXl hXo hVl hg hgv hs hsv hlev hmv hle ho0 ho2 hone0 honev hN hPv hbgv h1 hsz
 go_enter Tryz.func55,Tryz.ntmps55
 go_wp2_with (simp only [hov])
 go_region_law (refine step_copyN rfl (.tmp 73) (.tmp 76) 33 33 rfl (.slice (some ⟨g,(i+1) * 4,none⟩) (l0.length - i) (cap - (i+1))) (.slice (some ⟨g,i * 4,none⟩) (l0.length+1 - i) (cap - i)) (by simp [Act.eval,Act.put]) (by simp [Act.eval,Act.put]) (hcp1 w.drew rfl 3 (cap - (i+1)) (cap - i)) ?_)
 go_wp2_with ((with_reducible refine gate_builtin (b:=.copy) (xs:=#[.tmp 80,.tmp 81]) rfl ?_);refine wpList_copyN rfl (.tmp 80) (.tmp 81) 33 33 rfl (.slice (some ⟨g,i * 4,none⟩) (l0.length+1 - i) (cap - i)) (.slice (some ⟨gv,0,none⟩) 1 capv) rfl rfl (hcp2 (w.drew.setRow g C1.toArray) rfl 3 (cap - i)) ?_)
 go_ret
 refine ⟨.slice (some ⟨g,0,none⟩) (l0.length+1) cap,rfl,?_,?_,?_⟩
 ·have hlen:(l0.take i++l2++l0.drop i).length=l0.length+1:=by simp [HH1.out];omega
  have e5:(l0.length+1) * 4=l0.length * 4+4:=by omega
  rw [← hlen];refine r_mk (L:=C2) rfl (setRow_heap _ g _ _ _ _ (setRow_heap w.drew g _ _ _ _ HG.out)) HS0.out (.inl (.inl HP0.out)) (by rw [hlen];exact hroom) HM.out (HF.out.2.trans HL.out) ?_;rw [hlen]
  show Reps _ 4 _ (C2.take ((l0.length+1) * 4))
  rw [e5,HF.out.1]
  exact reps_app (reps_app (reps_take HR.out i) HV.out) (HXD.out ▸ reps_drop HR.out i)
 ·exact below_setRow (below_setRow (below_drew1 HB.out) HS0.out _) HS0.out _
 ·exact kept_setRow (kept_setRow (Kept.drew (Kept.refl _ _)) (.inl (.inl HP0.out)) _) (.inl (.inl HP0.out)) _
theorem slices_Insert_raw_grow (P0_:Nat→Prop) (u:Value) (l0:List (List Value)) (P2_:Nat→Prop) (u2:Value) (l2:List (List Value)) (i g cap:Nat) (w0 w:World) (hB:Below w0.heap.size w0 w) (ho0:Kd.R (Kd.raw 4) 83 w w0.heap.size P0_ u l0) (ho2:Kd.R (Kd.raw 4) 83 w w0.heap.size P2_ u2 l2) (h1:l2.length=1) (hi:i<l0.length) (hu:u=.slice (some ⟨g,0,none⟩) l0.length cap) (hroom:¬ l0.length+1≤cap) (hlim:l0.length+1<2513169434916) :
  Calls Tryz.prog 55 #[u,.int .i64 i,u2] w fun e w'=>∃ v0_:Value,e=.returned (v0_)∧Kd.R (Kd.raw 4) 83 w' w0.heap.size (fun k_=>((P0_ k_∨P2_ k_)∨w.heap.size≤k_)) v0_ (l0.take i++l2++l0.drop i)∧Below w0.heap.size w0 w'∧Kept w w' (fun k_=>P0_ k_∨P2_ k_):=by
 rcases r_row ho0 with ⟨_,h0⟩ | ⟨g',cap',cur,e1,hbg,hPg,hg,hle,hm,hs,hr0,hone0⟩
 ·subst h0;simp at hi
 rw [hu] at e1
 injection e1 with e1a e1b e1c
 injection e1a with e1a
 injection e1a with e1a
 subst e1a e1c hu
 rcases r_row ho2 with ⟨_,h0⟩ | ⟨gv,capv,curv,rfl,hbgv,hPv,hgv,hlev,hmv,hsv,hrv,honev⟩
 ·subst h0;simp at h1
 rw [h1] at hrv honev hlev ⊢
 have hsz:((Kd.raw 4)).sz=4:=rfl
 rw [hsz] at hs hr0 hone0 hrv honev hsv
 have hglt:g<w.heap.size:=(Array.getElem?_eq_some_iff.1 hg).1;have hvlt:gv<w.heap.size:=(Array.getElem?_eq_some_iff.1 hgv).1;obtain ⟨V,hV⟩:∃ V,V=curv.toList.take (1 * 4):=⟨_,rfl⟩
 rw [← hV] at hrv honev
 have hVl:V.length=4:=by rw [hV,List.length_take];simp;omega
 obtain ⟨C,hC⟩:∃ C,C=cur.toList:=⟨_,rfl⟩
 rw [← hC] at hr0 hone0
 have hCl:C.length=cap * 4:=by rw [hC];simpa using hs
 have hg':w.heap[g]? = some (.cells C.toArray 83 (0,0)):=by rw [hC];simpa using hg
 obtain ⟨X,hX⟩:∃ X,X=(C.take (l0.length * 4)).drop (i * 4):=⟨_,rfl⟩
 have hXl:X.length=(l0.length - i) * 4:=by rw [hX,List.length_drop,List.length_take];omega
 have hXo:∀ v ∈ X,v.oneCell'=true:=fun v hv=>hone0 v (List.mem_of_mem_drop (hX ▸ hv))
 obtain ⟨O,hO⟩:∃ O,O=(C.take (l0.length * 4)).take (i * 4):=⟨_,rfl⟩
 have hOl:O.length=i * 4:=by rw [hO,List.length_take,List.length_take];omega
 obtain ⟨i0,hi0,hz⟩:=Option.map_eq_some_iff.1 info83
 simp only [Prod.mk.injEq] at hz
 obtain ⟨hz0,hz1,hz2⟩:=hz
 have hk:i+(l0.length+1 - i)=l0.length+1:=by omega
 obtain ⟨G,hG⟩:∃ G,G=grownCap w (l0.length+1) cap 83:=⟨_,rfl⟩
 have hGn:l0.length+1≤G:=by rw [hG];exact grownCap_ge w _ _ _
 have hGm:G≤maxLen:=by rw [hG];exact grownCap_le_maxLen w _ _ _ (by unfold maxLen;omega)
 obtain ⟨Z,hZ⟩:∃ Z:List Value,Z=(O.toArray++Builtin.zeroCells ((.agg #[(.string ⟨#[]⟩),(.int .i64 0),(.int .i64 0),(.slice none 0 0)]):Value).cells (l0.length+1 - i)++Builtin.zeroCells ((.agg #[(.string ⟨#[]⟩),(.int .i64 0),(.int .i64 0),(.slice none 0 0)]):Value).cells (G - (l0.length+1))).toList:=⟨_,rfl⟩
 have hZl:Z.length=G * 4:=by
  have e:((.agg #[(.string ⟨#[]⟩),(.int .i64 0),(.int .i64 0),(.slice none 0 0)]):Value).cells.size=4:=rfl;rw [hZ];simp only [Array.length_toList,Array.size_append,size_zeroCells,List.size_toArray,e,hOl]
  omega
 have hZt:Z.take (i * 4)=O:=by
  rw [hZ];simp only [Array.toList_append,List.append_assoc];rw [List.take_append_of_le_length (by simp [hOl]),List.take_of_length_le (by simp [hOl])]
 have hrz:∀ ty,(Builtin.append_ #[33,3] ty #[.slice (some ⟨g,0,none⟩) i cap,.int .i64 ((l0.length:Int)+1 - (i:Int))]).run Tryz.prog w=.ok (.slice (some ⟨w.heap.size,0,none⟩) (l0.length+1) G) (w.drew.alloc (.cells Z.toArray 83)):=by
  intro ty
  have hold:(Builtin.firstCells i0.size i (.slice (some ⟨g,0,none⟩) i cap)).run Tryz.prog w.drew=.ok O.toArray w.drew:=by
   rw [hz1]
   exact run_firstCells_some w.drew 4 i ⟨g,0,none⟩ i cap O hOl (cellrow (w:=w.drew) (cur:=C.toArray) hg' 0 _ (fun j v hj=>by
    rw [hO,List.getElem?_take,List.getElem?_take] at hj
    split at hj
    ·split at hj
     ·simpa using hj
     ·cases hj
    ·cases hj))
  have hbig:(l0.length+1) * i0.bytes≤140737488355328:=by rw [hz2];omega
  have h:=Lib.run_append_grow_zeros (P:=Tryz.prog) w 33 3 ty 83 i0 ((.agg #[(.string ⟨#[]⟩),(.int .i64 0),(.int .i64 0),(.slice none 0 0)])) .i64 .i64 Tryz.underlying33 Tryz.underlying3 hi0 hz0 (some ⟨g,0,none⟩) i cap O hold (l0.length+1 - i) (by omega) (by rw [hz1];omega) (by omega) (by omega) (by rw [hz2];omega) (by rw [hk];exact growslice_fits (by omega) hbig)
  rw [hk,← hG] at h
  have e:((l0.length:Int)+1 - (i:Int))=((l0.length+1 - i:Nat):Int):=by omega
  rw [e,h,hZ]
 obtain ⟨Z1,hZ1⟩:∃ Z1,Z1=splice Z (i * 4) V:=⟨_,rfl⟩;obtain ⟨Z2,hZ2⟩:∃ Z2,Z2=splice Z1 (i * 4+4) X:=⟨_,rfl⟩
 have hZfit:i * 4+4+X.length≤Z.length:=by rw [hZl,hXl];omega
 have hfin:=ins_new Z (i * 4) 4 V X hVl hZfit
 rw [← hZ1,← hZ2,hZt] at hfin
 have hZ1l:Z1.length=Z.length:=by rw [hZ1];exact length_splice _ _ _ (by omega)
 have hN0:(w.drew.alloc (.cells Z.toArray 83)).heap[w.heap.size]? = some (.cells Z.toArray 83 (0,0)):=heap_alloc_new w.drew _
 have hold_:∀ k,k<w.heap.size→(w.drew.alloc (.cells Z.toArray 83)).heap[k]? = w.heap[k]?:=fun k hk=>heap_alloc_old w.drew _ hk
 have hcp1:∀ W:World,W.heap=(w.drew.alloc (.cells Z.toArray 83)).heap→∀ ty dc,(Builtin.copy_ #[33,33] ty #[.slice (some ⟨w.heap.size,i * 4,none⟩) (l0.length+1 - i) dc,.slice (some ⟨gv,0,none⟩) 1 capv]).run Tryz.prog W=.ok (goInt ((1:Nat):Int)) (W.setRow w.heap.size Z1.toArray):=by
  intro W hW ty dc
  have hmin:Nat.min 1 (l0.length+1 - i)=1:=by simp only [Nat.min_def];split <;> omega
  have h:=run_copyN (P:=Tryz.prog) W 33 33 ty 83 4 w.heap.size (i * 4) (l0.length+1 - i) dc ⟨gv,0,none⟩ 1 capv Z 83 V Tryz.underlying33 (info_sz info83)
   (by rw [hW];exact hN0) (by rw [hmin,hVl,Nat.one_mul]) (cellrow (by rw [hW,hold_ gv hvlt];exact hgv) _ _ (fun j v hj=>by
    rw [hV,List.getElem?_take] at hj
    split at hj
    ·simpa using hj
    ·cases hj)) (by omega) honev
  rw [hmin] at h
  rw [h,hZ1]
 have hcp2:∀ W:World,W.heap=((w.drew.alloc (.cells Z.toArray 83)).setRow w.heap.size Z1.toArray).heap→∀ ty dc sc,(Builtin.copy_ #[33,33] ty #[.slice (some ⟨w.heap.size,(i+1) * 4,none⟩) (l0.length - i) dc,.slice (some ⟨g,i * 4,none⟩) (l0.length - i) sc]).run Tryz.prog W=.ok (goInt ((l0.length - i:Nat):Int)) (W.setRow w.heap.size Z2.toArray):=by
  intro W hW ty dc sc;have hmin:Nat.min (l0.length - i) (l0.length - i)=l0.length - i:=Nat.min_self _;have h:=run_copyN (P:=Tryz.prog) W 33 33 ty 83 4 w.heap.size ((i+1) * 4) (l0.length - i) dc ⟨g,i * 4,none⟩ (l0.length - i) sc Z1 83 X Tryz.underlying33 (info_sz info83)
   (by rw [hW];exact setRow_heap _ _ _ _ _ _ hN0) (by rw [hmin,hXl]) (cellrow (cur:=C.toArray) (by rw [hW,setRow_other _ _ _ _ (by omega),hold_ g hglt];exact hg') _ _ (fun j v hj=>by
    rw [hX,List.getElem?_drop,List.getElem?_take] at hj
    split at hj
    ·simpa using hj
    ·cases hj)) (by rw [hZ1l];omega) hXo
  rw [hmin] at h
  have e:(i+1) * 4=i * 4+4:=by omega
  rw [h,hZ2,e]
 have hw1:IntKind.i64.wrap ((i:Int)+1)=(i:Int)+1:=by rw [IntKind.wrap_i64];unfold maxLen at hm;omega
 have hw2:IntKind.i64.wrap ((l0.length:Int)+1)=(l0.length:Int)+1:=by rw [IntKind.wrap_i64];unfold maxLen at hm;omega
 have hw3:IntKind.i64.wrap ((l0.length:Int)+1 - (i:Int))=(l0.length:Int)+1 - (i:Int):=by rw [IntKind.wrap_i64];unfold maxLen at hm;omega
 have hb1:(0:Int)≤(i:Int)+1:=by omega
 have htn:((i:Int)+1).toNat=i+1:=by omega
 have htn2:((l0.length:Int)+1).toNat=l0.length+1:=by omega
 have hz2':¬ ((i:Int)=(l0.length:Int)):=by omega
 have hz3:(cap:Int)<(l0.length:Int)+1:=by omega
 have hb2:¬ (G=i+1):=by omega
 have hb3:¬ (G=i):=by omega
 have hb4:¬ (cap=i):=by omega
 have hb5:i≤l0.length:=by omega
 have hb6:i+1≤l0.length+1:=by omega
 have hb7:(i:Int)≤(l0.length:Int)+1:=by omega
 have hb8:i≤cap:=by omega
 have hb9:(i:Int)≤(l0.length:Int):=by omega
 have HR:=Aside0.mk hr0;have HV:=Aside0.mk hrv;have HF:=Aside0.mk hfin;have HB:=Aside0.mk hB;have HM:=Aside0.mk hGm;have HL:=Aside0.mk hZl;have HXD:=Aside0.mk hX;have HXL:=Aside0.mk hXl;have HOD:=Aside0.mk hO;have HH1:=Aside0.mk h1;have HN:=Aside0.mk hN0;have HGN:=Aside0.mk hGn;clear hr0 hrv hfin hB hg' hm hCl hbg hPg hZ1l hX hZ1 hZ2 hV hC hXl hXo hVl hg hgv hs hsv hlev hmv hle ho0 ho2 hone0 honev hPv hbgv h1 hsz hO hOl hi0 hz0 hz1 hz2 hk hG hGm hZ hZl hZt hZfit hN0 hold_ hglt hvlt
 go_enter Tryz.func55,Tryz.ntmps55
 go_wp2_with (first|((with_reducible refine gate_builtin (b:=.append) (xs:=#[.tmp 34,.tmp 39]) rfl ?_);refine wpList_runB rfl (.tmp 34) (.tmp 39) 33 3 rfl (.slice (some ⟨g,0,none⟩) i cap) (.int .i64 ((l0.length:Int)+1 - (i:Int))) rfl rfl (hrz _) ?_)|((with_reducible refine gate_builtin (b:=.copy) (xs:=#[.tmp 43,.tmp 44]) rfl ?_);refine wpList_copyN rfl (.tmp 43) (.tmp 44) 33 33 rfl (.slice (some ⟨w.heap.size,i * 4,none⟩) (l0.length+1 - i) (G - i)) (.slice (some ⟨gv,0,none⟩) 1 capv) rfl rfl (hcp1 (w.drew.alloc (.cells Z.toArray 83)) rfl 3 (G - i)) ?_))
 go_region_law (refine step_copyN rfl (.tmp 50) (.tmp 53) 33 33 rfl (.slice (some ⟨w.heap.size,(i+1) * 4,none⟩) (l0.length - i) (G - (i+1))) (.slice (some ⟨g,i * 4,none⟩) (l0.length - i) (cap - i)) (by simp [Act.eval,Act.put]) (by simp [Act.eval,Act.put]) (hcp2 ((w.drew.alloc (.cells Z.toArray 83)).setRow w.heap.size Z1.toArray).drew rfl 3 (G - (i+1)) (cap - i)) ?_)
 go_wp2
 go_ret
 refine ⟨.slice (some ⟨w.heap.size,0,none⟩) (l0.length+1) G,rfl,?_,?_,?_⟩
 ·have hlen:(l0.take i++l2++l0.drop i).length=l0.length+1:=by simp [HH1.out];omega
  have e5:(l0.length+1) * 4=i * 4+4+X.length:=by rw [HXL.out];omega
  rw [← hlen];refine r_mk (L:=Z2) rfl (setRow_heap _ _ _ _ _ _ (setRow_heap _ _ _ _ _ _ HN.out)) HB.out.size (.inr (Nat.le_refl _)) (by rw [hlen];exact HGN.out) HM.out (HF.out.2.trans HL.out) ?_;rw [hlen]
  show Reps _ 4 _ (Z2.take ((l0.length+1) * 4))
  rw [e5,HF.out.1]
  exact reps_app (reps_app (HOD.out ▸ reps_take HR.out i) HV.out) (HXD.out ▸ reps_drop HR.out i)
 ·exact below_setRow (below_drew1 (below_setRow (below_alloc (below_drew1 HB.out) _) HB.out.size _)) HB.out.size _
 ·exact kept_setRow (Kept.drew (kept_setRow (Kept.alloc (Kept.drew (Kept.refl _ _)) _) (.inr (Nat.le_refl _)) _)) (.inr (Nat.le_refl _)) _
theorem slices_Insert_raw.calls (P0_:Nat→Prop) (u9000_:Value) (l0:List (List Value)) (a1:Int) (P2_:Nat→Prop) (u9001_:Value) (l2:List (List Value)) (r:List (List Value)) (w0 w:World) (hB:Below w0.heap.size w0 w) (ho0:Kd.R (Kd.raw 4) 83 w w0.heap.size P0_ u9000_ l0) (hp0_2:∀ k_,P0_ k_→¬ P2_ k_) (ho2:Kd.R (Kd.raw 4) 83 w w0.heap.size P2_ u9001_ l2) (hp2_0:∀ k_,P2_ k_→¬ P0_ k_) (h:slices_Insert_raw.f l0 a1 l2=some r) :
  Calls Tryz.prog 55 #[u9000_,.int .i64 a1,u9001_] w fun e w'=>∃ v0_:Value,e=.returned (v0_)∧Kd.R (Kd.raw 4) 83 w' w0.heap.size (fun k_=>((P0_ k_∨P2_ k_)∨w.heap.size≤k_)) v0_ r∧Below w0.heap.size w0 w'∧Kept w w' (fun k_=>(P0_ k_∨P2_ k_)):=by
 unfold slices_Insert_raw.f at h
 by_cases c1:0≤a1
 ·rw [if_pos c1] at h
  by_cases c2:a1≤(l0.length:Int)
  ·rw [if_pos c2] at h
   by_cases c3:l2.length=1
   ·rw [if_pos c3] at h
    by_cases c4:l0.length+1<2513169434916
    ·rw [if_pos c4] at h
     obtain rfl:=Option.some.inj h
     by_cases e:a1=(l0.length:Int)
     ·subst e;have:=slices_Insert_raw_end P0_ u9000_ l0 P2_ u9001_ l2 w0 w hB ho0 ho2 c4 c3;rw [Int.toNat_natCast,List.take_length,List.drop_length,List.append_nil]
      exact this
     ·obtain ⟨i,rfl⟩:∃ i:Nat,a1=i:=⟨a1.toNat,by omega⟩
      have hi:i<l0.length:=by omega
      rw [Int.toNat_natCast]
      rcases r_row ho0 with ⟨_,h0⟩ | ⟨g,cap,cur,hu,_⟩
      ·subst h0;simp at hi
      ·by_cases hr:l0.length+1≤cap
       ·exact slices_Insert_raw_room P0_ u9000_ l0 P2_ u9001_ l2 i g cap w0 w hB ho0 hp0_2 ho2 c3 hi hu hr
       ·exact slices_Insert_raw_grow P0_ u9000_ l0 P2_ u9001_ l2 i g cap w0 w hB ho0 ho2 c3 hi hu hr c4
    ·rw [if_neg c4] at h;cases h
   ·rw [if_neg c3] at h;cases h
  ·rw [if_neg c2] at h;cases h
 ·rw [if_neg c1] at h;cases h
section
variable {α : Type} {d : Kd α} {e base : Nat} {w W : World} {ok okr : Nat → Prop} {v : Value} {xs : List α}
theorem S_cells (h:Kd.S d e w base ok v xs):∃ (rows:List (List Value)) (okj:Nat→Nat→Prop),rows.length=xs.length∧(Kd.raw d.sz).R e w base (fun k=>some k=v.ownBlock) v rows∧(∀ i j k,okj i k→okj j k→i=j)∧(∀ j k,okj j k→ok k∧some k≠v.ownBlock∧k<w.heap.size∧∃ q,q ∈ d.E∧∃ cells,w.heap[k]? = some (.cells cells q (0,0)))∧(∀ k,v.ownBlock=some k→ok k)∧∀ j x c,xs[j]? = some x→rows[j]? = some c→d.M w base (okj j) x c:=by
 obtain ⟨f,hok0,inner,ho,hr⟩:=h
 have hl:inner.length=xs.length * d.sz:=by have:=hr.1;rw [List.length_zipIdx] at this;exact this
 rw [List.length_zipIdx] at ho
 have hmem:∀ j c,((List.range xs.length).map fun j=>(inner.drop (j * d.sz)).take d.sz)[j]? = some c→j<xs.length∧c=(inner.drop (j * d.sz)).take d.sz:=by
  intro j c hj
  rw [List.getElem?_map] at hj
  obtain ⟨q,hq,rfl⟩:=Option.map_eq_some_iff.1 hj;obtain ⟨hlt,he⟩:=List.getElem?_eq_some_iff.1 hq
  rw [List.getElem_range] at he
  subst he
  rw [List.length_range] at hlt
  exact ⟨hlt,rfl⟩
 refine ⟨(List.range xs.length).map fun j=>(inner.drop (j * d.sz)).take d.sz,fun j k=>((ok k∧some k≠v.ownBlock)∧f k=j)∧k<w.heap.size∧∃ q,q ∈ d.E∧∃ cells,w.heap[k]? = some (.cells cells q (0,0)),by rw [List.length_map,List.length_range],⟨fun k hk=>hk.symm,inner,?_,?_,fun j p hj=>?_⟩,fun i j k hi hj=>hi.1.2.symm.trans hj.1.2,fun j k hk=>⟨hk.1.1.1,hk.1.1.2,hk.2.1,hk.2.2⟩,hok0,fun j x c hx hc=>?_⟩
 ·rw [List.length_map,List.length_range];exact ho
 ·rw [List.length_map,List.length_range];exact hl
 ·obtain ⟨hlt,rfl⟩:=hmem j p hj;have hm:=d.K_of_M (hr.2 j _ (Kd.zip_at (List.getElem?_eq_getElem hlt)))
  exact ⟨rfl,d.K_len hm,d.K_one hm⟩
 ·obtain ⟨hlt,rfl⟩:=hmem j c hc
  exact d.M_mono (fun k hk=>⟨hk.1,hk.2.2.1,hk.2.2.2⟩) (d.M_bound (hr.2 j (x,j) (Kd.zip_at hx)))
theorem S_of_cells {rows:List (List Value)} (h:(Kd.raw d.sz).R e w base okr v rows) (hl:rows.length=xs.length) (okj:Nat→Nat→Prop) (hap:∀ i j k,okj i k→okj j k→i=j) (hok:∀ j k,okj j k→ok k∧some k≠v.ownBlock) (hv:∀ k,v.ownBlock=some k→ok k) (hM:∀ j x c,xs[j]? = some x→rows[j]? = some c→d.M w base (okj j) x c):Kd.S d e w base ok v xs:=by
 obtain ⟨_,inner,ho,hr⟩:=h
 have hil:inner.length=xs.length * d.sz:=by rw [← hl];exact hr.1
 obtain ⟨f,hf⟩:=Kd.reps_tag (d:=d) (w:=w) (base:=base) (ok:=fun k=>ok k∧some k≠v.ownBlock) (xs:=xs) okj hap hok hil (fun j x hx=>by
  have hj:j<rows.length:=by rw [hl];exact (List.getElem?_eq_some_iff.1 hx).1
  have hc:=hr.2 j rows[j] (List.getElem?_eq_getElem hj);rw [show (inner.drop (j * d.sz)).take d.sz=rows[j] from hc.1]
  exact hM j x _ hx (List.getElem?_eq_getElem hj))
 refine ⟨f,hv,inner,?_,hf⟩;rw [List.length_zipIdx,← hl]
 exact ho
theorem ins_lt {β:Type} (L:List β) (y:β) (i j:Nat) (hi:i≤L.length) (h:j<i):(L.take i++[y]++L.drop i)[j]? = L[j]?:=by
 rw [List.append_assoc,List.getElem?_append_left (by rw [List.length_take];omega),List.getElem?_take,if_pos h]
theorem ins_at {β:Type} (L:List β) (y:β) (i:Nat) (hi:i≤L.length):(L.take i++[y]++L.drop i)[i]? = some y:=by
 rw [List.append_assoc,List.getElem?_append_right (by rw [List.length_take];omega),List.length_take,Nat.min_eq_left hi,Nat.sub_self]
 rfl
theorem ins_gt {β:Type} (L:List β) (y:β) (i j:Nat) (hi:i≤L.length) (h:i<j):(L.take i++[y]++L.drop i)[j]? = L[j - 1]?:=by
 rw [List.getElem?_append_right (by rw [List.length_append,List.length_take];simp;omega),List.getElem?_drop,List.length_append,List.length_take,Nat.min_eq_left hi,List.length_singleton]
 congr 1
 omega
end
theorem slices_Insert_rows.calls (P0_:Nat→Prop) (u:Value) (l0:List S83) (a1:Int) (P2_:Nat→Prop) (u2:Value) (x:S83) (c2:List Value) (w0 w:World) (hB:Below w0.heap.size w0 w) (ho0:Kd.S k83 83 w w0.heap.size P0_ u l0) (ho2:(Kd.raw 4).R 83 w w0.heap.size P2_ u2 [c2]) (hx:∀ W b,k83.M W b (fun _=>False) x c2) (hne:∀ k,some k=u.ownBlock→¬ some k=u2.ownBlock) (h1:0≤a1) (h2:a1≤(l0.length:Int)) (h3:l0.length+1<2513169434916) :
  Calls Tryz.prog 55 #[u,.int .i64 a1,u2] w fun e w'=>∃ v0_:Value,e=.returned (v0_)∧Kd.S k83 83 w' w0.heap.size (fun k_=>((P0_ k_∨P2_ k_)∨w.heap.size≤k_)) v0_ (l0.take a1.toNat++[x]++l0.drop a1.toNat)∧Below w0.heap.size w0 w'∧Kept w w' (fun k_=>P0_ k_∨P2_ k_):=by
 obtain ⟨rows,okj,hrl,hraw,hap,hokj,hv0,hM⟩:=S_cells ho0
 have hi:a1.toNat≤rows.length:=by omega
 have hi':a1.toNat≤l0.length:=by omega
 refine (slices_Insert_raw.calls (fun k=>some k=u.ownBlock) u rows a1 (fun k=>some k=u2.ownBlock) u2 [c2] (rows.take a1.toNat++[c2]++rows.drop a1.toNat) w0 w hB hraw hne (Kd.R_tight rfl ho2) (fun k p q=>hne k q p) ?_).mono ?_
 ·unfold slices_Insert_raw.f
  rw [if_pos h1,if_pos (by rw [hrl];exact h2),if_pos (show [c2].length=1 from rfl),if_pos (by rw [hrl];exact h3)]
 ·rintro e w' ⟨v0,rfl,hR,hb,hk⟩
  have hout:∀ j k,okj j k→¬ (some k=u.ownBlock∨some k=u2.ownBlock):=by
   intro j k hj hs;obtain ⟨_,hu,_,q,hq,cells,hc⟩:=hokj j k hj
   rcases hs with hs|hs
   ·exact hu hs
   ·obtain ⟨cells2,hc2⟩:=Kd.R_typed ho2 k hs.symm
    rw [hc] at hc2
    injection hc2 with hc2
    injection hc2 with _ hc2
    subst hc2
    revert hq
    decide
  have hv:∀ j k,okj j k→some k≠v0.ownBlock:=by
   intro j k hj he
   rcases hR.1 k he.symm with hs|hs
   ·exact hout j k hj hs
   ·have:=(hokj j k hj).2.2.1;omega
  refine ⟨v0,rfl,?_,hb,Kept.mono hk (fun k hs=>hs.elim (fun q=>.inl (hv0 k q.symm)) (fun q=>.inr (ho2.1 k q.symm)))⟩;refine S_of_cells hR (by simp;omega) (fun j k=>(j<a1.toNat∧okj j k)∨(a1.toNat<j∧okj (j - 1) k)) ?_ ?_ ?_ ?_
  ·rintro i j k (⟨p,q⟩ | ⟨p,q⟩) (⟨p2,q2⟩ | ⟨p2,q2⟩)
   all_goals have:=hap _ _ _ q q2
   all_goals omega
  ·rintro j k (⟨_,q⟩ | ⟨_,q⟩)
   all_goals exact ⟨.inl (.inl (hokj _ k q).1),hv _ k q⟩
  ·intro k hk2
   rcases hR.1 k hk2 with (hs|hs)|hs
   ·exact .inl (.inl (hv0 k hs.symm))
   ·exact .inl (.inr (ho2.1 k hs.symm))
   ·exact .inr hs
  ·intro j y c hy hc
   have mv:∀ j y c,k83.M w w0.heap.size (okj j) y c→k83.M w' w0.heap.size (okj j) y c:=fun j y c hm=>k83.M_move (fun k hk3=>hk.2 k (hokj j k hk3).2.2.1 (hout j k hk3)) hm
   rcases Nat.lt_trichotomy j a1.toNat with hj|hj|hj
   ·rw [ins_lt l0 x _ j hi' hj] at hy
    rw [ins_lt rows c2 _ j hi hj] at hc
    exact k83.M_mono (fun k hk3=>.inl ⟨hj,hk3⟩) (mv j y c (hM j y c hy hc))
   ·subst hj
    rw [ins_at l0 x _ hi'] at hy
    rw [ins_at rows c2 _ hi] at hc
    obtain rfl:=Option.some.inj hy;obtain rfl:=Option.some.inj hc
    exact k83.M_mono (fun k hk3=>hk3.elim) (hx w' w0.heap.size)
   ·rw [ins_gt l0 x _ j hi' hj] at hy
    rw [ins_gt rows c2 _ j hi hj] at hc
    exact k83.M_mono (fun k hk3=>.inr ⟨hj,hk3⟩) (mv (j - 1) y c (hM (j - 1) y c hy hc))
end Go.Proofs.YtomoflpgdbjojaaGreat.QO
