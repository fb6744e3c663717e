-- Merged by a program of this session (wip/tool/pack.py) out of its own texts for this claim.
import Derived.Test.YtogkcllenfkdmaaGreatDoorKFnExactPaperRight0
import Derived.Test.YtogkcllenfkdmaaGreatDoorKFnExactPaperRight1
import Derived.Test.YtogkcllenfkdmaaGreatDoorKFnExactPaperRight2
import Derived.Test.YtogkcllenfkdmaaGreatDoorKFnExactPaperRight3
import Derived.Test.YtogkcllenfkdmaaGreatDoorKFnExactPaperRight4
import Derived.Test.YtogkcllenfkdmaaGreatDoorKFnExactPaperRight12
import Derived.Test.YtogkcllenfkdmaaGreatDoorKFnExactPaperRight13
namespace Go.Proofs.YtogkcllenfkdmaaGreatDoor.QR
open Go.RowKit Go.Proofs.YtogkcllenfkdmaaGreatDoorW.PrintWords Go.Proofs.YtogkcllenfkdmaaGreatDoorW.PrintLast Go.Proofs.YtogkcllenfkdmaaGreatDoorW.PrintMore
attribute [local go_sem] max2_int min2_int max_two min_two max_three min_three max_four min_four   -- for this text's walks alone
set_option linter.unusedVariables false
set_option linter.unusedSimpArgs false
def impl_bodyOf.T13:Bool × List (List Nat × List Nat):=(true,[([],[]),([],[]),([1],[1]),([2],[2]),([],[]),([4],[4]),([],[]),([5,6,3],[5,6]),([3,7,7],[3,7]),([8],[8]),([0,9,8],[0,9]),([10,10,0,1,2,3,4,5,6,7,8,9,10],[0,10])])
def impl_bodyOf.B13:List Nat:=[0,0,2,6,0,16,0,126,254,510,1023,2047]
theorem impl_bodyOf.tab13:rtab .any (opsOf Tryz.f41 13)=impl_bodyOf.T13:=by kernel_rfl
theorem impl_bodyOf.bits13:waitsOk impl_bodyOf.T13.2 impl_bodyOf.B13=true:=by kernel_rfl
set_option maxHeartbeats 8000000 in
set_option maxRecDepth 100000 in
theorem impl_bodyOf.calls (k:Nat) (a0_0:Int) (a0_1:ByteArray) (a0_2:ByteArray) (a0_3:Int) (A0_4:Option Addr) (c0_4:Nat) (l0_4:List ByteArray) (A0_5:Option Addr) (c0_5:Nat) (l0_5:List (S71)) (r:List (S62)) (w:World) (hr0_4:Kd.C Kd.string w A0_4 l0_4.length l0_4) (hc0_4:l0_4.length≤c0_4) (hr0_5:Kd.C k71 w A0_5 l0_5.length l0_5) (hc0_5:l0_5.length≤c0_5) (hTF:TbF w) (H:impl_bodyOf.f k a0_0 a0_1 a0_2 a0_3 l0_4 l0_5=some r) :
  Calls Tryz.prog 41 #[.agg #[.int .i64 a0_0,.string a0_1,.string a0_2,.int .i64 a0_3,.slice A0_4 l0_4.length c0_4,.slice A0_5 l0_5.length c0_5]] w fun e w'=>∃ v0_:Value,e=.returned (v0_)∧Kd.N k62 62 w' w.heap.size (fun k_=>(w.heap.size≤k_)) v0_ r∧Below w.heap.size w w':=by
 have HTF:=am hTF;clear hTF
 have hu30:=Tryz.underlying30;have hu71:=Tryz.underlying71;have HR0_4:=am hr0_4;have HC0_4:=am hc0_4;clear hr0_4 hc0_4;have HR0_5:=am hr0_5;have HC0_5:=am hc0_5;clear hr0_5 hc0_5;have HB:=am (Below.refl w.heap.size w);unfold impl_bodyOf.f at H;obtain ⟨y517,hy517⟩:∃ y_:List ByteArray,y_=(([a0_1]:List ByteArray)):=⟨_,rfl⟩
 replace H:((impl_hasTwo.f a0_0).bind fun t520=>(if t520=true then (if y517.length<8796093022208 then (impl_bodyOf.j0 k (y517++[a0_2]) a0_0 a0_1 a0_2 a0_3 l0_4 l0_5) else (none)) else (impl_bodyOf.j0 k y517 a0_0 a0_1 a0_2 a0_3 l0_4 l0_5)))=some r:=ye hy517 H
 have Ny517:=am hy517;clear hy517;replace H:=bo H;obtain ⟨t520,A2,H⟩:=H
 go_in
 try go_wp2_with (first|((with_reducible refine gate_dst (N:=1) rfl ?_);refine bx 1 (cs:=#[.int .i64 a0_0,.string a0_1,.string a0_2,.int .i64 a0_3,.slice A0_4 l0_4.length c0_4,.slice A0_5 l0_5.length c0_5]) (t:=30) ?_;intro gb516 hg w3 hbox hb;have BK516:=am (hbox);have GW516:=am ((gs hg (bs HB)));have GE516:=am ((gs hg (bs HB)));replace HB:=am (below_step (bs HB) hb);clear hb hbox hg;have hcz4_0:w3.cell? ⟨gb516,0,none⟩=some (.int .i64 a0_0):=(blk_cell BK516.out 0).trans rfl;have hcz4_1:w3.cell? ⟨gb516,1,none⟩=some (.string a0_1):=(blk_cell BK516.out 1).trans rfl;have hcz4_2:w3.cell? ⟨gb516,2,none⟩=some (.string a0_2):=(blk_cell BK516.out 2).trans rfl;have hcz4_3:w3.cell? ⟨gb516,3,none⟩=some (.int .i64 a0_3):=(blk_cell BK516.out 3).trans rfl;have hcz4_4:w3.cell? ⟨gb516,4,none⟩=some (.slice A0_4 l0_4.length c0_4):=(blk_cell BK516.out 4).trans rfl;have hcz4_5:w3.cell? ⟨gb516,5,none⟩=some (.slice A0_5 l0_5.length c0_5):=(blk_cell BK516.out 5).trans rfl;have hfz4_0:=blk_frozen BK516.out 0;have hfz4_1:=blk_frozen BK516.out 1;have hfz4_2:=blk_frozen BK516.out 2;have hfz4_3:=blk_frozen BK516.out 3;have hfz4_4:=blk_frozen BK516.out 4;have hfz4_5:=blk_frozen BK516.out 5)|((with_reducible refine gate_dst (N:=11) rfl ?_);refine Kd.R_lit Kd.string _ 9 ?hg (N:=11) ?hd (xs:=([a0_1]:List ByteArray)) (inner:=[.string a0_1]) (ok:=fun _=>True) (okp:=fun _=>True) ?hr ?hp (fun _ hk=>hk) trivial (Below.refl _ _) (Nat.le_refl _) (by simp) ?_;(case hd=>rfl);(case hg=>rfl);(case hr=>first|(go_simp;done)|(go_simp;rfl));(case hp=>exact (Reps.one (show Kd.M Kd.string _ _ _ a0_1 [.string a0_1] from rfl) (Reps.none _ _)));intro v518 w5 ho6 hb hg_ hnew_;clear hg_ hnew_;(first|rw [← Ny517.out] at ho6|(simp only [Int.reduceToNat] at ho6;rw [← Ny517.out] at ho6));have HO519:=am (Kd.R_lower (Kd.R_newM (M:=fun k_=>(w.heap.size≤k_)) ho6 (below_size (bs HB)) (fun k_ h_=>h_)) (below_size (bs HB)));replace BK516:=am (blk_below (ks BK516) hb);replace HB:=am (below_step (bs HB) hb);clear hb ho6;have hcz7:=cf6 BK516))
 go_at_call 81;(with_reducible refine (impl_hasTwo.calls a0_0 t520 _ A2.out).mono ?_);rintro e w' ⟨rfl,⟨nd,rfl⟩⟩;have HC8:=am H;clear H
 go_upto_if 14 with (fail)
 go_cut [3] (fun v3 wc=>∃ (kq:Nat) (x3_7:List ByteArray),Aside0 (impl_bodyOf.j0 kq x3_7 a0_0 a0_1 a0_2 a0_3 l0_4 l0_5=some r)∧Aside0 (kq≤k)∧Aside0 (Kd.R Kd.string 9 wc w.heap.size (fun k_=>(w.heap.size≤k_)) v3 x3_7)∧Aside0 (wc.heap[gb516]? = some (.cells #[.int .i64 a0_0,.string a0_1,.string a0_2,.int .i64 a0_3,(.slice A0_4 l0_4.length c0_4),(.slice A0_5 l0_5.length c0_5)] 30 (0,0)))∧Aside0 (Below w.heap.size w wc))
 case first =>
  have H:=HC8.out;clear HC8
  obtain rfl|rfl:=bt t520
  ·replace H:=itT H
   revert H;refine ip1 ?_
   intro c10 H;have LMc10:=am c10;clear c10;obtain ⟨y521,hy521⟩:∃ y_:List ByteArray,y_=(y517++[a0_2]):=⟨_,rfl⟩
   replace H:(impl_bodyOf.j0 k y521 a0_0 a0_1 a0_2 a0_3 l0_4 l0_5)=some r:=ye hy521 H
   have Ny521:=am hy521;clear hy521;have H':=am H;clear H;have hcz11:=cf6 BK516
   go_wp2_with (first|((with_reducible refine gate_builtin (b:=.append) (xs:=#[.tmp 15,.tmp 18]) rfl ?_);at_builtin;refine Kd.R_append Kd.string (w0:=w) w.heap.size rfl (.tmp 15) (.tmp 18) 22 9 (.string ⟨#[]⟩) 16 rfl Tryz.underlying22 info9 rfl (by decide) (by omega) v518 y517 a0_2 [.string a0_2] (fun k_=>(w.heap.size≤k_)) (fun _=>False) rfl rfl ?aP (fun _ hk=>hk.elim) ?aF ?aO ?aB ?aS ?aL ?_;(case aP=>exact rfl);(case aB=>exact (bs HB));(case aF=>exact (fun k_ hk=>(Nat.le_trans (below_size (bs HB)) hk)));(case aO=>exact (by (with_reducible repeat (first|apply Kd.R_alloc|apply Kd.R_drewN|apply Kd.R_drew));exact Kd.R_mono HO519.out (fun _ hk=>hk.1)));(case aS=>exact (below_size (bs HB)));(case aL=>have:=LMc10.out;omega);intro v522 w12 ho hb hg hat;rw [← Ny521.out] at ho;have n0_:=am (blk_grown (ks BK516) hg (Kd.R_ne HO519.out BK516.out (by decide)));have n1_:=am (hb);have n2_:=am (ho);clear BK516;clear HB;clear HO519;have BK516:=n0_;have HB:=n1_;have HO523:=n2_;clear n0_ n1_ n2_;clear ho hb hg hat))
   go_meet
   case rel=>exact ⟨_,(y521),H',⟨fl⟩,⟨by (with_reducible repeat (first|apply Kd.R_alloc|apply Kd.R_drewN|apply Kd.R_drew));exact HO523.out⟩,⟨ks BK516⟩,⟨bs HB⟩⟩
  ·replace H:=itF H;have H':=am H;clear H
   go_wp2
   go_meet
   case rel=>exact ⟨_,(y517),H',⟨fl⟩,⟨by (with_reducible repeat (first|apply Kd.R_alloc|apply Kd.R_drewN|apply Kd.R_drew));exact Kd.R_mono HO519.out (fun _ hk=>hk.1)⟩,⟨ks BK516⟩,⟨bs HB⟩⟩
 case rest =>
  clear HC8
  try clear hcz7
  obtain ⟨kq,x3_7,HA,HJ7,HO_3,BK516,HB⟩:=hcut
  cases kq with
  | zero=>exact absurd HA.out (by simp [impl_bodyOf.j0])
  | succ kj7 =>
   have H:=HA.out;clear HA;simp only [impl_bodyOf.j0] at H;replace H:=bo H;obtain ⟨t524,A13,H⟩:=H
   revert H;refine ip2 ?_ ?_
   ·intro c14 H;have LMc14:=am c14;clear c14;obtain ⟨y525,hy525⟩:∃ y_:List ByteArray,y_=(x3_7++[t524]):=⟨_,rfl⟩
    replace H:((impl_plain.f kj7 (⟨#[68,79,67]⟩:ByteArray) y525).bind fun bt528=>(impl_bodyOf.l0 kj7 (([(⟨bt528.1,bt528.2⟩:S62)]:List (S62))) l0_4 (l0_4.length:Int) 0 a0_0 a0_1 a0_2 a0_3 l0_4 l0_5))=some r:=ye hy525 H
    have Ny525:=am hy525;clear hy525;replace H:=bo H;obtain ⟨⟨t528,t529⟩,A15,H⟩:=H;(try dsimp only at H);obtain ⟨y532,hy532⟩:∃ y_:List (S62),y_=(([(⟨t528,t529⟩:S62)]:List (S62))):=⟨_,rfl⟩
    replace H:(impl_bodyOf.l0 kj7 y532 l0_4 (l0_4.length:Int) 0 a0_0 a0_1 a0_2 a0_3 l0_4 l0_5)=some r:=ye hy532 H
    have Ny532:=am hy532;clear hy532;have H':=am H;clear H;have hcz16:=cf6 BK516
    go_wp2_with (first|((first|((with_reducible refine gate_callee (f:=83) rfl ?_);refine goesL_ (some 23) rfl rfl Tryz.func83 (by kernel_rfl) rfl #[.int .i64 a0_3] rfl (by (try simp only [List.map_toArray,List.map_cons,List.map_nil]);first|done|rfl|(simp only [List.length_drop,List.length_take];rfl)) ?_;(with_reducible refine (impl_decimal.calls a0_3 t524 _ (tbF HTF (bs HB)) A13.out).mono ?_);rintro e w17 ⟨rfl,hb⟩;refine ⟨_,rfl,?_⟩)|(go_at_call 83;(with_reducible refine (impl_decimal.calls a0_3 t524 _ (tbF HTF (bs HB)) A13.out).mono ?_);rintro e w17 ⟨rfl,hb⟩));replace HO_3:=am (Kd.R_below (rs HO_3) hb);replace BK516:=am (blk_below (ks BK516) hb);replace HB:=am (below_step (bs HB) hb);(try clear hb);(try clear hb2);(try clear hk);(try clear hi))|((with_reducible refine gate_builtin (b:=.append) (xs:=#[.tmp 20,.tmp 24]) rfl ?_);at_builtin;refine Kd.R_append Kd.string (w0:=w) w.heap.size rfl (.tmp 20) (.tmp 24) 22 9 (.string ⟨#[]⟩) 16 rfl Tryz.underlying22 info9 rfl (by decide) (by omega) u3 x3_7 t524 [.string t524] (fun k_=>(w.heap.size≤k_)) (fun _=>False) rfl rfl ?aP (fun _ hk=>hk.elim) ?aF ?aO ?aB ?aS ?aL ?_;(case aP=>exact rfl);(case aB=>exact (bs HB));(case aF=>exact (fun k_ hk=>(Nat.le_trans (below_size (bs HB)) hk)));(case aO=>exact (rs HO_3));(case aS=>exact (below_size (bs HB)));(case aL=>have:=LMc14.out;omega);intro v526 w18 ho hb hg hat;rw [← Ny525.out] at ho;have n0_:=am (blk_grown (ks BK516) hg (Kd.R_ne HO_3.out BK516.out (by decide)));have n1_:=am (hb);have n2_:=am (ho);clear BK516;clear HB;clear HO_3;have BK516:=n0_;have HB:=n1_;have HO527:=n2_;clear n0_ n1_ n2_;clear ho hb hg hat;obtain ⟨Ao19,co19,eo19⟩:=Kd.R_slice HO527.out;subst eo19)|((first|((with_reducible refine gate_callee (f:=82) rfl ?_);refine goesL_ (some 26) rfl rfl Tryz.func82 (by kernel_rfl) rfl #[.string (⟨#[68,79,67]⟩:ByteArray),.slice Ao19 y525.length co19] rfl (by (try simp only [List.map_toArray,List.map_cons,List.map_nil]);first|done|rfl|(simp only [List.length_drop,List.length_take];rfl)) ?_;(with_reducible refine (impl_plain.calls kj7 (⟨#[68,79,67]⟩:ByteArray) _ _ y525 t528 t529 _ ?side1 ?side2 A15.out).mono ?_);(case side1=>repeat (first|exact (Kd.R_reads' HO527.out).2.2|(with_reducible refine Kd.C_alloc ?_ _)|(with_reducible refine Kd.C_drewN ?_ _)|(with_reducible refine Kd.C_drew ?_)));(case side2=>exact (Kd.R_reads' HO527.out).2.1);rintro e w20 ⟨v530,rfl,ho0,hb⟩;refine ⟨_,rfl,?_⟩)|(go_at_call 82;(with_reducible refine (impl_plain.calls kj7 (⟨#[68,79,67]⟩:ByteArray) _ _ y525 t528 t529 _ ?side1 ?side2 A15.out).mono ?_);(case side1=>repeat (first|exact (Kd.R_reads' HO527.out).2.2|(with_reducible refine Kd.C_alloc ?_ _)|(with_reducible refine Kd.C_drewN ?_ _)|(with_reducible refine Kd.C_drew ?_)));(case side2=>exact (Kd.R_reads' HO527.out).2.1);rintro e w20 ⟨v530,rfl,ho0,hb⟩));have HO531:=am (Kd.N_lower (Kd.N_mono (ok':=fun k_=>(w.heap.size≤k_)∧some k_≠(.slice Ao19 y525.length co19:Value).ownBlock∧k_≠gb516) (Kd.S_N (Kd.S_bound ho0)) (fun k_ hk_=>⟨(Nat.le_trans (below_size (bs HB)) hk_.2.1),(Kd.fresh' (Kd.R_lt (rs HO527)) k_ hk_.2.1),(Kd.freshB (g:=gb516) (o:=.cells #[.int .i64 a0_0,.string a0_1,.string a0_2,.int .i64 a0_3,.slice A0_4 l0_4.length c0_4,.slice A0_5 l0_5.length c0_5] 30 (0,0)) (ks BK516) k_ hk_.2.1)⟩)) (below_size (bs HB)));replace HO527:=am (Kd.R_below (rs HO527) hb);replace BK516:=am (blk_below (ks BK516) hb);replace HB:=am (below_step (bs HB) hb);(try clear hb);(try clear hb2);(try clear hk);(try clear hi);(try clear ho0);obtain ⟨Ao21,co21,eo21⟩:=Kd.N_slice HO531.out;subst eo21)|((with_reducible refine gate_dst (N:=27) rfl ?_);refine Kd.N_lit k62 _ 62 ?hg (N':=27) ?hd (xs:=([(⟨t528,t529⟩:S62)]:List (S62))) (inner:=[.string t528,.slice Ao21 t529.length co21]) (ok:=(fun k_=>(w.heap.size≤k_)∧some k_≠(.slice Ao19 y525.length co19:Value).ownBlock∧k_≠gb516)) (okp:=(fun k_=>(w.heap.size≤k_)∧some k_≠(.slice Ao19 y525.length co19:Value).ownBlock∧k_≠gb516)) ?hr ?hp (fun _ hk=>hk) ((show ∀ k_,w20.heap.size≤k_→(fun k_=>(w.heap.size≤k_)∧some k_≠(.slice Ao19 y525.length co19:Value).ownBlock∧k_≠gb516) k_ from fun k_ hk=>⟨(Nat.le_trans (below_size (bs HB)) hk),Kd.fresh' (Kd.R_lt (rs HO527)) k_ hk,Kd.freshB (g:=gb516) (o:=.cells #[.int .i64 a0_0,.string a0_1,.string a0_2,.int .i64 a0_3,.slice A0_4 l0_4.length c0_4,.slice A0_5 l0_5.length c0_5] 30 (0,0)) (ks BK516) k_ hk⟩) _ (Nat.le_refl _)) (Below.refl _ _) (Nat.le_refl _) (by simp) ?_;(case hd=>rfl);(case hg=>rfl);(case hr=>first|(go_simp;done)|(go_simp;rfl));(case hp=>exact (Reps.c2 (show Kd.FK k62 _ _ (⟨t528,t529⟩:S62) [.string t528,.slice Ao21 t529.length co21] from (k62_mkF _ _ (⟨t528,t529⟩:S62) (Kd.N_reads' (Kd.N_mono (ok':=(fun k_=>(w.heap.size≤k_)∧some k_≠(.slice Ao19 y525.length co19:Value).ownBlock∧k_≠gb516)) (HO531.out) (fun k_ hk=>⟨hk.1,⟨hk.2.1,hk.2.2⟩⟩))).2.1 (Kd.N_F (Kd.N_mono (ok':=(fun k_=>(w.heap.size≤k_)∧some k_≠(.slice Ao19 y525.length co19:Value).ownBlock∧k_≠gb516)) (HO531.out) (fun k_ hk=>⟨hk.1,⟨hk.2.1,hk.2.2⟩⟩))))) (Reps.none _ _)));intro v533 w22 ho23 hb hg_ hnew_;clear hg_ hnew_;(first|rw [← Ny532.out] at ho23|(simp only [Int.reduceToNat] at ho23;rw [← Ny532.out] at ho23));have n0_:=am (Kd.R_below (rs HO527) hb);have n1_:=am (Kd.N_lower ho23 (below_size (bs HB)));have n2_:=am (blk_below (ks BK516) hb);have n3_:=am (below_step (bs HB) hb);clear HO527;clear BK516;clear HB;clear HO531;have HO527:=n0_;have HO534:=n1_;have BK516:=n2_;have HB:=n3_;clear n0_ n1_ n2_ n3_;clear hb ho23;have hcz24:=cf6 BK516))
    go_loopg [4,31] kj7 (fun kq v4 v31 w'=>∃ (x4_2:List (S62)) (x31_2:Int),v31=.int .i64 x31_2∧Aside0 (impl_bodyOf.l0 kq x4_2 l0_4 (l0_4.length:Int) x31_2 a0_0 a0_1 a0_2 a0_3 l0_4 l0_5=some r)∧Aside0 (kq≤kj7)∧Aside0 (Kd.N k62 62 w' w.heap.size (fun k_=>(w.heap.size≤k_)∧k_≠gb516) v4 x4_2)∧Aside0 (w'.heap[gb516]? = some (.cells #[.int .i64 a0_0,.string a0_1,.string a0_2,.int .i64 a0_3,(.slice A0_4 l0_4.length c0_4),(.slice A0_5 l0_5.length c0_5)] 30 (0,0)))∧Aside0 (Below w.heap.size w w'))
    case atStart=>exact ⟨(y532),(0),fg,H',⟨Nat.le_refl _⟩,⟨by (with_reducible repeat (first|apply Kd.N_alloc|apply Kd.N_drewN|apply Kd.N_drew));exact Kd.N_mono HO534.out (fun _ hk=>⟨hk.1,hk.2.2⟩)⟩,⟨ks BK516⟩,⟨bs HB⟩⟩
    case round =>
     clear H'
     try clear c2
     try clear c14
     try clear hcz16
     try clear hcz24
     try clear hcz7
     obtain ⟨x4_2,x31_2,rfl,HA,HK2,HO_4,BK516,HB⟩:=hrel
     cases gk with
     | zero=>exact absurd HA.out (by simp [impl_bodyOf.l0])
     | succ k2 =>
      have H:=HA.out;clear HA;simp only [impl_bodyOf.l0] at H
      revert H;refine id2 ?_ ?_
      ·intro c25b0 H
       revert H;refine id1 ?_
       intro c26b0 H
       revert H;refine id1 ?_
       intro c27b0 H;obtain ⟨y536,hy536⟩:∃ y_:List ByteArray,y_=(([rdOf ByteArray.empty l0_4 x31_2]:List ByteArray)):=⟨_,rfl⟩
       replace H:((impl_plain.f k2 (⟨#[78,79,84]⟩:ByteArray) y536).bind fun bt539=>(if x4_2.length<3518437208883 then (impl_bodyOf.l0 k2 (x4_2++[(⟨bt539.1,bt539.2⟩:S62)]) l0_4 (l0_4.length:Int) (wrap64 (x31_2+1)) a0_0 a0_1 a0_2 a0_3 l0_4 l0_5) else (none)))=some r:=ye hy536 H
       have Ny536:=am hy536;clear hy536;replace H:=bo H;obtain ⟨⟨t539,t540⟩,A28,H⟩:=H;(try dsimp only at H)
       revert H;refine ip1 ?_
       intro c29 H;have LMc29:=am c29;clear c29;obtain ⟨y543,hy543⟩:∃ y_:List (S62),y_=(x4_2++[(⟨t539,t540⟩:S62)]):=⟨_,rfl⟩
       replace H:(impl_bodyOf.l0 k2 y543 l0_4 (l0_4.length:Int) (wrap64 (x31_2+1)) a0_0 a0_1 a0_2 a0_3 l0_4 l0_5)=some r:=ye hy543 H
       have Ny543:=am hy543;clear hy543;have H':=am H;clear H;have p535:0≤(x31_2:Int):=oa;have q535:x31_2<(l0_4.length:Int):=oa;obtain ⟨ad535,e535,hx535_0⟩:=Kd.at_string HR0_4.out x31_2 p535 q535
       cases e535
       replace hx535_0:=cb HB hx535_0;replace p535:=eq_true p535;replace q535:=eq_true q535
       go_wp2_with (first|((with_reducible refine gate_dst (N:=37) rfl ?_);refine Kd.R_lit Kd.string _ 9 ?hg (N:=37) ?hd (xs:=([rdOf ByteArray.empty l0_4 x31_2]:List ByteArray)) (inner:=[.string (rdOf ByteArray.empty l0_4 x31_2)]) (ok:=fun _=>True) (okp:=fun _=>True) ?hr ?hp (fun _ hk=>hk) trivial (Below.refl _ _) (Nat.le_refl _) (by simp) ?_;(case hd=>rfl);(case hg=>rfl);(case hr=>first|(go_simp;done)|(go_simp;rfl));(case hp=>exact (Reps.one (show Kd.M Kd.string _ _ _ (rdOf ByteArray.empty l0_4 x31_2) [.string (rdOf ByteArray.empty l0_4 x31_2)] from rfl) (Reps.none _ _)));intro v537 w30 ho31 hb hg_ hnew_;clear hg_ hnew_;(first|rw [← Ny536.out] at ho31|(simp only [Int.reduceToNat] at ho31;rw [← Ny536.out] at ho31));have n0_:=am (Kd.N_elder' (by (with_reducible repeat (first|apply Kd.N_alloc|apply Kd.N_drewN|apply Kd.N_drew));exact HO_4.out) (Kd.R_base ho31) hb);have n1_:=am (Kd.R_lower (Kd.R_newM (M:=fun k_=>(w.heap.size≤k_)) ho31 (below_size (bs HB)) (fun k_ h_=>h_)) (below_size (bs HB)));have n2_:=am (blk_below (ks BK516) hb);have n3_:=am (below_step (bs HB) hb);clear HO_4;clear BK516;clear HB;have HO_4:=n0_;have HO538:=n1_;have BK516:=n2_;have HB:=n3_;clear n0_ n1_ n2_ n3_;clear hb ho31;obtain ⟨Ao32,co32,eo32⟩:=Kd.R_slice HO538.out;subst eo32)|((first|((with_reducible refine gate_callee (f:=82) rfl ?_);refine goesL_ (some 38) rfl rfl Tryz.func82 (by kernel_rfl) rfl #[.string (⟨#[78,79,84]⟩:ByteArray),.slice Ao32 y536.length co32] rfl (by (try simp only [List.map_toArray,List.map_cons,List.map_nil]);first|done|rfl|(simp only [List.length_drop,List.length_take];rfl)) ?_;(with_reducible refine (impl_plain.calls k2 (⟨#[78,79,84]⟩:ByteArray) _ _ y536 t539 t540 _ ?side1 ?side2 A28.out).mono ?_);(case side1=>repeat (first|exact (Kd.R_reads' HO538.out).2.2|(with_reducible refine Kd.C_alloc ?_ _)|(with_reducible refine Kd.C_drewN ?_ _)|(with_reducible refine Kd.C_drew ?_)));(case side2=>exact (Kd.R_reads' HO538.out).2.1);rintro e w33 ⟨v541,rfl,ho0,hb⟩;refine ⟨_,rfl,?_⟩)|(go_at_call 82;(with_reducible refine (impl_plain.calls k2 (⟨#[78,79,84]⟩:ByteArray) _ _ y536 t539 t540 _ ?side1 ?side2 A28.out).mono ?_);(case side1=>repeat (first|exact (Kd.R_reads' HO538.out).2.2|(with_reducible refine Kd.C_alloc ?_ _)|(with_reducible refine Kd.C_drewN ?_ _)|(with_reducible refine Kd.C_drew ?_)));(case side2=>exact (Kd.R_reads' HO538.out).2.1);rintro e w33 ⟨v541,rfl,ho0,hb⟩));have n0_:=am (Kd.N_elder' (by (with_reducible repeat (first|apply Kd.N_alloc|apply Kd.N_drewN|apply Kd.N_drew));exact HO_4.out) (by first|exact Kd.N_base ho0|exact Kd.S_base ho0) hb);have n1_:=am (Kd.R_below (rs HO538) hb);have n2_:=am (Kd.N_lower (Kd.N_mono (ok':=fun k_=>(w.heap.size≤k_)∧some k_≠(u4:Value).ownBlock∧some k_≠(.slice Ao32 y536.length co32:Value).ownBlock∧k_≠gb516) (Kd.S_N (Kd.S_bound ho0)) (fun k_ hk_=>⟨(Nat.le_trans (below_size (bs HB)) hk_.2.1),(Kd.fresh' (Kd.N_lt (by (with_reducible repeat (first|apply Kd.N_alloc|apply Kd.N_drewN|apply Kd.N_drew));exact HO_4.out)) k_ hk_.2.1),(Kd.fresh' (Kd.R_lt (rs HO538)) k_ hk_.2.1),(Kd.freshB (g:=gb516) (o:=.cells #[.int .i64 a0_0,.string a0_1,.string a0_2,.int .i64 a0_3,.slice (some ad535) l0_4.length c0_4,.slice A0_5 l0_5.length c0_5] 30 (0,0)) (ks BK516) k_ hk_.2.1)⟩)) (below_size (bs HB)));have n3_:=am (blk_below (ks BK516) hb);have n4_:=am (below_step (bs HB) hb);clear HO_4;clear HO538;clear BK516;clear HB;have HO_4:=n0_;have HO538:=n1_;have HO542:=n2_;have BK516:=n3_;have HB:=n4_;clear n0_ n1_ n2_ n3_ n4_;(try clear hb);(try clear hb2);(try clear hk);(try clear hi);(try clear ho0);obtain ⟨Ao35,co35,eo35⟩:=Kd.N_slice HO542.out;subst eo35)|((with_reducible refine gate_builtin (b:=.append) (xs:=#[.tmp 35,.tmp 39]) rfl ?_);at_builtin;refine Kd.N_append k62 (w0:=w) w.heap.size rfl (.tmp 35) (.tmp 39) 40 62 (.agg #[(.string ⟨#[]⟩),(.slice none 0 0)]) 40 rfl Tryz.underlying40 info62 rfl (by decide) (by omega) u4 x4_2 (⟨t539,t540⟩:S62) [.string t539,.slice Ao35 t540.length co35] (fun k_=>(w.heap.size≤k_)∧some k_≠(.slice Ao32 y536.length co32:Value).ownBlock∧k_≠gb516) (fun k_=>((fun k_=>(w.heap.size≤k_)∧some k_≠(.slice Ao32 y536.length co32:Value).ownBlock∧k_≠gb516)) k_∧some k_≠(u4:Value).ownBlock) rfl rfl ?aP (fun _ hk=>hk) ?aF ?aO ?aB ?aS ?aL ?_;(case aP=>exact (k62_mkF _ _ (⟨t539,t540⟩:S62) (Kd.N_reads' (Kd.N_mono (ok':=(fun k_=>((fun k_=>(w.heap.size≤k_)∧some k_≠(.slice Ao32 y536.length co32:Value).ownBlock∧k_≠gb516)) k_∧some k_≠(u4:Value).ownBlock)) (HO542.out) (fun k_ hk=>⟨⟨hk.1,⟨hk.2.2.1,hk.2.2.2⟩⟩,hk.2.1⟩))).2.1 (Kd.N_F (Kd.N_mono (ok':=(fun k_=>((fun k_=>(w.heap.size≤k_)∧some k_≠(.slice Ao32 y536.length co32:Value).ownBlock∧k_≠gb516)) k_∧some k_≠(u4:Value).ownBlock)) (HO542.out) (fun k_ hk=>⟨⟨hk.1,⟨hk.2.2.1,hk.2.2.2⟩⟩,hk.2.1⟩)))));(case aB=>exact (bs HB));(case aF=>exact (fun k_ hk=>⟨(Nat.le_trans (below_size (bs HB)) hk),Kd.fresh' (Kd.R_lt (rs HO538)) k_ hk,Kd.freshB (g:=gb516) (o:=.cells #[.int .i64 a0_0,.string a0_1,.string a0_2,.int .i64 a0_3,.slice (some ad535) l0_4.length c0_4,.slice A0_5 l0_5.length c0_5] 30 (0,0)) (ks BK516) k_ hk⟩));(case aO=>exact (by (with_reducible repeat (first|apply Kd.N_alloc|apply Kd.N_drewN|apply Kd.N_drew));exact Kd.N_mono HO_4.out (fun _ hk=>⟨hk.1.1.1,⟨hk.1.2,hk.1.1.2⟩⟩)));(case aS=>exact (below_size (bs HB)));(case aL=>have:=LMc29.out;omega);intro v544 w34 ho hb hg hat;rw [← Ny543.out] at ho;have n0_:=am (blk_grown (ks BK516) hg (Kd.N_ne HO_4.out BK516.out (by decide)));have n1_:=am (Kd.R_over' (rs HO538) (Kd.N_typed (by (with_reducible repeat (first|apply Kd.N_alloc|apply Kd.N_drewN|apply Kd.N_drew));exact HO_4.out)) (by decide) hg);have n2_:=am (hb);have n3_:=am (ho);clear BK516;clear HO538;clear HB;clear HO_4;clear HO542;have BK516:=n0_;have HO538:=n1_;have HB:=n2_;have HO545:=n3_;clear n0_ n1_ n2_ n3_;clear ho hb hg hat))
       go_roundg k2
       case measure=>have:=HJ7.out;have:=HK2.out;omega
       case rel=>exact ⟨(y543),(wrap64 (x31_2+1)),fg,H',⟨by have:=HJ7.out;have:=HK2.out;omega⟩,⟨by (with_reducible repeat (first|apply Kd.N_alloc|apply Kd.N_drewN|apply Kd.N_drew));exact Kd.N_mono HO545.out (fun _ hk=>⟨hk.1,hk.2.2⟩)⟩,⟨ks BK516⟩,⟨bs HB⟩⟩
      ·intro c25b0 H;have H':=am H;clear H;have hcz36:=cf6 BK516
       go_wp2
       go_loopg [4,45] k2 (fun kq v4 v45 w'=>∃ (x4_3:List (S62)) (x45_3:Int),v45=.int .i64 x45_3∧Aside0 (impl_bodyOf.l1 kq x4_3 l0_5 (l0_5.length:Int) x45_3 a0_0 a0_1 a0_2 a0_3 l0_4 l0_5=some r)∧Aside0 (kq≤k2)∧Aside0 (Kd.N k62 62 w' w.heap.size (fun k_=>(w.heap.size≤k_)∧k_≠gb516) v4 x4_3)∧Aside0 (w'.heap[gb516]? = some (.cells #[.int .i64 a0_0,.string a0_1,.string a0_2,.int .i64 a0_3,(.slice A0_4 l0_4.length c0_4),(.slice A0_5 l0_5.length c0_5)] 30 (0,0)))∧Aside0 (Below w.heap.size w w'))
       case atStart=>exact ⟨(x4_2),(0),fg,H',⟨Nat.le_refl _⟩,⟨by (with_reducible repeat (first|apply Kd.N_alloc|apply Kd.N_drewN|apply Kd.N_drew));exact HO_4.out⟩,⟨ks BK516⟩,⟨bs HB⟩⟩
       case round =>
        clear H'
        try clear c2
        try clear c14
        try clear c25b0
        try clear hcz16
        try clear hcz24
        try clear hcz36
        try clear hcz7
        obtain ⟨x4_3,x45_3,rfl,HA,HK3,HO_4,BK516,HB⟩:=hrel
        cases gk with
        | zero=>exact absurd HA.out (by simp [impl_bodyOf.l1])
        | succ k3 =>
         have H:=HA.out;clear HA;simp only [impl_bodyOf.l1] at H
         revert H;refine id2 ?_ ?_
         ·intro c37b0 H
          revert H;refine id1 ?_
          intro c38b0 H
          revert H;refine id1 ?_
          intro c39b0 H;replace H:=bo H;obtain ⟨t548,A40,H⟩:=H;replace H:=bo H;obtain ⟨t549,A41,H⟩:=H;replace H:=bo H;obtain ⟨⟨t552,t553⟩,A42,H⟩:=H;(try dsimp only at H)
          revert H;refine ip1 ?_
          intro c43 H;have LMc43:=am c43;clear c43;obtain ⟨y556,hy556⟩:∃ y_:List (S62),y_=(x4_3++[(⟨t552,t553⟩:S62)]):=⟨_,rfl⟩
          replace H:(impl_bodyOf.l1 k3 y556 l0_5 (l0_5.length:Int) (wrap64 (x45_3+1)) a0_0 a0_1 a0_2 a0_3 l0_4 l0_5)=some r:=ye hy556 H
          have Ny556:=am hy556;clear hy556;have H':=am H;clear H;have p546:0≤(x45_3:Int):=oa;have q546:x45_3<(l0_5.length:Int):=oa;obtain ⟨ad546,e546,hx546_0,hx546_1,hx546_2,hx546_3,hx546_4⟩:=at_T71 HR0_5.out x45_3 p546 q546
          cases e546
          replace hx546_0:=cb HB hx546_0;replace hx546_1:=cb HB hx546_1;replace hx546_2:=cb HB hx546_2;replace hx546_3:=cb HB hx546_3;replace hx546_4:=cb HB hx546_4;replace p546:=eq_true p546;replace q546:=eq_true q546
          try go_wp2_with (first|((with_reducible refine gate_dst (N:=8) rfl ?_);refine bx 8 (cs:=#[.int .i64 0,.string (⟨#[]⟩:ByteArray),.int .i64 0,.int .i64 0,.string (⟨#[]⟩:ByteArray)]) (t:=71) ?_;intro gb547 hg w44 hbox hb;have n0_:=am (Kd.N_below (Kd.N_elderB (by (with_reducible repeat (first|apply Kd.N_alloc|apply Kd.N_drewN|apply Kd.N_drew));exact HO_4.out) gb547 (Nat.le_of_eq hg.symm)) hb);have n1_:=am (blk_below (ks BK516) hb);have n2_:=am (below_step (bs HB) hb);have n3_:=am (hbox);have n4_:=am ((gs hg (bs HB)));have n5_:=am ((gs hg (bs HB)));have n6_:=am ((gn hg (ks BK516)));have n7_:=am ((gm hg (ks BK516)));clear HO_4;clear BK516;clear HB;have HO_4:=n0_;have BK516:=n1_;have HB:=n2_;have BK547:=n3_;have GW547:=n4_;have GE547:=n5_;have NB516_547:=n6_;have NB547_516:=n7_;clear n0_ n1_ n2_ n3_ n4_ n5_ n6_ n7_;clear hb hbox hg;have hnb45:=NB547_516.out;have hnc45:=NB516_547.out;have hcz46:=cf5 BK547))
          have n0_:Aside0 (Kd.N k62 62 (((((w44.setCell ⟨gb547,0,none⟩ (.int .i64 ((rd_T71 l0_5 x45_3).f0))).setCell ⟨gb547,1,none⟩ (.string ((rd_T71 l0_5 x45_3).f1))).setCell ⟨gb547,2,none⟩ (.int .i64 ((rd_T71 l0_5 x45_3).f2))).setCell ⟨gb547,3,none⟩ (.int .i64 ((rd_T71 l0_5 x45_3).f3))).setCell ⟨gb547,4,none⟩ (.string ((rd_T71 l0_5 x45_3).f4))) w.heap.size (fun k_=>(w.heap.size≤k_)∧k_≠gb516∧k_≠gb547) u4 x4_3):=⟨by (with_reducible repeat (first|apply Kd.N_alloc|apply Kd.N_drewN|apply Kd.N_drew));exact Kd.N_mono (Kd.N_far (p:=⟨gb547,4,none⟩) (Kd.N_far (p:=⟨gb547,3,none⟩) (Kd.N_far (p:=⟨gb547,2,none⟩) (Kd.N_far (p:=⟨gb547,1,none⟩) (Kd.N_far (p:=⟨gb547,0,none⟩) (Kd.N_mono HO_4.out (fun k_ hk=>(⟨hk,hk.2⟩:_∧k_≠gb547))) (fun _ hk=>hk.2) (.int .i64 ((rd_T71 l0_5 x45_3).f0))) (fun _ hk=>hk.2) (.string ((rd_T71 l0_5 x45_3).f1))) (fun _ hk=>hk.2) (.int .i64 ((rd_T71 l0_5 x45_3).f2))) (fun _ hk=>hk.2) (.int .i64 ((rd_T71 l0_5 x45_3).f3))) (fun _ hk=>hk.2) (.string ((rd_T71 l0_5 x45_3).f4))) (fun _ hk=>⟨hk.1.1.1,⟨hk.1.1.2,hk.1.2⟩⟩)⟩;have n1_:=kz (((((w44.setCell ⟨gb547,0,none⟩ (.int .i64 ((rd_T71 l0_5 x45_3).f0))).setCell ⟨gb547,1,none⟩ (.string ((rd_T71 l0_5 x45_3).f1))).setCell ⟨gb547,2,none⟩ (.int .i64 ((rd_T71 l0_5 x45_3).f2))).setCell ⟨gb547,3,none⟩ (.int .i64 ((rd_T71 l0_5 x45_3).f3))).setCell ⟨gb547,4,none⟩ (.string ((rd_T71 l0_5 x45_3).f4))) BK516;have n2_:Aside0 ((((((w44.setCell ⟨gb547,0,none⟩ (.int .i64 ((rd_T71 l0_5 x45_3).f0))).setCell ⟨gb547,1,none⟩ (.string ((rd_T71 l0_5 x45_3).f1))).setCell ⟨gb547,2,none⟩ (.int .i64 ((rd_T71 l0_5 x45_3).f2))).setCell ⟨gb547,3,none⟩ (.int .i64 ((rd_T71 l0_5 x45_3).f3))).setCell ⟨gb547,4,none⟩ (.string ((rd_T71 l0_5 x45_3).f4))).heap[gb547]? = some (.cells #[.int .i64 ((rd_T71 l0_5 x45_3).f0),.string ((rd_T71 l0_5 x45_3).f1),.int .i64 ((rd_T71 l0_5 x45_3).f2),.int .i64 ((rd_T71 l0_5 x45_3).f3),.string ((rd_T71 l0_5 x45_3).f4)] 71 (0,0))):=⟨kp BK547⟩;have n3_:Aside0 (Below w.heap.size w (((((w44.setCell ⟨gb547,0,none⟩ (.int .i64 ((rd_T71 l0_5 x45_3).f0))).setCell ⟨gb547,1,none⟩ (.string ((rd_T71 l0_5 x45_3).f1))).setCell ⟨gb547,2,none⟩ (.int .i64 ((rd_T71 l0_5 x45_3).f2))).setCell ⟨gb547,3,none⟩ (.int .i64 ((rd_T71 l0_5 x45_3).f3))).setCell ⟨gb547,4,none⟩ (.string ((rd_T71 l0_5 x45_3).f4)))):=⟨bs HB⟩;(try clear HO_4);(try clear BK516);(try clear BK547);(try clear HB)
          generalize (((((w44.setCell ⟨gb547,0,none⟩ (.int .i64 ((rd_T71 l0_5 x45_3).f0))).setCell ⟨gb547,1,none⟩ (.string ((rd_T71 l0_5 x45_3).f1))).setCell ⟨gb547,2,none⟩ (.int .i64 ((rd_T71 l0_5 x45_3).f2))).setCell ⟨gb547,3,none⟩ (.int .i64 ((rd_T71 l0_5 x45_3).f3))).setCell ⟨gb547,4,none⟩ (.string ((rd_T71 l0_5 x45_3).f4)))=w47 at n0_ n1_ n2_ n3_ ⊢
          have HO_4:=n0_;have BK516:=n1_;have BK547:=n2_;have HB:=n3_;clear n0_ n1_ n2_ n3_;replace HO_4:=am (Kd.N_drew HO_4.out);replace BK516:=am (blk_drew BK516.out);replace BK547:=am (blk_drew BK547.out);replace HB:=am (below_drew1 HB.out);refine sta 12 (hb6a BK516 (hb5 BK547)) (fun hHeld=>?_);refine with_tabW impl_bodyOf.tab13 impl_bodyOf.bits13 (fun HT_ HW_=>?_)
          generalize w47.drew=w48 at HO_4 BK516 BK547 HB hHeld ⊢
          refine pA 0 49 HT_ ?_;refine pA 1 50 HT_ ?_;refine pA 4 53 HT_ ?_;refine tA 2 51 HT_ HW_ hHeld ?_;refine tA 5 54 HT_ HW_ hHeld ?_;refine tA 6 55 HT_ HW_ hHeld ?_;refine oA 3 52 HT_ (fun K hK=>?_);refine gA Tryz.func84 #[.int .i64 a0_0] ?_;(with_reducible refine (impl_lineTag.calls k3 a0_0 t548 _ A40.out).mono ?_);rintro e w49 ⟨rfl,hb⟩;refine ⟨_,rfl,?_⟩;have n0_:=am (Kd.N_below (by (with_reducible repeat (first|apply Kd.N_alloc|apply Kd.N_drewN|apply Kd.N_drew));exact HO_4.out) hb);have n1_:=am (blk_below (ks BK516) hb);have n2_:=am (blk_below (ks BK547) hb);have n3_:=am (below_step (bs HB) hb);clear HO_4;clear BK516;clear BK547;clear HB;have HO_4:=n0_;have BK516:=n1_;have BK547:=n2_;have HB:=n3_;clear n0_ n1_ n2_ n3_;(try clear hb);(try clear hb2);(try clear hk);(try clear hi);refine hK.out _ _ (hb6a BK516 (hb5 BK547)).out (fun hHeld=>?_);clear hK K;refine nA 52 ?_;refine oA 7 56 HT_ (fun K hK=>?_);refine gA Tryz.func58 #[.int .i64 a0_0,.agg #[.int .i64 ((rd_T71 l0_5 x45_3).f0),.string ((rd_T71 l0_5 x45_3).f1),.int .i64 ((rd_T71 l0_5 x45_3).f2),.int .i64 ((rd_T71 l0_5 x45_3).f3),.string ((rd_T71 l0_5 x45_3).f4)]] ?_;(with_reducible refine (impl_lineParts.calls k3 a0_0 ((rd_T71 l0_5 x45_3).f0) ((rd_T71 l0_5 x45_3).f1) ((rd_T71 l0_5 x45_3).f2) ((rd_T71 l0_5 x45_3).f3) ((rd_T71 l0_5 x45_3).f4) t549 _ (tbF HTF (bs HB)) A41.out).mono ?_);rintro e w50 ⟨v550,rfl,ho0,hb⟩;refine ⟨_,rfl,?_⟩;have n0_:=am (Kd.N_elder' (by (with_reducible repeat (first|apply Kd.N_alloc|apply Kd.N_drewN|apply Kd.N_drew));exact HO_4.out) (Kd.R_base ho0) hb);have n1_:=am (Kd.R_lower (Kd.R_newM (M:=fun k_=>(w.heap.size≤k_)) ho0 (below_size (bs HB)) (fun k_ h_=>h_)) (below_size (bs HB)));have n2_:=am (blk_below (ks BK516) hb);have n3_:=am (blk_below (ks BK547) hb);have n4_:=am (below_step (bs HB) hb);clear HO_4;clear BK516;clear BK547;clear HB;have HO_4:=n0_;have HO551:=n1_;have BK516:=n2_;have BK547:=n3_;have HB:=n4_;clear n0_ n1_ n2_ n3_ n4_;(try clear hb);(try clear hb2);(try clear hk);(try clear hi);(try clear ho0);obtain ⟨Ao51,co51,eo51⟩:=Kd.R_slice HO551.out
          (first|subst eo51|(injection eo51 with f1_ f2_ f3_;have f4_:=f1_.symm;have f5_:=f3_.symm;clear f1_ f2_ f3_;subst f4_;subst f5_))
          refine hK.out _ _ (hb6a BK516 (hb5 BK547)).out (fun hHeld=>?_);clear hK K;refine nA 56 ?_;refine oA 8 57 HT_ (fun K hK=>?_);refine gA Tryz.func82 #[.string t548,.slice Ao51 t549.length co51] ?_;(with_reducible refine (impl_plain.calls k3 t548 _ _ t549 t552 t553 _ ?side1 ?side2 A42.out).mono ?_)
          (case side1=>repeat (first|exact (Kd.R_reads' HO551.out).2.2|(with_reducible refine Kd.C_alloc ?_ _)|(with_reducible refine Kd.C_drewN ?_ _)|(with_reducible refine Kd.C_drew ?_)))
          (case side2=>exact (Kd.R_reads' HO551.out).2.1)
          rintro e w52 ⟨v554,rfl,ho0,hb⟩;refine ⟨_,rfl,?_⟩;have n0_:=am (Kd.N_elder' (by (with_reducible repeat (first|apply Kd.N_alloc|apply Kd.N_drewN|apply Kd.N_drew));exact HO_4.out) (by first|exact Kd.N_base ho0|exact Kd.S_base ho0) hb);have n1_:=am (Kd.R_below (rs HO551) hb);have n2_:=am (Kd.N_lower (Kd.N_mono (ok':=fun k_=>(w.heap.size≤k_)∧some k_≠(u4:Value).ownBlock∧some k_≠(.slice Ao51 t549.length co51:Value).ownBlock∧k_≠gb516∧k_≠gb547) (Kd.S_N (Kd.S_bound ho0)) (fun k_ hk_=>⟨(Nat.le_trans (below_size (bs HB)) hk_.2.1),(Kd.fresh' (Kd.N_lt (by (with_reducible repeat (first|apply Kd.N_alloc|apply Kd.N_drewN|apply Kd.N_drew));exact HO_4.out)) k_ hk_.2.1),(Kd.fresh' (Kd.R_lt (rs HO551)) k_ hk_.2.1),(Kd.freshB (g:=gb516) (o:=.cells #[.int .i64 a0_0,.string a0_1,.string a0_2,.int .i64 a0_3,.slice A0_4 l0_4.length c0_4,.slice (some ad546) l0_5.length c0_5] 30 (0,0)) (ks BK516) k_ hk_.2.1),(Kd.freshB (g:=gb547) (o:=.cells #[.int .i64 ((rd_T71 l0_5 x45_3).f0),.string ((rd_T71 l0_5 x45_3).f1),.int .i64 ((rd_T71 l0_5 x45_3).f2),.int .i64 ((rd_T71 l0_5 x45_3).f3),.string ((rd_T71 l0_5 x45_3).f4)] 71 (0,0)) (ks BK547) k_ hk_.2.1)⟩)) (below_size (bs HB)));have n3_:=am (blk_below (ks BK516) hb);have n4_:=am (blk_below (ks BK547) hb);have n5_:=am (below_step (bs HB) hb);clear HO_4;clear HO551;clear BK516;clear BK547;clear HB;have HO_4:=n0_;have HO551:=n1_;have HO555:=n2_;have BK516:=n3_;have BK547:=n4_;have HB:=n5_;clear n0_ n1_ n2_ n3_ n4_ n5_;(try clear hb);(try clear hb2);(try clear hk);(try clear hi);(try clear ho0);obtain ⟨Ao54,co54,eo54⟩:=Kd.N_slice HO555.out
          (first|subst eo54|(injection eo54 with f1_ f2_ f3_;have f4_:=f1_.symm;have f5_:=f3_.symm;clear f1_ f2_ f3_;subst f4_;subst f5_))
          refine hK.out _ _ (hb6a BK516 (hb5 BK547)).out (fun hHeld=>?_);clear hK K;refine nA 57 ?_;refine oA 9 58 HT_ (fun K hK=>?_);refine value_ (w1:=?_) (v:=?_) (by rfl) rfl ?_ ?_
          rotate_left 2
          ·go_simp
           constructor
           ·rfl
           ·rfl
          refine hK.out _ _ ⟨(blk_cell (blk_alloc BK516.out _) 0).trans rfl,(blk_cell (blk_alloc BK516.out _) 1).trans rfl,(blk_cell (blk_alloc BK516.out _) 2).trans rfl,(blk_cell (blk_alloc BK516.out _) 3).trans rfl,(blk_cell (blk_alloc BK516.out _) 4).trans rfl,(blk_cell (blk_alloc BK516.out _) 5).trans rfl,(blk_cell (blk_alloc BK547.out _) 0).trans rfl,(blk_cell (blk_alloc BK547.out _) 1).trans rfl,(blk_cell (blk_alloc BK547.out _) 2).trans rfl,(blk_cell (blk_alloc BK547.out _) 3).trans rfl,(blk_cell (blk_alloc BK547.out _) 4).trans rfl⟩ (fun hHeld=>?_);clear hK K;refine nA 58 ?_;refine oA 10 59 HT_ (fun K hK=>?_);refine Kd.N_append_step k62 (w0:=w) w.heap.size (by rfl) (.tmp 49) (.tmp 58) 40 62 (.agg #[(.string ⟨#[]⟩),(.slice none 0 0)]) 40 rfl Tryz.underlying40 info62 rfl (by decide) (by omega) u4 x4_3 (⟨t552,t553⟩:S62) [.string t552,.slice Ao54 t553.length co54] (fun k_=>(w.heap.size≤k_)∧some k_≠(.slice Ao51 t549.length co51:Value).ownBlock∧k_≠gb516∧k_≠gb547) (fun k_=>((fun k_=>(w.heap.size≤k_)∧some k_≠(.slice Ao51 t549.length co51:Value).ownBlock∧k_≠gb516∧k_≠gb547)) k_∧some k_≠(u4:Value).ownBlock) rfl rfl ?aP (fun _ hk=>hk) ?aF ?aO ?aB ?aS ?aL ?_
          (case aP=>exact (k62_mkF _ _ (⟨t552,t553⟩:S62) (Kd.N_reads' (Kd.N_mono (ok':=(fun k_=>((fun k_=>(w.heap.size≤k_)∧some k_≠(.slice Ao51 t549.length co51:Value).ownBlock∧k_≠gb516∧k_≠gb547)) k_∧some k_≠(u4:Value).ownBlock)) (HO555.out) (fun k_ hk=>⟨⟨hk.1,⟨hk.2.2.1,⟨hk.2.2.2.1,hk.2.2.2.2⟩⟩⟩,hk.2.1⟩))).2.1 (Kd.N_F (Kd.N_mono (ok':=(fun k_=>((fun k_=>(w.heap.size≤k_)∧some k_≠(.slice Ao51 t549.length co51:Value).ownBlock∧k_≠gb516∧k_≠gb547)) k_∧some k_≠(u4:Value).ownBlock)) (HO555.out) (fun k_ hk=>⟨⟨hk.1,⟨hk.2.2.1,⟨hk.2.2.2.1,hk.2.2.2.2⟩⟩⟩,hk.2.1⟩)))))
          (case aB=>exact (bs HB))
          (case aF=>exact (fun k_ hk=>⟨(Nat.le_trans (below_size (bs HB)) hk),Kd.fresh' (Kd.R_lt (rs HO551)) k_ hk,Kd.freshB (g:=gb516) (o:=.cells #[.int .i64 a0_0,.string a0_1,.string a0_2,.int .i64 a0_3,.slice A0_4 l0_4.length c0_4,.slice (some ad546) l0_5.length c0_5] 30 (0,0)) (ks BK516) k_ hk,Kd.freshB (g:=gb547) (o:=.cells #[.int .i64 ((rd_T71 l0_5 x45_3).f0),.string ((rd_T71 l0_5 x45_3).f1),.int .i64 ((rd_T71 l0_5 x45_3).f2),.int .i64 ((rd_T71 l0_5 x45_3).f3),.string ((rd_T71 l0_5 x45_3).f4)] 71 (0,0)) (ks BK547) k_ hk⟩))
          (case aO=>exact (by (with_reducible repeat (first|apply Kd.N_alloc|apply Kd.N_drewN|apply Kd.N_drew));exact Kd.N_mono HO_4.out (fun _ hk=>⟨hk.1.1.1,⟨hk.1.2,⟨hk.1.1.2.1,hk.1.1.2.2⟩⟩⟩)))
          (case aS=>exact (below_size (bs HB)))
          (case aL=>have:=LMc43.out;omega)
          intro v557 w53 ho hb hg hat
          rw [← Ny556.out] at ho
          have n0_:=am (blk_grown (ks BK516) hg (Kd.N_ne HO_4.out BK516.out (by decide)));have n1_:=am (blk_grown (ks BK547) hg (Kd.N_ne HO_4.out BK547.out (by decide)));have n2_:=am (Kd.R_over' (rs HO551) (Kd.N_typed (by (with_reducible repeat (first|apply Kd.N_alloc|apply Kd.N_drewN|apply Kd.N_drew));exact HO_4.out)) (by decide) hg);have n3_:=am (hb);have n4_:=am (ho);clear BK516;clear BK547;clear HO551;clear HB;clear HO_4;clear HO555;have BK516:=n0_;have BK547:=n1_;have HO551:=n2_;have HB:=n3_;have HO558:=n4_;clear n0_ n1_ n2_ n3_ n4_;clear ho hb hg hat;refine hK.out _ _ (hb6a BK516 (hb5 BK547)).out (fun hHeld=>?_);clear hK K;refine nA 59 ?_;refine pA 11 4 HT_ ?_;refine done_ (done_of HT_.out (by kernel_rfl)) ?_
          try go_wp2
          go_roundg k3
          case measure=>have:=HJ7.out;have:=HK2.out;have:=HK3.out;omega
          case rel=>exact ⟨(y556),(wrap64 (x45_3+1)),fg,H',⟨by have:=HJ7.out;have:=HK2.out;have:=HK3.out;omega⟩,⟨by (with_reducible repeat (first|apply Kd.N_alloc|apply Kd.N_drewN|apply Kd.N_drew));exact Kd.N_mono HO558.out (fun _ hk=>⟨hk.1,hk.2.2.1⟩)⟩,⟨ks BK516⟩,⟨bs HB⟩⟩
         ·intro c37b0 H;obtain rfl:=si H
          go_wp2
          go_ret
          exact ⟨_,ff,by (with_reducible repeat (first|apply Kd.N_alloc|apply Kd.N_drewN|apply Kd.N_drew));exact Kd.N_mono HO_4.out (fun _ hk=>hk.1),bs HB⟩
   ·intro c14 H
    exact absurd H (by simp)
set_option maxHeartbeats 8000000 in
set_option maxRecDepth 100000 in
theorem impl_Segment.calls (A0:Option Addr) (c0:Nat) (l0:List (S62)) (r:Bool) (w:World) (hr0:Kd.C k62 w A0 l0.length l0) (hc0:l0.length≤c0) (H:impl_Segment.f l0=some r) :
  Calls Tryz.prog 68 #[.slice A0 l0.length c0] w fun e w'=>e=.returned (.bool r)∧Drawn0 w w':=by
 have HR0:=am hr0;have HC0:=am hc0;clear hr0 hc0;unfold impl_Segment.f at H;obtain rfl:=si H
 go_in
 go_wp2
 go_ret
 exact ⟨fg,by repeat (first|exact Drawn0.refl _|apply Drawn0.step)⟩
def TbC (w:World):Prop:=∃ m,w.cell? ⟨0,0,none⟩=some (.int .i64 m)
theorem tbC {w W:World} (h:Aside0 (TbC w)) (hb:Below w.heap.size w W):TbC W:=by
 obtain ⟨m,h0⟩:=h.out
 exact ⟨m,(hb.cell (World.block_lt_of_cell? w _ h0)).trans h0⟩
theorem strings_Cut.calls (a0:ByteArray) (a1:ByteArray) (r1:ByteArray) (r2:ByteArray) (r3:Bool) (w:World) (hTC:TbC w) (h:strings_Cut.f a0 a1=some (r1,r2,r3)) :
  Calls Tryz.prog 112 #[.string a0,.string a1] w fun e w'=>e=.returned (.tuple #[.string r1,.string r2,.bool r3])∧Below w.heap.size w w':=by
 unfold strings_Cut.f at h
 by_cases c1:a0.size<4294967281
 ·rw [if_pos c1] at h
  obtain ⟨rfl,rfl,rfl⟩:(⟨(Lib.cut a0.data.toList a1.data.toList).1.toArray⟩:ByteArray)=r1∧(⟨(Lib.cut a0.data.toList a1.data.toList).2.1.toArray⟩:ByteArray)=r2∧(Lib.cut a0.data.toList a1.data.toList).2.2=r3:=by simpa using h
  obtain ⟨m,hm⟩:=hTC;refine (show Calls Tryz.prog 112 #[.string a0,.string a1] w _ from Any.strings_Cut Tryz.lays145 a0 a1 m w c1 hm).mono ?_;rintro e w' ⟨rfl,k,rfl⟩
  exact ⟨rfl,pw_below_drewN (Below.refl _ _) k⟩
 ·rw [if_neg c1] at h;cases h
theorem strings_IndexByte.calls (a0:ByteArray) (a1:Int) (r:Int) (w:World) (h:strings_IndexByte.f a0 a1=some r) :
  Calls Tryz.prog 113 #[.string a0,.int .u8 a1] w fun e w'=>e=.returned (.int .i64 r)∧Drawn0 w w':=by
 obtain rfl:=Option.some.inj h;refine (show Calls Tryz.prog 113 #[.string a0,.int .u8 a1] w _ from Any.strings_IndexByte Tryz.lays137 a0 a1 w).mono ?_;rintro e w' ⟨rfl,rfl⟩
 exact ⟨rfl,Drawn0.refl _⟩
set_option maxHeartbeats 8000000 in
set_option maxRecDepth 100000 in
theorem impl_longText_1.calls (a0:ByteArray) (r:Bool) (w:World) (H:impl_longText_1.f a0=some r) :
  Calls Tryz.prog 131 #[.string a0] w fun e w'=>e=.returned (.bool r)∧Drawn0 w w':=by
 unfold impl_longText_1.f at H;obtain rfl:=si H
 go_in
 go_wp2
 go_ret
 exact ⟨fg,by repeat (first|exact Drawn0.refl _|apply Drawn0.step)⟩
set_option maxHeartbeats 8000000 in
set_option maxRecDepth 100000 in
theorem slices_IndexFunc_string_string_impl_longText_1.calls (k:Nat) (A0:Option Addr) (c0:Nat) (l0:List ByteArray)  (r:Int) (w:World) (hr0:Kd.C Kd.string w A0 l0.length l0) (hc0:l0.length≤c0) (H:slices_IndexFunc_string_string_impl_longText_1.f k l0=some r) :
  Calls Tryz.prog 143 #[.slice A0 l0.length c0,.func (.func 131) #[] #[]] w fun e w'=>e=.returned (.int .i64 r)∧Drawn0 w w':=by
 have HR0:=am hr0;have HC0:=am hc0;clear hr0 hc0;unfold slices_IndexFunc_string_string_impl_longText_1.f at H;have H':=am H;clear H
 go_in
 go_wp2
 go_loopg [8] k (fun kq v8 w'=>∃ (x8_1:Int),v8=.int .i64 x8_1∧Aside0 (slices_IndexFunc_string_string_impl_longText_1.l0 kq l0 (l0.length:Int) x8_1=some r)∧Aside0 (kq≤k)∧Drawn0 w w')
 case atStart=>exact ⟨(0),fg,H',⟨Nat.le_refl _⟩,by repeat (first|exact Drawn0.refl _|apply Drawn0.step)⟩
 case round =>
  clear H'
  obtain ⟨x8_1,rfl,HA,HK1,⟨m1,rfl⟩⟩:=hrel
  cases gk with
  | zero=>exact absurd HA.out (by simp [slices_IndexFunc_string_string_impl_longText_1.l0])
  | succ k1 =>
   have H:=HA.out;clear HA;simp only [slices_IndexFunc_string_string_impl_longText_1.l0] at H
   revert H;refine id2 ?_ ?_
   ·intro c3b0 H
    revert H;refine id1 ?_
    intro c4b0 H
    revert H;refine id1 ?_
    intro c5b0 H;replace H:=bo H;obtain ⟨t560,A6,H⟩:=H;have p559:0≤(x8_1:Int):=oa;have q559:x8_1<(l0.length:Int):=oa;obtain ⟨ad559,e559,hx559_0⟩:=Kd.at_string HR0.out x8_1 p559 q559
    cases e559
    replace p559:=eq_true p559;replace q559:=eq_true q559
    try go_wp2_with (fail)
    go_at_call 131;(with_reducible refine (impl_longText_1.calls (rdOf ByteArray.empty l0 x8_1) t560 _ A6.out).mono ?_);rintro e w' ⟨rfl,⟨nd,rfl⟩⟩
    obtain rfl|rfl:=bt t560
    ·replace H:=itT H;obtain rfl:=si H
     go_wp2
     go_ret
     exact ⟨fg,by repeat (first|exact Drawn0.refl _|apply Drawn0.step)⟩
    ·replace H:=itF H;have H':=am H;clear H
     go_wp2
     go_roundg k1
     case measure=>have:=HK1.out;omega
     case rel=>exact ⟨(wrap64 (x8_1+1)),fg,H',⟨by have:=HK1.out;omega⟩,by repeat (first|exact Drawn0.refl _|apply Drawn0.step)⟩
   ·intro c3b0 H;obtain rfl:=si H
    go_wp2
    go_ret
    exact ⟨fg,by repeat (first|exact Drawn0.refl _|apply Drawn0.step)⟩
set_option maxHeartbeats 8000000 in
set_option maxRecDepth 100000 in
theorem slices_ContainsFunc_string_string_impl_longText_1.calls (k:Nat) (A0:Option Addr) (c0:Nat) (l0:List ByteArray)  (r:Bool) (w:World) (hr0:Kd.C Kd.string w A0 l0.length l0) (hc0:l0.length≤c0) (H:slices_ContainsFunc_string_string_impl_longText_1.f k l0=some r) :
  Calls Tryz.prog 130 #[.slice A0 l0.length c0,.func (.func 131) #[] #[]] w fun e w'=>e=.returned (.bool r)∧Drawn0 w w':=by
 have HR0:=am hr0;have HC0:=am hc0;clear hr0 hc0;unfold slices_ContainsFunc_string_string_impl_longText_1.f at H;replace H:=bo H;obtain ⟨t561,A3,H⟩:=H;obtain rfl:=si H
 go_in
 go_wp2_with (first|((first|((with_reducible refine gate_callee (f:=143) rfl ?_);refine goesL_ (some 7) rfl rfl Tryz.func143 (by kernel_rfl) rfl #[.slice A0 l0.length c0,.func (.func 131) #[] #[]] rfl (by (try simp only [List.map_toArray,List.map_cons,List.map_nil]);first|done|rfl|(simp only [List.length_drop,List.length_take];rfl)) ?_;(with_reducible refine (slices_IndexFunc_string_string_impl_longText_1.calls k _ _ l0  t561 _ ?side1 HC0.out A3.out).mono ?_);(case side1=>repeat (first|exact HR0.out|(with_reducible refine Kd.C_alloc ?_ _)|(with_reducible refine Kd.C_drewN ?_ _)|(with_reducible refine Kd.C_drew ?_)));rintro e w' ⟨rfl,⟨nd,rfl⟩⟩;refine ⟨_,rfl,?_⟩)|(go_at_call 143;(with_reducible refine (slices_IndexFunc_string_string_impl_longText_1.calls k _ _ l0  t561 _ ?side1 HC0.out A3.out).mono ?_);(case side1=>repeat (first|exact HR0.out|(with_reducible refine Kd.C_alloc ?_ _)|(with_reducible refine Kd.C_drewN ?_ _)|(with_reducible refine Kd.C_drew ?_)));rintro e w' ⟨rfl,⟨nd,rfl⟩⟩))))
 go_ret
 exact ⟨fg,by repeat (first|exact Drawn0.refl _|apply Drawn0.step)⟩
set_option maxHeartbeats 8000000 in
set_option maxRecDepth 100000 in
theorem impl_longText.calls (k:Nat) (A0:Option Addr) (c0:Nat) (l0:List ByteArray) (r:Bool) (w:World) (hr0:Kd.C Kd.string w A0 l0.length l0) (hc0:l0.length≤c0) (H:impl_longText.f k l0=some r) :
  Calls Tryz.prog 114 #[.slice A0 l0.length c0] w fun e w'=>e=.returned (.bool r)∧Drawn0 w w':=by
 have HR0:=am hr0;have HC0:=am hc0;clear hr0 hc0;unfold impl_longText.f at H;replace H:=bo H;obtain ⟨t562,A2,H⟩:=H;obtain rfl:=si H
 go_in
 go_wp2_with (first|((first|((with_reducible refine gate_callee (f:=130) rfl ?_);refine goesL_ (some 4) rfl rfl Tryz.func130 (by kernel_rfl) rfl #[.slice A0 l0.length c0,.func (.func 131) #[] #[]] rfl (by (try simp only [List.map_toArray,List.map_cons,List.map_nil]);first|done|rfl|(simp only [List.length_drop,List.length_take];rfl)) ?_;(with_reducible refine (slices_ContainsFunc_string_string_impl_longText_1.calls k _ _ l0  t562 _ ?side1 HC0.out A2.out).mono ?_);(case side1=>repeat (first|exact HR0.out|(with_reducible refine Kd.C_alloc ?_ _)|(with_reducible refine Kd.C_drewN ?_ _)|(with_reducible refine Kd.C_drew ?_)));rintro e w' ⟨rfl,⟨nd,rfl⟩⟩;refine ⟨_,rfl,?_⟩)|(go_at_call 130;(with_reducible refine (slices_ContainsFunc_string_string_impl_longText_1.calls k _ _ l0  t562 _ ?side1 HC0.out A2.out).mono ?_);(case side1=>repeat (first|exact HR0.out|(with_reducible refine Kd.C_alloc ?_ _)|(with_reducible refine Kd.C_drewN ?_ _)|(with_reducible refine Kd.C_drew ?_)));rintro e w' ⟨rfl,⟨nd,rfl⟩⟩))))
 go_ret
 exact ⟨fg,by repeat (first|exact Drawn0.refl _|apply Drawn0.step)⟩
set_option maxHeartbeats 8000000 in
set_option maxRecDepth 100000 in
theorem impl_isGreat.calls (a0:Int) (r:Bool) (w:World) (H:impl_isGreat.f a0=some r) :
  Calls Tryz.prog 144 #[.int .u8 a0] w fun e w'=>e=.returned (.bool r)∧Drawn0 w w':=by
 unfold impl_isGreat.f at H
 revert H;refine ip2 ?_ ?_
 ·intro c2 H;have c2b0:decide (65≤a0)=true:=decide_eq_true c2;clear c2;obtain rfl:=si H
  go_in
  go_wp2
  go_ret
  exact ⟨fg,by repeat (first|exact Drawn0.refl _|apply Drawn0.step)⟩
 ·intro c2 H;have c2b0:decide (65≤a0)=false:=decide_eq_false c2;clear c2;obtain rfl:=si H
  go_in
  go_wp2
  go_ret
  exact ⟨fg,by repeat (first|exact Drawn0.refl _|apply Drawn0.step)⟩
set_option maxHeartbeats 8000000 in
set_option maxRecDepth 100000 in
theorem impl_isDigit.calls (a0:Int) (r:Bool) (w:World) (H:impl_isDigit.f a0=some r) :
  Calls Tryz.prog 137 #[.int .u8 a0] w fun e w'=>e=.returned (.bool r)∧Drawn0 w w':=by
 unfold impl_isDigit.f at H
 revert H;refine ip2 ?_ ?_
 ·intro c2 H;have c2b0:decide (48≤a0)=true:=decide_eq_true c2;clear c2;obtain rfl:=si H
  go_in
  go_wp2
  go_ret
  exact ⟨fg,by repeat (first|exact Drawn0.refl _|apply Drawn0.step)⟩
 ·intro c2 H;have c2b0:decide (48≤a0)=false:=decide_eq_false c2;clear c2;obtain rfl:=si H
  go_in
  go_wp2
  go_ret
  exact ⟨fg,by repeat (first|exact Drawn0.refl _|apply Drawn0.step)⟩
set_option maxHeartbeats 8000000 in
set_option maxRecDepth 100000 in
theorem impl_isName.calls (k:Nat) (a0:ByteArray) (r:Bool) (w:World) (H:impl_isName.f k a0=some r) :
  Calls Tryz.prog 132 #[.string a0] w fun e w'=>e=.returned (.bool r)∧Drawn0 w w':=by
 unfold impl_isName.f at H;have H':=am H;clear H
 go_in
 go_wp2
 go_loopg [6] k (fun kq v6 w'=>∃ (x6_1:Int),v6=.int .i64 x6_1∧Aside0 (impl_isName.l0 kq a0 (a0.size:Int) x6_1=some r)∧Aside0 (kq≤k)∧Drawn0 w w')
 case atStart=>exact ⟨(0),fg,H',⟨Nat.le_refl _⟩,by repeat (first|exact Drawn0.refl _|apply Drawn0.step)⟩
 case round =>
  clear H'
  obtain ⟨x6_1,rfl,HA,HK1,⟨m1,rfl⟩⟩:=hrel
  cases gk with
  | zero=>exact absurd HA.out (by simp [impl_isName.l0])
  | succ k1 =>
   have H:=HA.out;clear HA;simp only [impl_isName.l0] at H
   revert H;refine id2 ?_ ?_
   ·intro c2b0 H
    revert H;refine id1 ?_
    intro c3b0 H
    revert H;refine id1 ?_
    intro c4b0 H;replace H:=bo H;obtain ⟨t564,A6,H⟩:=H;have p5:0≤(x6_1:Int):=oa;have q5:x6_1<(a0.size:Int):=oa;have hx5:=bt_at a0 x6_1;replace p5:=eq_true p5;replace q5:=eq_true q5
    try go_wp2_with (fail)
    go_at_call 144;(with_reducible refine (impl_isGreat.calls (bt a0 x6_1) t564 _ A6.out).mono ?_);rintro e w' ⟨rfl,⟨nd,rfl⟩⟩
    obtain rfl|rfl:=bt t564
    ·replace H:=itT H;have H':=am H;clear H
     go_wp2
     go_roundg k1
     case measure=>have:=HK1.out;omega
     case rel=>exact ⟨(wrap64 (x6_1+1)),fg,H',⟨by have:=HK1.out;omega⟩,by repeat (first|exact Drawn0.refl _|apply Drawn0.step)⟩
    ·replace H:=itF H
     revert H;refine ie2 ?_ ?_
     ·intro c8b0 c8b1 H;obtain rfl:=si H
      go_wp2
      go_ret
      exact ⟨fg,by repeat (first|exact Drawn0.refl _|apply Drawn0.step)⟩
     ·intro c8 c8b0 c8b1 H;replace H:=bo H;obtain ⟨t565,A10,H⟩:=H;have p9:0≤(x6_1:Int):=oa;have q9:x6_1<(a0.size:Int):=oa;have hx9:=bt_at a0 x6_1;replace p9:=eq_true p9;replace q9:=eq_true q9
      try go_wp2_with (fail)
      go_at_call 137;(with_reducible refine (impl_isDigit.calls (bt a0 x6_1) t565 _ A10.out).mono ?_);rintro e w' ⟨rfl,⟨nd,rfl⟩⟩
      obtain rfl|rfl:=bt t565
      ·replace H:=itT H;have H':=am H;clear H
       go_wp2
       go_roundg k1
       case measure=>have:=HK1.out;omega
       case rel=>exact ⟨(wrap64 (x6_1+1)),fg,H',⟨by have:=HK1.out;omega⟩,by repeat (first|exact Drawn0.refl _|apply Drawn0.step)⟩
      ·replace H:=itF H
       revert H;refine ie2 ?_ ?_
       ·intro c13b0 c13b1 H;have H':=am H;clear H;have p12:0≤(x6_1:Int):=oa;have q12:x6_1<(a0.size:Int):=oa;have hx12:=bt_at a0 x6_1;replace p12:=eq_true p12;replace q12:=eq_true q12
        go_wp2
        go_roundg k1
        case measure=>have:=HK1.out;omega
        case rel=>exact ⟨(wrap64 (x6_1+1)),fg,H',⟨by have:=HK1.out;omega⟩,by repeat (first|exact Drawn0.refl _|apply Drawn0.step)⟩
       ·intro c13 c13b0 c13b1 H;obtain rfl:=si H;have p12:0≤(x6_1:Int):=oa;have q12:x6_1<(a0.size:Int):=oa;have hx12:=bt_at a0 x6_1;replace p12:=eq_true p12;replace q12:=eq_true q12
        go_wp2
        go_ret
        exact ⟨fg,by repeat (first|exact Drawn0.refl _|apply Drawn0.step)⟩
   ·intro c2b0 H;replace H:=bo H;obtain ⟨t563,A14,H⟩:=H;obtain rfl:=si H
    go_wp2_with (first|((first|((with_reducible refine gate_callee (f:=40) rfl ?_);refine goesL_ (some 34) rfl rfl Tryz.func40 (by kernel_rfl) rfl #[.int .i64 (a0.size:Int),.int .i64 1,.int .i64 12] rfl (by (try simp only [List.map_toArray,List.map_cons,List.map_nil]);first|done|rfl|(simp only [List.length_drop,List.length_take];rfl)) ?_;(with_reducible refine (impl_within.calls (a0.size:Int) 1 12 t563 _ A14.out).mono ?_);rintro e w' ⟨rfl,⟨nd,rfl⟩⟩;refine ⟨_,rfl,?_⟩)|(go_at_call 40;(with_reducible refine (impl_within.calls (a0.size:Int) 1 12 t563 _ A14.out).mono ?_);rintro e w' ⟨rfl,⟨nd,rfl⟩⟩))))
    go_ret
    exact ⟨fg,by repeat (first|exact Drawn0.refl _|apply Drawn0.step)⟩
set_option maxHeartbeats 8000000 in
set_option maxRecDepth 100000 in
theorem impl_isNumber.calls (k:Nat) (a0:ByteArray) (r:Bool) (w:World) (H:impl_isNumber.f k a0=some r) :
  Calls Tryz.prog 120 #[.string a0] w fun e w'=>e=.returned (.bool r)∧Drawn0 w w':=by
 unfold impl_isNumber.f at H;have HC2:=am H;clear H
 go_in
 go_upto_region 2 with (fail)
 go_cut [12] (fun v12 wc=>∃ (kq:Nat) (x12_1:Bool),v12=.bool x12_1∧Aside0 (impl_isNumber.j0 kq a0 a0 x12_1=some r)∧Aside0 (kq≤k)∧Drawn0 w wc)
 case first =>
  have H:=HC2.out;clear HC2
  revert H;refine in2 ?_ ?_
  ·intro c3b0 c3b1 c3b2 H
   (first|rw [c3b0]|simp only [c3b2,Bool.not_true,Bool.not_false]|rw [c3b1]|skip)
   have H':=am H;clear H
   go_wp2
   go_meet
   case rel=>exact ⟨_,(false),fg,H',⟨fl⟩,by repeat (first|exact Drawn0.refl _|apply Drawn0.step)⟩
  ·intro c3 c3b0 c3b1 c3b2 H
   (first|rw [c3b0]|simp only [c3b2,Bool.not_true,Bool.not_false]|rw [c3b1]|skip)
   revert H;refine id1k ?_
   intro c4 c4b0 H;have c4b1:decide (0<a0.size)=true:=decide_eq_true (by omega);clear c4;have H':=am H;clear H;have p5:0≤(0:Int):=(by omega);have q5:0<a0.size:=(by have:(0:Int)<(a0.size:Int):=oa;omega);have hx5:∀ h:0<a0.size,((a0[0]'h).toNat:Int)=bt a0 0:=bt_at a0 0;clear p5;have qi5:(0<(a0.size:Int))=True:=eq_true (oa);replace q5:=eq_true q5
   go_wp2
   go_meet
   case rel=>exact ⟨_,(((bt a0 0) == 45)),fg,H',⟨fl⟩,by repeat (first|exact Drawn0.refl _|apply Drawn0.step)⟩
 case rest =>
  clear HC2
  obtain ⟨kq,x12_1,rfl,HA,HJ1,⟨mc1,rfl⟩⟩:=hcut
  cases kq with
  | zero=>exact absurd HA.out (by simp [impl_isNumber.j0])
  | succ kj1 =>
   have H:=HA.out;clear HA;simp only [impl_isNumber.j0] at H;have HC6:=am H;clear H
   go_upto_if 12 with (fail)
   go_cut [3] (fun v3 wc=>∃ (kq:Nat) (x3_5:ByteArray),v3=.string x3_5∧Aside0 (impl_isNumber.j1 kq a0 x3_5=some r)∧Aside0 (kq≤kj1)∧Drawn0 w wc)
   case first =>
    have H:=HC6.out;clear HC6
    obtain rfl|rfl:=bt x12_1
    ·replace H:=itT H
     revert H;refine ip1 ?_
     intro c8 H;have c8b0:=eq_true c8;have c8b1:decide (1≤(a0.size:Int))=true:=decide_eq_true c8;clear c8;have H':=am H;clear H
     go_wp2
     go_meet
     case rel=>exact ⟨_,(a0.extract 1 a0.size),fg,H',⟨by have:=HJ1.out;first|omega|exact Nat.le_refl _⟩,by repeat (first|exact Drawn0.refl _|apply Drawn0.step)⟩
    ·replace H:=itF H;have H':=am H;clear H
     go_wp2
     go_meet
     case rel=>exact ⟨_,(a0),fg,H',⟨by have:=HJ1.out;first|omega|exact Nat.le_refl _⟩,by repeat (first|exact Drawn0.refl _|apply Drawn0.step)⟩
   case rest =>
    clear HC6
    obtain ⟨kq,x3_5,rfl,HA,HJ5,⟨mc5,rfl⟩⟩:=hcut
    cases kq with
    | zero=>exact absurd HA.out (by simp [impl_isNumber.j1])
    | succ kj5 =>
     have H:=HA.out;clear HA;simp only [impl_isNumber.j1] at H;have H':=am H;clear H
     go_wp2
     go_loopg [17] kj5 (fun kq v17 w'=>∃ (x17_3:Int),v17=.int .i64 x17_3∧Aside0 (impl_isNumber.l0 kq a0 x3_5 (x3_5.size:Int) x17_3=some r)∧Aside0 (kq≤kj5)∧Drawn0 w w')
     case atStart=>exact ⟨(0),fg,H',⟨Nat.le_refl _⟩,by repeat (first|exact Drawn0.refl _|apply Drawn0.step)⟩
     case round =>
      clear H'
      obtain ⟨x17_3,rfl,HA,HK3,⟨m3,rfl⟩⟩:=hrel
      cases gk with
      | zero=>exact absurd HA.out (by simp [impl_isNumber.l0])
      | succ k3 =>
       have H:=HA.out;clear HA;simp only [impl_isNumber.l0] at H
       revert H;refine id2 ?_ ?_
       ·intro c9b0 H
        revert H;refine id1 ?_
        intro c10b0 H
        revert H;refine id1 ?_
        intro c11b0 H;replace H:=bo H;obtain ⟨t566,A13,H⟩:=H;have p12:0≤(x17_3:Int):=oa;have q12:x17_3<(x3_5.size:Int):=oa;have hx12:=bt_at x3_5 x17_3;replace p12:=eq_true p12;replace q12:=eq_true q12
        try go_wp2_with (fail)
        go_at_call 137;(with_reducible refine (impl_isDigit.calls (bt x3_5 x17_3) t566 _ A13.out).mono ?_);rintro e w' ⟨rfl,⟨nd,rfl⟩⟩
        obtain rfl|rfl:=bt t566
        ·replace H:=itT H;have H':=am H;clear H
         go_wp2
         go_roundg k3
         case measure=>have:=HJ1.out;have:=HJ5.out;have:=HK3.out;omega
         case rel=>exact ⟨(wrap64 (x17_3+1)),fg,H',⟨by have:=HJ1.out;have:=HJ5.out;have:=HK3.out;omega⟩,by repeat (first|exact Drawn0.refl _|apply Drawn0.step)⟩
        ·replace H:=itF H;obtain rfl:=si H
         go_wp2
         go_ret
         exact ⟨fg,by repeat (first|exact Drawn0.refl _|apply Drawn0.step)⟩
       ·intro c9b0 H
        revert H;refine in2 ?_ ?_
        ·intro c15b0 c15b1 c15b2 H;obtain rfl:=si H
         go_wp2
         go_ret
         exact ⟨fg,by repeat (first|exact Drawn0.refl _|apply Drawn0.step)⟩
        ·intro c15 c15b0 c15b1 c15b2 H
         by_cases c16:0<(x3_5.size:Int)
         ·rw [if_pos c16] at H;have c16b0:decide (0<(x3_5.size:Int))=true:=decide_eq_true c16;have c16b1:decide (0<x3_5.size)=true:=decide_eq_true (by omega);clear c16
          revert H;refine ie2 ?_ ?_
          ·intro c18b0 c18b1 H;obtain rfl:=si H;have p17:0≤(0:Int):=(by omega);have q17:0<x3_5.size:=(by have:(0:Int)<(x3_5.size:Int):=oa;omega);have hx17:∀ h:0<x3_5.size,((x3_5[0]'h).toNat:Int)=bt x3_5 0:=bt_at x3_5 0;clear p17;have qi17:(0<(x3_5.size:Int))=True:=eq_true (oa);replace q17:=eq_true q17
           go_wp2
           go_ret
           exact ⟨fg,by repeat (first|exact Drawn0.refl _|apply Drawn0.step)⟩
          ·intro c18 c18b0 c18b1 H;obtain rfl:=si H;have p17:0≤(0:Int):=(by omega);have q17:0<x3_5.size:=(by have:(0:Int)<(x3_5.size:Int):=oa;omega);have hx17:∀ h:0<x3_5.size,((x3_5[0]'h).toNat:Int)=bt x3_5 0:=bt_at x3_5 0;clear p17;have qi17:(0<(x3_5.size:Int))=True:=eq_true (oa);replace q17:=eq_true q17
           go_wp2
           go_ret
           exact ⟨fg,by repeat (first|exact Drawn0.refl _|apply Drawn0.step)⟩
         ·rw [if_neg c16] at H
          exact absurd H (by simp)
def TbP (w:World):Prop:=(∃ ev,w.cell? ⟨2,0,none⟩=some ev∧(ev=.nilIface∨∃ te pe,ev=.iface te pe))∧∃ ev,w.cell? ⟨3,0,none⟩=some ev∧(ev=.nilIface∨∃ te pe,ev=.iface te pe)
theorem tbP {w W:World} (h:Aside0 (TbP w)) (hb:Below w.heap.size w W):TbP W:=by
 obtain ⟨⟨e0,h0,g0⟩,e1,h1,g1⟩:=h.out
 exact ⟨⟨e0,(hb.cell (World.block_lt_of_cell? w _ h0)).trans h0,g0⟩,e1,(hb.cell (World.block_lt_of_cell? w _ h1)).trans h1,g1⟩
set_option maxHeartbeats 8000000 in
set_option maxRecDepth 100000 in
theorem impl_numberIn.calls (k:Nat) (a0:ByteArray) (a1:Int) (a2:Int) (r1:Int) (r2:Bool) (w:World) (hTP:TbP w) (h:impl_numberIn.f k a0 a1 a2=some (r1,r2)) :
  Calls Tryz.prog 87 #[.string a0,.int .i64 a1,.int .i64 a2] w fun e w'=>e=.returned (.tuple #[.int .i64 r1,.bool r2])∧Below w.heap.size w w':=by
 unfold impl_numberIn.f at h
 by_cases c1:a0.size≤281474976710656
 ·rw [if_pos c1] at h
  obtain ⟨⟨e0,g0,t0⟩,e1,g1,t1⟩:=hTP
  cases hp:Lib.parseIntB 64 a0.data.toList with
  | ok v =>
   simp only [hp] at h
   obtain ⟨b,hb,h⟩:=Option.bind_eq_some_iff.mp h;have A1:=am hb;clear hb
   cases b with
   | true =>
    simp only [if_true] at h
    obtain ⟨c,hc,h⟩:=Option.bind_eq_some_iff.mp h;have A2:=am hc;clear hc;obtain ⟨rfl,rfl⟩:=Prod.mk.inj (Option.some.inj h);clear h
    go_in
    go_wp2_with (go_at_call 119;refine (Any.strconv_ParseInt_10_at64_ok Tryz.laysC174 a0 (by omega) _ hp _).mono ?_;rintro e W1 ⟨rfl,hw⟩)
    have HB:Aside0 (Below w.heap.size w W1):=⟨hw.elim (fun e_=>by rw [e_];exact Below.refl _ _) (fun ⟨t_,e_⟩=>by rw [e_];exact Lib.bytesWorld_below _ _ _)⟩;clear hw
    go_wp2_with (go_at_call 120;refine (impl_isNumber.calls k a0 true _ A1.out).mono ?_;rintro e W2 ⟨rfl,hd⟩;replace HB:=am (below_step HB.out hd.below))
    go_wp2_with (go_at_call 40;refine (impl_within.calls _ a1 a2 _ _ A2.out).mono ?_;rintro e W3 ⟨rfl,hd⟩;replace HB:=am (below_step HB.out hd.below))
    go_ret2
    exact ⟨rfl,HB.out⟩
   | false =>
    simp only [Bool.false_eq_true,if_false] at h
    obtain ⟨rfl,rfl⟩:=Prod.mk.inj (Option.some.inj h);clear h
    go_in
    go_wp2_with (go_at_call 119;refine (Any.strconv_ParseInt_10_at64_ok Tryz.laysC174 a0 (by omega) _ hp _).mono ?_;rintro e W1 ⟨rfl,hw⟩)
    have HB:Aside0 (Below w.heap.size w W1):=⟨hw.elim (fun e_=>by rw [e_];exact Below.refl _ _) (fun ⟨t_,e_⟩=>by rw [e_];exact Lib.bytesWorld_below _ _ _)⟩;clear hw
    go_wp2_with (go_at_call 120;refine (impl_isNumber.calls k a0 false _ A1.out).mono ?_;rintro e W2 ⟨rfl,hd⟩;replace HB:=am (below_step HB.out hd.below))
    go_ret2
    exact ⟨rfl,HB.out⟩
  | «syntax» =>
   simp only [hp] at h
   obtain ⟨rfl,rfl⟩:=Prod.mk.inj (Option.some.inj h);clear h
   go_in
   go_wp2_with (go_at_call 119;refine (Any.strconv_ParseInt_10_at64_syntax Tryz.laysC174 a0 c1 hp e0 _ ?_ t0).mono ?_)
   ·exact g0
   rintro e W1 ⟨N,rfl,-,-,hb⟩
   go_wp2
   go_ret2
   exact ⟨rfl,hb⟩
  | range =>
   simp only [hp] at h
   obtain ⟨rfl,rfl⟩:=Prod.mk.inj (Option.some.inj h);clear h
   go_in
   go_wp2_with (go_at_call 119;refine (Any.strconv_ParseInt_10_at64_range Tryz.laysC174 a0 c1 hp e1 _ ?_ t1).mono ?_)
   ·exact g1
   rintro e W1 ⟨N,rfl,-,-,hb⟩
   go_wp2
   go_ret2
   exact ⟨rfl,hb⟩
 ·rw [if_neg c1] at h;cases h
set_option maxHeartbeats 8000000 in
set_option maxRecDepth 100000 in
theorem impl_isPrinted.calls (k:Nat) (a0:ByteArray) (r:Bool) (w:World) (H:impl_isPrinted.f k a0=some r) :
  Calls Tryz.prog 145 #[.string a0] w fun e w'=>e=.returned (.bool r)∧Drawn0 w w':=by
 unfold impl_isPrinted.f at H;have H':=am H;clear H
 go_in
 go_wp2
 go_loopg [6] k (fun kq v6 w'=>∃ (x6_1:Int),v6=.int .i64 x6_1∧Aside0 (impl_isPrinted.l0 kq a0 (a0.size:Int) x6_1=some r)∧Aside0 (kq≤k)∧Drawn0 w w')
 case atStart=>exact ⟨(0),fg,H',⟨Nat.le_refl _⟩,by repeat (first|exact Drawn0.refl _|apply Drawn0.step)⟩
 case round =>
  clear H'
  obtain ⟨x6_1,rfl,HA,HK1,⟨m1,rfl⟩⟩:=hrel
  cases gk with
  | zero=>exact absurd HA.out (by simp [impl_isPrinted.l0])
  | succ k1 =>
   have H:=HA.out;clear HA;simp only [impl_isPrinted.l0] at H
   revert H;refine id2 ?_ ?_
   ·intro c2b0 H
    revert H;refine id1 ?_
    intro c3b0 H
    revert H;refine id1 ?_
    intro c4b0 H
    revert H;refine id2 ?_ ?_
    ·intro c6b0 H;obtain rfl:=si H;have p5:0≤(x6_1:Int):=oa;have q5:x6_1<(a0.size:Int):=oa;have hx5:=bt_at a0 x6_1;replace p5:=eq_true p5;replace q5:=eq_true q5
     go_wp2
     go_ret
     exact ⟨fg,by repeat (first|exact Drawn0.refl _|apply Drawn0.step)⟩
    ·intro c6b0 H
     revert H;refine ip2 ?_ ?_
     ·intro c8 H;have c8b0:decide (126<(bt a0 x6_1))=true:=decide_eq_true c8;clear c8;obtain rfl:=si H;have p5:0≤(x6_1:Int):=oa;have q5:x6_1<(a0.size:Int):=oa;have hx5:=bt_at a0 x6_1;replace p5:=eq_true p5;replace q5:=eq_true q5;have p7:0≤(x6_1:Int):=oa;have q7:x6_1<(a0.size:Int):=oa;have hx7:=bt_at a0 x6_1;replace p7:=eq_true p7;replace q7:=eq_true q7
      go_wp2
      go_ret
      exact ⟨fg,by repeat (first|exact Drawn0.refl _|apply Drawn0.step)⟩
     ·intro c8 H;have c8b0:decide (126<(bt a0 x6_1))=false:=decide_eq_false c8;clear c8;have H':=am H;clear H;have p5:0≤(x6_1:Int):=oa;have q5:x6_1<(a0.size:Int):=oa;have hx5:=bt_at a0 x6_1;replace p5:=eq_true p5;replace q5:=eq_true q5;have p7:0≤(x6_1:Int):=oa;have q7:x6_1<(a0.size:Int):=oa;have hx7:=bt_at a0 x6_1;replace p7:=eq_true p7;replace q7:=eq_true q7
      go_wp2
      go_roundg k1
      case measure=>have:=HK1.out;omega
      case rel=>exact ⟨(wrap64 (x6_1+1)),fg,H',⟨by have:=HK1.out;omega⟩,by repeat (first|exact Drawn0.refl _|apply Drawn0.step)⟩
   ·intro c2b0 H;obtain rfl:=si H
    go_wp2
    go_ret
    exact ⟨fg,by repeat (first|exact Drawn0.refl _|apply Drawn0.step)⟩
set_option maxHeartbeats 8000000 in
set_option maxRecDepth 100000 in
theorem impl_isPart.calls (k:Nat) (a0:ByteArray) (r:Bool) (w:World) (H:impl_isPart.f k a0=some r) :
  Calls Tryz.prog 133 #[.string a0] w fun e w'=>e=.returned (.bool r)∧Drawn0 w w':=by
 unfold impl_isPart.f at H
 revert H;refine id2k ?_ ?_
 ·intro c2 c2b0 H;have c2b1:decide (a0.size≤40)=true:=decide_eq_true (by omega);clear c2;replace H:=bo H;obtain ⟨t567,A3,H⟩:=H;obtain rfl:=si H
  go_in
  go_wp2_with (first|(go_at_call 145;(with_reducible refine (impl_isPrinted.calls k a0 t567 _ A3.out).mono ?_);rintro e w' ⟨rfl,⟨nd,rfl⟩⟩))
  go_ret
  exact ⟨fg,by repeat (first|exact Drawn0.refl _|apply Drawn0.step)⟩
 ·intro c2 c2b0 H;have c2b1:decide (a0.size≤40)=false:=decide_eq_false (by omega);clear c2;obtain rfl:=si H
  go_in
  go_wp2
  go_ret
  exact ⟨fg,by repeat (first|exact Drawn0.refl _|apply Drawn0.step)⟩
end Go.Proofs.YtogkcllenfkdmaaGreatDoor.QR
