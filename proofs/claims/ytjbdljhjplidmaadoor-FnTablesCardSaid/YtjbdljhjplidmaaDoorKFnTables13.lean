-- Merged by a program of this session (wip/tool/pack.py) out of its own texts for this claim.
import Derived.Test.YtjbdljhjplidmaaDoorKFnTables0
import Derived.Test.YtjbdljhjplidmaaDoorKFnTables1
import Derived.Test.YtjbdljhjplidmaaDoorKFnTables2
import Derived.Test.YtjbdljhjplidmaaDoorKFnTables3
import Derived.Test.YtjbdljhjplidmaaDoorKFnTables4
import Derived.Test.YtjbdljhjplidmaaDoorKFnTables11
namespace Go.Proofs.YtjbdljhjplidmaaDoor.QF
open Go.RowKit Go.Proofs.YtjbdljhjplidmaaDoorW.PrintWords Go.Proofs.YtjbdljhjplidmaaDoorW.PrintLast Go.Proofs.YtjbdljhjplidmaaDoorW.PrintMore
attribute [local go_sem] max2_int min2_int max_two min_two max_three min_three max_four min_four   -- for this text's walks alone
set_option linter.unusedVariables false
set_option linter.unusedSimpArgs false
def spec_l03Seg.T5 : Bool × List (List Nat × List Nat) := (true, [([], []), ([0], [0]), ([], []), ([], []), ([2, 3], [2, 3]), ([4], [4]), ([5], [5]), ([6], [6]), ([7], [7]), ([1, 8], [1, 8]), ([0, 1, 2, 3, 4, 5, 6, 7, 8, 9], []), ([10, 9, 9, 0, 1, 2, 3, 4, 5, 6, 7, 8, 9], [9, 10])])
def spec_l03Seg.B5 : List Nat := [0, 1, 0, 0, 12, 28, 60, 124, 252, 511, 1023, 2047]
theorem spec_l03Seg.tab5 : rtab .any (opsOf Tryd.f68 5) = spec_l03Seg.T5 := by kernel_rfl
theorem spec_l03Seg.bits5 : waitsOk spec_l03Seg.T5.2 spec_l03Seg.B5 = true := by kernel_rfl
set_option maxHeartbeats 8000000 in
set_option maxRecDepth 100000 in
theorem spec_l03Seg.calls (k:Nat) (a0:ByteArray) (A1:Option Addr) (c1:Nat) (l1:List ByteArray) (r1:ByteArray) (r2:List (S65)) (w:World) (hr1:Kd.C Kd.string w A1 l1.length l1) (hc1:l1.length≤c1) (h:spec_l03Seg.f k a0 l1=some (r1,r2)) :
  Calls Tryd.prog 68 #[.string a0,.slice A1 l1.length c1] w fun e w'=>∃ v1_:Value,e=.returned (.agg #[.string r1,v1_])∧Kd.S k65 65 w' w.heap.size (fun _=>True) v1_ r2∧Below w.heap.size w w':=by
 have hu36:=Tryd.underlying36;have hu65:=Tryd.underlying65;have HR1:=am hr1;have HC1:=am hc1;clear hr1 hc1;have HB:=am (Below.refl w.heap.size w);have H:(spec_l03Seg.l0 k l1 0 a0 ([]:List (S65)))=some (r1,r2):=h;clear h;have H':=am H;clear H
 go_enter Tryd.func68,Tryd.ntmps68
 go_wp2_with (first|((with_reducible refine gate_dst (N:=4) rfl ?_);refine bx 4 (cs:=#[.string (⟨#[]⟩:ByteArray),.slice none 0 0]) (t:=36) ?_;intro gb440 hg w3 hbox hb;have BK440:=am (hbox);have GW440:=am ((gs hg (bs HB)));have GE440:=am ((gs hg (bs HB)));replace HB:=am (below_step (bs HB) hb);clear hb hbox hg)|((with_reducible refine gate_dst (N:=5) rfl ?_);refine bx 5 (cs:=#[.string (⟨#[]⟩:ByteArray),.slice none 0 0]) (t:=36) ?_;intro gb441 hg w4 hbox hb;have BK441:=am (hbox);have GW441:=am ((gs hg (bs HB)));have GE441:=am ((gs hg (bs HB)));replace HB:=am (below_step (bs HB) hb);have NB440_441:=am ((gn hg (ks BK440)));have NB441_440:=am ((gm hg (ks BK440)));replace BK440:=am (blk_below (ks BK440) hb);clear hb hbox hg;have hnb5:=NB441_440.out;have hnc5:=NB440_441.out;obtain ⟨hcz6_0,hcz6_1,hfz6_0,hfz6_1⟩:=cf2 BK441))
 go_loopg [6] k (fun kq v6 w'=>∃ (x6_1:Int) (x442001_1:List (S65)) (u442001:Value),v6=.int .i64 x6_1∧Aside0 (spec_l03Seg.l0 kq l1 x6_1 a0 x442001_1=some (r1,r2))∧Aside0 (kq≤k)∧Aside0 (Kd.S k65 65 w' w.heap.size (fun _=>True) u442001 x442001_1)∧Aside0 (w'.heap[gb440]? = some (.cells #[.string (⟨#[]⟩:ByteArray),(.slice none 0 0)] 36 (0,0)))∧Aside0 (w'.heap[gb441]? = some (.cells #[.string a0,u442001] 36 (0,0)))∧Aside0 (Below w.heap.size w w'))
 case atStart=>exact ⟨(0),(([]:List (S65))),(.slice none 0 0),fg,H',⟨Nat.le_refl _⟩,⟨by first|exact Kd.S_nil _ _ _ _ _|exact Kd.N_nil _ _ _ _ _|exact Kd.V_nil _ _ _ _ _|exact Kd.Q_nil _ _ _ _ _|exact Kd.R_nil _ _ _ _ _⟩,⟨ks BK440⟩,⟨kp BK441⟩,⟨bs HB⟩⟩
 case round =>
  clear H'
  try clear c1
  try clear p2
  try clear c5
  try clear c6
  try clear hcz6_0
  try clear hcz6_1
  try clear hfz6_0
  try clear hfz6_1
  obtain ⟨x6_1,x442001_1,u442001,rfl,HA,HK1,HO_442001,BK440,BK441,HB⟩:=hrel
  cases gk with
  | zero=>exact absurd HA.out (by simp [spec_l03Seg.l0])
  | succ k1 =>
   have H:=HA.out;clear HA;simp only [spec_l03Seg.l0] at H
   by_cases c7:x6_1<(l1.length:Int)
   ·rw [if_pos c7] at H;have c7b0:decide (x6_1<(l1.length:Int))=true:=decide_eq_true c7;clear c7
    by_cases c8:0≤x6_1
    ·rw [if_pos c8] at H;have c8b0:decide (0≤x6_1)=true:=decide_eq_true c8;clear c8;obtain ⟨y443,hy443⟩:∃ y_:List ByteArray,y_=(([rdOf ByteArray.empty l1 x6_1]:List ByteArray)):=⟨_,rfl⟩
     replace H:(if x442001_1.length<5864062014805 then (spec_l03Seg.l0 k1 l1 (wrap64 (x6_1+1)) a0 (x442001_1++[(⟨y443⟩:S65)])) else (none))=some (r1,r2):=by first|(rw [hy443];with_reducible exact H)|(have H2_:=(Option.bind_some _ _).symm.trans H;rw [hy443];with_reducible exact H2_)|(have H2_:=(Option.bind_some _ _).symm.trans H;with_reducible exact H2_)|with_reducible exact H|(rw [hy443];exact H)|exact H
     have Ny443:=am hy443;clear hy443
     by_cases c9:x442001_1.length<5864062014805
     ·rw [if_pos c9] at H;have LMc9:=am c9;clear c9;obtain ⟨y446,hy446⟩:∃ y_:List (S65),y_=(x442001_1++[(⟨y443⟩:S65)]):=⟨_,rfl⟩
      replace H:(spec_l03Seg.l0 k1 l1 (wrap64 (x6_1+1)) a0 y446)=some (r1,r2):=by first|(rw [hy446];with_reducible exact H)|(have H2_:=(Option.bind_some _ _).symm.trans H;rw [hy446];with_reducible exact H2_)|(have H2_:=(Option.bind_some _ _).symm.trans H;with_reducible exact H2_)|with_reducible exact H|(rw [hy446];exact H)|exact H
      have Ny446:=am hy446;clear hy446;have H':=am H;clear H
      try go_wp2
      replace HO_442001:=am (Kd.S_drew HO_442001.out);replace BK440:=am (blk_drew BK440.out);replace BK441:=am (blk_drew BK441.out);replace HB:=am (below_drew1 HB.out);have p442:0≤(x6_1:Int):=oa;have q442:x6_1<(l1.length:Int):=oa;obtain ⟨ad442,e442,hx442_0⟩:=Kd.at_string HR1.out x6_1 p442 q442;have hw442_0:=hx442_0
      cases e442
      replace hx442_0:=cb HB hx442_0;replace p442:=eq_true p442;replace q442:=eq_true q442;refine start_ (n:=12) (S:=fun w'=>qk2a w' gb441 (.string a0) (u442001) (w'.cell? (ad442.add (x6_1).toNat)=some (.string (rdOf ByteArray.empty l1 x6_1)))) (ds:=[11]) _ (by kernel_rfl) rfl rfl (qb2a BK441 (((cb HB hw442_0).trans rfl))) (fun hHeld=>?_);refine with_tabW spec_l03Seg.tab5 spec_l03Seg.bits5 (fun HT_ HW_=>?_)
      generalize wr.drew=w10 at HO_442001 BK440 BK441 HB hx442_0 hHeld ⊢
      refine pA 0 15 HT_ ?_;refine pA 2 17 HT_ ?_;refine pA 3 18 HT_ ?_;refine pA 4 19 HT_ ?_;refine tA 1 16 HT_ HW_ hHeld ?_;refine tA 5 20 HT_ HW_ hHeld ?_;refine oA 6 21 HT_ (fun K hK=>?_);refine Kd.R_lit_step Kd.string _ 9 ?hg (N:=21) ?hd (xs:=([rdOf ByteArray.empty l1 x6_1]:List ByteArray)) (inner:=[.string (rdOf ByteArray.empty l1 x6_1)]) (ok:=fun _=>True) (okp:=fun _=>True) ?hr ?hp (fun _ hk=>hk) trivial (Below.refl _ _) (Nat.le_refl _) (by simp) ?_;(case hd=>rfl);(case hg=>rfl);(case hr=>first|(go_simp;done)|(go_simp;rfl));(case hp=>exact (Reps.one (show Kd.M Kd.string _ _ _ (rdOf ByteArray.empty l1 x6_1) [.string (rdOf ByteArray.empty l1 x6_1)] from rfl) (Reps.none _ _)));intro v444 w11 ho12 hb hg_ hnew_;clear hg_ hnew_
      (first|rw [← Ny443.out] at ho12|(simp only [Int.reduceToNat] at ho12;rw [← Ny443.out] at ho12))
      have n0_:=am (Kd.S_elder' (by (with_reducible repeat (first|apply Kd.S_alloc|apply Kd.S_drewN|apply Kd.S_drew));exact HO_442001.out) (Kd.R_base ho12) hb);have n1_:=am (Kd.R_lower ho12 (below_size (bs HB)));have n2_:=am (blk_below (ks BK440) hb);have n3_:=am (blk_below (ks BK441) hb);have n4_:=am (below_step (bs HB) hb);clear HO_442001;clear BK440;clear BK441;clear HB;have HO_442001:=n0_;have HO445:=n1_;have BK440:=n2_;have BK441:=n3_;have HB:=n4_;clear n0_ n1_ n2_ n3_ n4_;clear hb ho12;obtain ⟨Ao13,co13,eo13⟩:=Kd.R_slice HO445.out
      (first|subst eo13|(injection eo13 with f1_ f2_ f3_;have f4_:=f1_.symm;have f5_:=f3_.symm;clear f1_ f2_ f3_;subst f4_;subst f5_))
      refine hK.out _ _ (qb2a BK441 (((cb HB hw442_0).trans rfl))) (fun hHeld=>?_);clear hK K;refine nA 21 ?_;refine pA 7 22 HT_ ?_;refine oA 8 23 HT_ (fun K hK=>?_);refine value_ (w1:=?_) (v:=?_) (by rfl) rfl ?_ ?_
      rotate_left 2
      ·go_simp
       constructor
       ·rfl
       ·rfl
      refine hK.out _ _ ⟨(blk_cell (blk_alloc BK441.out _) 0).trans rfl,(blk_cell (blk_alloc BK441.out _) 1).trans rfl,(World.cell?_alloc_lt _ _ _ (World.block_lt_of_cell? _ _ (((cb HB hw442_0).trans rfl)))).trans (((cb HB hw442_0).trans rfl))⟩ (fun hHeld=>?_);clear hK K;refine nA 23 ?_;refine oA 9 24 HT_ (fun K hK=>?_);refine Kd.S_append_step k65 (w0:=w) w.heap.size (by rfl) (.tmp 16) (.tmp 23) 34 65 (.agg #[(.slice none 0 0)]) 24 rfl Tryd.underlying34 info65 rfl (by decide) (by omega) u442001 x442001_1 (⟨y443⟩:S65) [.slice Ao13 y443.length co13] (fun _=>True) (fun k_=>some k_=(.slice Ao13 y443.length co13:Value).ownBlock) rfl rfl ?aP (fun k_ hk_=>((Kd.R_mono (ok':=fun k_=>((fun _=>True)) k_∧some k_≠(u442001:Value).ownBlock) (Kd.R_apart' (HO445.out) (Kd.S_typed HO_442001.out) (by decide)) (fun k_ hk=>⟨trivial,hk.2⟩))).1 k_ hk_.symm) ?aF ?aO ?aB ?aS ?aL ?_
      (case aP=>exact k65_mkM _ _ _ (⟨y443⟩:S65) (Kd.R_mono (Kd.R_tight rfl (Kd.R_mono (ok':=fun k_=>((fun _=>True)) k_∧some k_≠(u442001:Value).ownBlock) (Kd.R_apart' (HO445.out) (Kd.S_typed HO_442001.out) (by decide)) (fun k_ hk=>⟨trivial,hk.2⟩))) (fun _ h_=>h_)))
      (case aB=>exact (bs HB))
      (case aF=>exact (fun _ _=>trivial))
      (case aO=>exact (by (with_reducible repeat (first|apply Kd.S_alloc|apply Kd.S_drewN|apply Kd.S_drew));exact Kd.S_mono HO_442001.out (fun k_ hk=>⟨trivial,fun e_=>hk.2 e_⟩)))
      (case aS=>exact (below_size (bs HB)))
      (case aL=>have:=LMc9.out;omega)
      intro v447 w14 ho hb hg hat
      rw [← Ny446.out] at ho
      have n0_:=am (blk_grown (ks BK440) hg (Kd.S_ne HO_442001.out BK440.out (by decide)));have n1_:=am (blk_grown (ks BK441) hg (Kd.S_ne HO_442001.out BK441.out (by decide)));have n2_:=am (hb);have n3_:=am (ho);clear BK440;clear BK441;clear HB;clear HO_442001;clear HO445;have BK440:=n0_;have BK441:=n1_;have HB:=n2_;have HO448:=n3_;clear n0_ n1_ n2_ n3_;clear ho hb hg hat;obtain ⟨Ao15,co15,eo15⟩:=Kd.S_slice HO448.out
      (first|subst eo15|(injection eo15 with f1_ f2_ f3_;have f4_:=f1_.symm;have f5_:=f3_.symm;clear f1_ f2_ f3_;subst f4_;subst f5_))
      refine hK.out _ _ (qb2a BK441 (((cb HB hw442_0).trans rfl))) (fun hHeld=>?_);clear hK K;refine nA 24 ?_;refine pA 10 25 HT_ ?_;refine last_ (i:=11) (N:=none) #[true,true,true,true,true,true,true,true,true,true,true,true] rfl rfl (one_of HT_.out (by kernel_rfl)) (by decide) (fun K hK=>?_);have hs16:w14.cell? ⟨gb441,1,none⟩=some (u442001):=(blk_cell BK441.out 1).trans rfl;have hfs16:=blk_frozen BK441.out 1;have hns16_0:=NB440_441.out;have hms16_0:=NB441_440.out;refine skip_ (w1:=?_) (by rfl) rfl ?_ ?_
      rotate_left
      ·go_simp
       rfl
      refine hK.out _ _ ?_;clear hK K;refine done_ (done_of HT_.out (by kernel_rfl)) ?_
      try go_wp2
      go_roundg k1
      case measure=>have:=HK1.out;omega
      case rel=>exact ⟨(wrap64 (x6_1+1)),(y446),(.slice Ao15 y446.length co15),fg,H',⟨by have:=HK1.out;omega⟩,⟨by (with_reducible repeat (first|apply Kd.S_alloc|apply Kd.S_drewN|apply Kd.S_drew));exact Kd.S_mono (Kd.S_far (p:=⟨gb441,1,none⟩) (Kd.S_types HO448.out BK441.out (by decide)) (fun _ hk=>hk.2) (.slice Ao15 y446.length co15)) (fun _ hk=>trivial)⟩,⟨ks BK440⟩,⟨kp BK441⟩,⟨bs HB⟩⟩
     ·rw [if_neg c9] at H
      exact absurd H (by simp)
    ·rw [if_neg c8] at H
     exact absurd H (by simp)
   ·rw [if_neg c7] at H;have c7b0:decide (x6_1<(l1.length:Int))=false:=decide_eq_false c7;clear c7;simp only [Option.some.injEq,Prod.mk.injEq] at H;obtain ⟨rfl,rfl⟩:=H;have hnb17:=NB441_440.out;have hnc17:=NB440_441.out;obtain ⟨hcz18_0,hcz18_1,hfz18_0,hfz18_1⟩:=cf2 BK441;obtain ⟨hcz19_0,hcz19_1,hfz19_0,hfz19_1⟩:=cf2 BK440;obtain ⟨Ao20,co20,eo20⟩:=Kd.S_slice HO_442001.out;subst eo20
    go_wp2
    refine bodyPost_ret (results_cell_row rfl _ _ gb440 36 #[.string a0,.slice Ao20 x442001_1.length co20] (0,0) _ rfl (kp BK440) Tryd.underlying36 rfl (by kernel_rfl)) rfl ?_
    exact ⟨_,ff,by (with_reducible repeat (first|apply Kd.S_alloc|apply Kd.S_drewN|apply Kd.S_drew));exact Kd.S_mono (Kd.S_far (p:=⟨gb440,1,none⟩) (Kd.S_far (p:=⟨gb440,0,none⟩) (Kd.S_types HO_442001.out BK440.out (by decide)) (fun _ hk=>hk.2) (.string a0)) (fun _ hk=>hk.2) (.slice Ao20 x442001_1.length co20)) (fun _ hk=>trivial),bs HB⟩
set_option maxHeartbeats 8000000 in
set_option maxRecDepth 100000 in
theorem spec_l02Empty.calls (A0_0:Option Addr) (c0_0:Nat) (l0_0:List ByteArray) (r:Bool) (w:World) (hr0_0:Kd.C Kd.string w A0_0 l0_0.length l0_0) (hc0_0:l0_0.length≤c0_0) (h:spec_l02Empty.f l0_0=some r) :
  Calls Tryd.prog 86 #[.agg #[.slice A0_0 l0_0.length c0_0]] w fun e w'=>e=.returned (.bool r)∧Below w.heap.size w w':=by
 have hu65:=Tryd.underlying65;have HR0_0:=am hr0_0;have HC0_0:=am hc0_0;clear hr0_0 hc0_0;have HB:=am (Below.refl w.heap.size w);have H:(if (l0_0.length:Int)=1 then (if 0<(l0_0.length:Int) then (some ((rdOf ByteArray.empty l0_0 0).toList == ([]:List UInt8))) else (none)) else (some false))=some r:=h;clear h
 by_cases c2:(l0_0.length:Int)=1
 ·rw [if_pos c2] at H;have c2b0:((l0_0.length:Int) == 1)=true:=beq_iff_eq.mpr c2;have c2b1:((l0_0.length:Int) != 1)=false:=bne_eq_false_iff_eq.mpr c2;clear c2
  by_cases c3:0<(l0_0.length:Int)
  ·rw [if_pos c3] at H;have c3b0:decide (0<(l0_0.length:Int))=true:=decide_eq_true c3;have c3b1:decide (0<l0_0.length)=true:=decide_eq_true (by omega);clear c3;obtain rfl:=Option.some.inj H
   go_enter Tryd.func86,Tryd.ntmps86
   go_wp2_with (first|((with_reducible refine gate_dst (N:=1) rfl ?_);refine bx 1 (cs:=#[.slice A0_0 l0_0.length c0_0]) (t:=65) ?_;intro gb449 hg w4 hbox hb;have BK449:=am (hbox);have GW449:=am ((gs hg (bs HB)));have GE449:=am ((gs hg (bs HB)));replace HB:=am (below_step (bs HB) hb);clear hb hbox hg;obtain ⟨hcz5_0,hfz5_0⟩:=cf1 BK449;have p450:0≤(0:Int):=(by omega);have q450:0<(l0_0.length:Int):=oa;obtain ⟨ad450,e450,hx450_0⟩:=Kd.at_string HR0_0.out 0 p450 q450;cases e450;have qi450:(0<l0_0.length)=True:=eq_true (by omega);(try rw [show ((0:Int)).toNat=0 from rfl] at hx450_0);(try rw [Addr.add_zero'] at hx450_0);replace hx450_0:=cb HB hx450_0;replace p450:=eq_true p450;replace q450:=eq_true q450))
   go_ret
   exact ⟨ff,bs HB⟩
  ·rw [if_neg c3] at H
   exact absurd H (by simp)
 ·rw [if_neg c2] at H;have c2b0:((l0_0.length:Int) == 1)=false:=beq_eq_false_iff_ne.mpr c2;have c2b1:((l0_0.length:Int) != 1)=true:=bne_iff_ne.mpr c2;obtain rfl:=Option.some.inj H
  go_enter Tryd.func86,Tryd.ntmps86
  go_wp2_with (first|((with_reducible refine gate_dst (N:=1) rfl ?_);refine bx 1 (cs:=#[.slice A0_0 l0_0.length c0_0]) (t:=65) ?_;intro gb449 hg w6 hbox hb;have BK449:=am (hbox);have GW449:=am ((gs hg (bs HB)));have GE449:=am ((gs hg (bs HB)));replace HB:=am (below_step (bs HB) hb);clear hb hbox hg;obtain ⟨hcz7_0,hfz7_0⟩:=cf1 BK449))
  go_ret
  exact ⟨ff,bs HB⟩
end Go.Proofs.YtjbdljhjplidmaaDoor.QF
