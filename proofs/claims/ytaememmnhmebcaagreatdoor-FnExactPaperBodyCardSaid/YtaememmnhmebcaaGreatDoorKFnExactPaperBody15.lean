-- Merged by a program of this session (wip/tool/pack.py) out of its own texts for this claim.
import Derived.Test.YtaememmnhmebcaaGreatDoorKFnExactPaperBody14
set_option maxHeartbeats 8000000
set_option maxRecDepth 100000
set_option linter.unusedSimpArgs false
set_option linter.unusedVariables false
namespace Go.Proofs.YtaememmnhmebcaaGreatDoor.QB
open Go.RowKit Go.Proofs.YtaememmnhmebcaaGreatDoorW.PrintWords Go.Proofs.YtaememmnhmebcaaGreatDoorW.PrintLast Go.Proofs.YtaememmnhmebcaaGreatDoorW.PrintMore
attribute [local go_sem] max2_int min2_int max_two min_two max_three min_three max_four min_four   -- for this text's walks alone
def impl_FormRight.T14:Bool × List (List Nat × List Nat):=(true,[([],[]),([],[]),([1],[1]),([0,2],[0,2]),([3],[3]),([4],[4]),([5,4],[4,5]),([6,4],[4,6]),([7,4],[4,7]),([4,8],[4,8]),([9,4],[9]),([10],[10]),([10],[10]),([11,12,10],[10,11,12]),([10],[10]),([14,10],[10,14]),([15,10],[10,15]),([16,10],[10,16]),([13,17,10,10],[10,13,17]),([18,10],[10,18]),([10,19],[10,19])])
def impl_FormRight.B14:List Nat:=[0,0,2,7,15,31,63,127,255,511,1023,2047,2047,8191,2047,18431,51199,116735,262143,524287,1048575]
theorem impl_FormRight.tab14:rtab .any (opsOf Tryz.f63 14)=impl_FormRight.T14:=by kernel_rfl
theorem impl_FormRight.bits14:waitsOk impl_FormRight.T14.2 impl_FormRight.B14=true:=by kernel_rfl
theorem impl_FormRight.calls (k:Nat) (a0:ByteArray) (a1_0:ByteArray) (A1_1:Option Addr) (c1_1:Nat) (l1_1:List (S77)) (r:Int) (w:World) (hr1_1:Kd.C k77 w A1_1 l1_1.length l1_1) (hc1_1:l1_1.length≤c1_1) (hTC:TbC w) (hTP:TbP w) (H:impl_FormRight.f k a0 a1_0 l1_1=some r) :
  Calls Tryz.prog 63 #[.string a0,.agg #[.string a1_0,.slice A1_1 l1_1.length c1_1]] w fun e w'=>e=.returned (.int .i64 r)∧Below w.heap.size w w':=by
 have HTC:=am hTC;clear hTC;have HTP:=am hTP;clear hTP
 have hu46:=Tryz.underlying46;have hu77:=Tryz.underlying77;have HR1_1:=am hr1_1;have HC1_1:=am hc1_1;clear hr1_1 hc1_1;have HB:=am (Below.refl w.heap.size w);unfold impl_FormRight.f at H;replace H:=bo H;obtain ⟨⟨t69,t70,t74⟩,A3,H⟩:=H;(try dsimp only at H)
 revert H;refine ip2 ?_ ?_
 ·intro c4 H;have c4b0:=eq_true c4;have c4b1:decide (t69.size+t70.size≤9223372036854775807)=true:=decide_eq_true c4
  try have c4b2:(9223372036854775807<t69.size+t70.size)=False:=eq_false (Nat.not_lt.2 c4)
  have H':=am H;clear H
  go_in
  go_wp2_with (first|((with_reducible refine gate_dst (N:=3) rfl ?_);(try (refine gate_guard (by rfl) ?_;dsimp only));refine bz 3 (cs:=#[.string a1_0,.slice A1_1 l1_1.length c1_1]) (t:=46) HB ?_;clear HB;intro gb67 hg w5 BK67 GW67 hb HB;clear hb hg)|((first|((with_reducible refine gate_callee (f:=83) rfl ?_);refine goesL_ (some 14) rfl rfl Tryz.func83 (by kernel_rfl) rfl #[.string a0,.string (⟨#[63]⟩:ByteArray)] rfl (by (try simp only [List.map_toArray,List.map_cons,List.map_nil]);first|done|rfl|(simp only [List.length_drop,List.length_take];rfl)) ?_;(with_reducible refine (strings_Cut.calls a0 (⟨#[63]⟩:ByteArray) t69 t70 t74 _ (tbC HTC (bs HB)) A3.out).mono ?_);rintro e w6 ⟨rfl,hb⟩;refine ⟨_,rfl,?_⟩)|(go_at_call 83;(with_reducible refine (strings_Cut.calls a0 (⟨#[63]⟩:ByteArray) t69 t70 t74 _ (tbC HTC (bs HB)) A3.out).mono ?_);rintro e w6 ⟨rfl,hb⟩));replace BK67:=bb BK67 hb;replace HB:=bq HB hb;(try clear hb);(try clear hb2);(try clear hk);(try clear hi)))
  go_loopg [23] k (fun kq v23 w'=>∃ (x23_1:Int),v23=.int .i64 x23_1∧Aside0 (impl_FormRight.l0 kq a0 t69 (t69++t70) ((t69++t70).size:Int) x23_1 a1_0 l1_1=some r)∧Aside0 (kq≤k)∧Aside0 (w'.heap[gb67]? = some (.cells #[.string a1_0,(.slice A1_1 l1_1.length c1_1)] 46 (0,0)))∧Aside0 (Below w.heap.size w w'))
  case atStart=>exact ⟨(0),fg,H',⟨Nat.le_refl _⟩,⟨ks BK67⟩,⟨bs HB⟩⟩
  case round =>
   clear H'
   try clear c4
   try clear c4b0
   try clear c4b1
   try clear c4b2
   try clear BK67
   obtain ⟨x23_1,rfl,HA,HK1,BK67,HB⟩:=hrel
   cases gk with
   | zero=>exact absurd HA.out (by simp [impl_FormRight.l0])
   | succ k1 =>
    have H:=HA.out;clear HA;simp only [impl_FormRight.l0] at H
    revert H;refine id2k ?_ ?_
    ·intro c7 c7b0 H;(try (have c7b0n:=c7b0;simp only [ByteArray.size_append,jsz_mk,List.size_toArray,List.length_cons,List.length_nil,Nat.zero_add,Nat.reduceAdd,Int.natCast_add,Int.cast_ofNat_Int] at c7b0n));clear c7
     revert H;refine id1 ?_
     intro c8b0 H
     revert H;refine id1k ?_
     intro c9 c9b0 H;(try (have c9b0n:=c9b0;simp only [ByteArray.size_append,jsz_mk,List.size_toArray,List.length_cons,List.length_nil,Nat.zero_add,Nat.reduceAdd,Int.natCast_add,Int.cast_ofNat_Int] at c9b0n));clear c9;replace H:=bo H;obtain ⟨t75,A11,H⟩:=H;have p10:0≤(x23_1:Int):=oa;have q10:x23_1<((t69++t70).size:Int):=oa;have hx10:=bt_at (t69++t70) x23_1;replace p10:=eq_true p10;replace q10:=eq_true q10;(try (have q10n:=q10;simp only [ByteArray.size_append,jsz_mk,List.size_toArray,List.length_cons,List.length_nil,Nat.zero_add,Nat.reduceAdd,Int.natCast_add,Int.cast_ofNat_Int] at q10n))
     try go_wp2_with (fail)
     go_at_call 84;(with_reducible refine (strings_IndexByte.calls (⟨#[114,110,113,122,100,116]⟩:ByteArray) (bt (t69++t70) x23_1) t75 _ A11.out).mono ?_);rintro e w' ⟨rfl,⟨nd,rfl⟩⟩
     revert H;refine id2 ?_ ?_
     ·intro c12b0 H;obtain rfl:=si H
      go_wp2
      go_ret
      exact ⟨ff,bs HB⟩
     ·intro c12b0 H;have H':=am H;clear H
      go_wp2
      go_roundg k1
      case measure=>have:=HK1.out;omega
      case rel=>exact ⟨(wrap64 (x23_1+1)),fg,H',⟨by have:=HK1.out;omega⟩,⟨ks BK67⟩,⟨bs HB⟩⟩
    ·intro c7 c7b0 H;(try (have c7b0n:=c7b0;simp only [ByteArray.size_append,jsz_mk,List.size_toArray,List.length_cons,List.length_nil,Nat.zero_add,Nat.reduceAdd,Int.natCast_add,Int.cast_ofNat_Int] at c7b0n));clear c7;obtain ⟨y71,hy71⟩:∃ y_:List ByteArray,y_=(([a0]:List ByteArray)):=⟨_,rfl⟩
     replace H:((impl_longText.f k1 y71).bind fun t72=>(if t72=true then (some 0) else (impl_FormRight.l1 k1 t69 (t69++t70) l1_1 (l1_1.length:Int) 0 a1_0 l1_1)))=some r:=ye hy71 H
     have Ny71:=am hy71;clear hy71;replace H:=bo H;obtain ⟨t72,A13,H⟩:=H
     try go_wp2_with (first|((with_reducible refine gate_dst (N:=33) rfl ?_);(try (refine gate_guard (by rfl) ?_;dsimp only));refine rl Kd.string 9 (N:=33) (xs:=([a0]:List ByteArray)) (inner:=[.string a0]) ?hp ?_;(case hp=>exact (Reps.one (show Kd.M Kd.string _ _ _ a0 [.string a0] from rfl) (Reps.none _ _)));intro v78 w14 ho15 hb hg_ hnew_;clear hg_ hnew_;(first|rw [← Ny71.out] at ho15|(simp only [Int.reduceToNat] at ho15;rw [← Ny71.out] at ho15));have HO73:=am (Kd.R_lower ho15 (below_size (bs HB)));replace BK67:=bb BK67 hb;replace HB:=bq HB hb;clear hb ho15;obtain ⟨Ao16,co16,eo16⟩:=Kd.R_slice HO73.out;subst eo16))
     go_at_call 85;(with_reducible refine (impl_longText.calls k1 _ _ y71 t72 _ ?side1 ?side2 A13.out).mono ?_);(case side1=>exact sd (Kd.R_reads' HO73.out).2.2);(case side2=>exact (Kd.R_reads' HO73.out).2.1);rintro e w' ⟨rfl,⟨nd,rfl⟩⟩
     obtain rfl|rfl:=bt t72
     ·replace H:=itT H;obtain rfl:=si H
      go_wp2
      go_ret
      exact ⟨ff,bs HB⟩
     ·replace H:=itF H;have H':=am H;clear H;have hcz18:=cf2 BK67
      go_wp2
      go_loopg [38] k1 (fun kq v38 w'=>∃ (x38_2:Int),v38=.int .i64 x38_2∧Aside0 (impl_FormRight.l1 kq t69 (t69++t70) l1_1 (l1_1.length:Int) x38_2 a1_0 l1_1=some r)∧Aside0 (kq≤k1)∧Aside0 (w'.heap[gb67]? = some (.cells #[.string a1_0,(.slice A1_1 l1_1.length c1_1)] 46 (0,0)))∧Aside0 (Below w.heap.size w w'))
      case atStart=>exact ⟨(0),fg,H',⟨Nat.le_refl _⟩,⟨ks BK67⟩,⟨bs HB⟩⟩
      case round =>
       clear H'
       try clear c4
       try clear c4b0
       try clear c4b1
       try clear c4b2
       try clear c7
       try clear c7b0
       try clear hcz18
       try clear BK67
       obtain ⟨x38_2,rfl,HA,HK2,BK67,HB⟩:=hrel
       cases gk with
       | zero=>exact absurd HA.out (by simp [impl_FormRight.l1])
       | succ k2 =>
        have H:=HA.out;clear HA;simp only [impl_FormRight.l1] at H
        revert H;refine id2 ?_ ?_
        ·intro c19b0 H
         revert H;refine id1 ?_
         intro c20b0 H
         revert H;refine id1 ?_
         intro c21b0 H
         by_cases c22:x38_2=((t69++t70).size:Int)
         ·rw [if_pos c22] at H;have c22b0:(x38_2 == ((t69++t70).size:Int))=true:=beq_iff_eq.mpr c22;(try (have c22b0n:=c22b0;simp only [ByteArray.size_append,jsz_mk,List.size_toArray,List.length_cons,List.length_nil,Nat.zero_add,Nat.reduceAdd,Int.natCast_add,Int.cast_ofNat_Int] at c22b0n));have c22b1:(x38_2 != ((t69++t70).size:Int))=false:=bne_eq_false_iff_eq.mpr c22;(try (have c22b1n:=c22b1;simp only [ByteArray.size_append,jsz_mk,List.size_toArray,List.length_cons,List.length_nil,Nat.zero_add,Nat.reduceAdd,Int.natCast_add,Int.cast_ofNat_Int] at c22b1n));clear c22;obtain rfl:=si H;have p65:0≤(x38_2:Int):=oa;have q65:x38_2<(l1_1.length:Int):=oa;obtain ⟨ad65,A65_0,c65_0,e65,hx65_0,hl65_0,hi65_0⟩:=at_T77 HR1_1.out x38_2 p65 q65
          cases e65
          replace hx65_0:=cb HB hx65_0;have HR65_0:=am hi65_0;have HC65_0:=am hl65_0;clear hi65_0 hl65_0;replace p65:=eq_true p65;replace q65:=eq_true q65
          try go_wp2_with (first|((with_reducible refine gate_dst (N:=11) rfl ?_);(try (refine gate_guard (by rfl) ?_;dsimp only));refine bz 11 (cs:=#[.slice none 0 0]) (t:=77) HB ?_;clear HB;intro gb66 hg w23 BK66 GW66 hb HB;have NB67_66:=na hg BK67;have NB66_67:=nc hg BK67;replace BK67:=bb BK67 hb;clear hb hg;have hnb24:=NB66_67.out;have hnc24:=NB67_66.out;have hcz25:=cf1 BK66))
          have n0_:=kz (w23.setCell ⟨gb66,0,none⟩ (.slice A65_0 ((rd_T77 l1_1 x38_2).f0).length c65_0)) BK67;have n1_:Aside0 ((w23.setCell ⟨gb66,0,none⟩ (.slice A65_0 ((rd_T77 l1_1 x38_2).f0).length c65_0)).heap[gb66]? = some (.cells #[.slice A65_0 ((rd_T77 l1_1 x38_2).f0).length c65_0] 77 (0,0))):=⟨kp BK66⟩;have n2_:Aside0 (Below w.heap.size w (w23.setCell ⟨gb66,0,none⟩ (.slice A65_0 ((rd_T77 l1_1 x38_2).f0).length c65_0))):=⟨bs HB⟩;(try clear BK67);(try clear BK66);(try clear HB)
          generalize (w23.setCell ⟨gb66,0,none⟩ (.slice A65_0 ((rd_T77 l1_1 x38_2).f0).length c65_0))=w26 at n0_ n1_ n2_ ⊢
          have BK67:=n0_;have BK66:=n1_;have HB:=n2_;clear n0_ n1_ n2_;replace BK67:=am (blk_drew BK67.out);replace BK66:=am (blk_drew BK66.out);replace HB:=am (below_drew1 HB.out);refine start_ (n:=21) (S:=fun w'=>True) (ds:=[]) _ (by kernel_rfl) rfl rfl trivial (fun hHeld=>?_);refine with_tabW impl_FormRight.tab14 impl_FormRight.bits14 (fun HT_ HW_=>?_)
          generalize w26.drew=w27 at BK67 BK66 HB hHeld ⊢
          refine pz8 0 ?_;refine pz8 8 ?_;refine pz4 16 ?_;refine pz1 20 ?_;refine done_ (done_of HT_.out (by kernel_rfl)) ?_
          try go_wp2
          go_ret
          exact ⟨ff,bs HB⟩
         ·rw [if_neg c22] at H;have c22b0:(x38_2 == ((t69++t70).size:Int))=false:=beq_eq_false_iff_ne.mpr c22;(try (have c22b0n:=c22b0;simp only [ByteArray.size_append,jsz_mk,List.size_toArray,List.length_cons,List.length_nil,Nat.zero_add,Nat.reduceAdd,Int.natCast_add,Int.cast_ofNat_Int] at c22b0n));have c22b1:(x38_2 != ((t69++t70).size:Int))=true:=bne_iff_ne.mpr c22;(try (have c22b1n:=c22b1;simp only [ByteArray.size_append,jsz_mk,List.size_toArray,List.length_cons,List.length_nil,Nat.zero_add,Nat.reduceAdd,Int.natCast_add,Int.cast_ofNat_Int] at c22b1n))
          revert H;refine ie2 ?_ ?_
          ·intro c28b0 c28b1 H
           revert H;refine id1k ?_
           intro c29 c29b0 H;(try (have c29b0n:=c29b0;simp only [ByteArray.size_append,jsz_mk,List.size_toArray,List.length_cons,List.length_nil,Nat.zero_add,Nat.reduceAdd,Int.natCast_add,Int.cast_ofNat_Int] at c29b0n));clear c29
           revert H;refine id1k ?_
           intro c31 c31b0 H;have c31b1:decide (0<((rd_T77 l1_1 x38_2).f0).length)=true:=decide_eq_true (by omega);clear c31;replace H:=bo H;obtain ⟨t76,A32,H⟩:=H
           obtain rfl|rfl:=bt t76
           ·replace H:=itT H;have H':=am H;clear H;have p65:0≤(x38_2:Int):=oa;have q65:x38_2<(l1_1.length:Int):=oa;obtain ⟨ad65,A65_0,c65_0,e65,hx65_0,hl65_0,hi65_0⟩:=at_T77 HR1_1.out x38_2 p65 q65
            cases e65
            replace hx65_0:=cb HB hx65_0;have HR65_0:=am hi65_0;have HC65_0:=am hl65_0;clear hi65_0 hl65_0;replace p65:=eq_true p65;replace q65:=eq_true q65
            try go_wp2_with (first|((with_reducible refine gate_dst (N:=11) rfl ?_);(try (refine gate_guard (by rfl) ?_;dsimp only));refine bz 11 (cs:=#[.slice none 0 0]) (t:=77) HB ?_;clear HB;intro gb66 hg w34 BK66 GW66 hb HB;have NB67_66:=na hg BK67;have NB66_67:=nc hg BK67;replace BK67:=bb BK67 hb;clear hb hg;have hnb35:=NB66_67.out;have hnc35:=NB67_66.out;have hcz36:=cf1 BK66))
            have n0_:=kz (w34.setCell ⟨gb66,0,none⟩ (.slice A65_0 ((rd_T77 l1_1 x38_2).f0).length c65_0)) BK67;have n1_:Aside0 ((w34.setCell ⟨gb66,0,none⟩ (.slice A65_0 ((rd_T77 l1_1 x38_2).f0).length c65_0)).heap[gb66]? = some (.cells #[.slice A65_0 ((rd_T77 l1_1 x38_2).f0).length c65_0] 77 (0,0))):=⟨kp BK66⟩;have n2_:Aside0 (Below w.heap.size w (w34.setCell ⟨gb66,0,none⟩ (.slice A65_0 ((rd_T77 l1_1 x38_2).f0).length c65_0))):=⟨bs HB⟩;(try clear BK67);(try clear BK66);(try clear HB)
            generalize (w34.setCell ⟨gb66,0,none⟩ (.slice A65_0 ((rd_T77 l1_1 x38_2).f0).length c65_0))=w37 at n0_ n1_ n2_ ⊢
            have BK67:=n0_;have BK66:=n1_;have HB:=n2_;clear n0_ n1_ n2_;replace BK67:=am (blk_drew BK67.out);replace BK66:=am (blk_drew BK66.out);replace HB:=am (below_drew1 HB.out);have p30:0≤(x38_2:Int):=oa;have q30:x38_2<((t69++t70).size:Int):=oa;have hx30:=bt_at (t69++t70) x38_2;replace p30:=eq_true p30;replace q30:=eq_true q30;(try (have q30n:=q30;simp only [ByteArray.size_append,jsz_mk,List.size_toArray,List.length_cons,List.length_nil,Nat.zero_add,Nat.reduceAdd,Int.natCast_add,Int.cast_ofNat_Int] at q30n));have p68:0≤(0:Int):=(by omega);have q68:0<(((rd_T77 l1_1 x38_2).f0).length:Int):=oa;obtain ⟨ad68,e68,hx68_0⟩:=Kd.at_string HR65_0.out 0 p68 q68;have hw68_0:=hx68_0
            (try rw [show ((0:Int)).toNat=0 from rfl] at hw68_0)
            (try rw [show 0 * 1=0 from rfl] at hw68_0)
            (try rw [Addr.add_zero'] at hw68_0)
            cases e68
            have qi68:(0<((rd_T77 l1_1 x38_2).f0).length)=True:=eq_true (by omega)
            (try rw [show ((0:Int)).toNat=0 from rfl] at hx68_0)
            (try rw [Addr.add_zero'] at hx68_0)
            replace hx68_0:=cb HB hx68_0;replace p68:=eq_true p68;replace q68:=eq_true q68;refine sta 21 (hb1a BK66 (hc (cb HB hw68_0))) (fun hHeld=>?_);refine with_tabW impl_FormRight.tab14 impl_FormRight.bits14 (fun HT_ HW_=>?_)
            generalize w37.drew=w38 at BK67 BK66 HB hx68_0 hHeld ⊢
            refine pz4 0 ?_;refine pz2 4 ?_;refine ta 6 ?_;refine pz4 7 ?_;refine pz2 11 ?_;refine pz1 14 ?_;refine ta 13 ?_;refine ta 15 ?_;refine pz1 16 ?_;refine ta 17 ?_;refine oA 18 61 HT_ (fun K hK=>?_);refine gA Tryz.func86 #[.int .u8 (bt (t69++t70) x38_2),.string (rdOf ByteArray.empty ((rd_T77 l1_1 x38_2).f0) 0)] ?_;(with_reducible refine (impl_isOf.calls k2 (bt (t69++t70) x38_2) (rdOf ByteArray.empty ((rd_T77 l1_1 x38_2).f0) 0) true _ (tbP HTP (bs HB)) A32.out).mono ?_);rintro e w39 ⟨rfl,hb⟩;refine ⟨_,rfl,?_⟩;replace BK67:=bb BK67 hb;replace BK66:=bb BK66 hb;replace HB:=bq HB hb;(try clear hb);(try clear hb2);(try clear hk);(try clear hi);refine hK.out _ _ (hb1a BK66 (hc (cb HB hw68_0))).out (fun hHeld=>?_);clear hK K;refine nA 61 ?_;refine pz2 19 ?_;refine done_ (done_of HT_.out (by kernel_rfl)) ?_
            try go_wp2
            go_roundg k2
            case measure=>have:=HK1.out;have:=HK2.out;omega
            case rel=>exact ⟨(wrap64 (x38_2+1)),fg,H',⟨by have:=HK1.out;have:=HK2.out;omega⟩,⟨ks BK67⟩,⟨bs HB⟩⟩
           ·replace H:=itF H;obtain rfl:=si H;have p65:0≤(x38_2:Int):=oa;have q65:x38_2<(l1_1.length:Int):=oa;obtain ⟨ad65,A65_0,c65_0,e65,hx65_0,hl65_0,hi65_0⟩:=at_T77 HR1_1.out x38_2 p65 q65
            cases e65
            replace hx65_0:=cb HB hx65_0;have HR65_0:=am hi65_0;have HC65_0:=am hl65_0;clear hi65_0 hl65_0;replace p65:=eq_true p65;replace q65:=eq_true q65
            try go_wp2_with (first|((with_reducible refine gate_dst (N:=11) rfl ?_);(try (refine gate_guard (by rfl) ?_;dsimp only));refine bz 11 (cs:=#[.slice none 0 0]) (t:=77) HB ?_;clear HB;intro gb66 hg w40 BK66 GW66 hb HB;have NB67_66:=na hg BK67;have NB66_67:=nc hg BK67;replace BK67:=bb BK67 hb;clear hb hg;have hnb41:=NB66_67.out;have hnc41:=NB67_66.out;have hcz42:=cf1 BK66))
            have n0_:=kz (w40.setCell ⟨gb66,0,none⟩ (.slice A65_0 ((rd_T77 l1_1 x38_2).f0).length c65_0)) BK67;have n1_:Aside0 ((w40.setCell ⟨gb66,0,none⟩ (.slice A65_0 ((rd_T77 l1_1 x38_2).f0).length c65_0)).heap[gb66]? = some (.cells #[.slice A65_0 ((rd_T77 l1_1 x38_2).f0).length c65_0] 77 (0,0))):=⟨kp BK66⟩;have n2_:Aside0 (Below w.heap.size w (w40.setCell ⟨gb66,0,none⟩ (.slice A65_0 ((rd_T77 l1_1 x38_2).f0).length c65_0))):=⟨bs HB⟩;(try clear BK67);(try clear BK66);(try clear HB)
            generalize (w40.setCell ⟨gb66,0,none⟩ (.slice A65_0 ((rd_T77 l1_1 x38_2).f0).length c65_0))=w43 at n0_ n1_ n2_ ⊢
            have BK67:=n0_;have BK66:=n1_;have HB:=n2_;clear n0_ n1_ n2_;replace BK67:=am (blk_drew BK67.out);replace BK66:=am (blk_drew BK66.out);replace HB:=am (below_drew1 HB.out);have p30:0≤(x38_2:Int):=oa;have q30:x38_2<((t69++t70).size:Int):=oa;have hx30:=bt_at (t69++t70) x38_2;replace p30:=eq_true p30;replace q30:=eq_true q30;(try (have q30n:=q30;simp only [ByteArray.size_append,jsz_mk,List.size_toArray,List.length_cons,List.length_nil,Nat.zero_add,Nat.reduceAdd,Int.natCast_add,Int.cast_ofNat_Int] at q30n));have p68:0≤(0:Int):=(by omega);have q68:0<(((rd_T77 l1_1 x38_2).f0).length:Int):=oa;obtain ⟨ad68,e68,hx68_0⟩:=Kd.at_string HR65_0.out 0 p68 q68;have hw68_0:=hx68_0
            (try rw [show ((0:Int)).toNat=0 from rfl] at hw68_0)
            (try rw [show 0 * 1=0 from rfl] at hw68_0)
            (try rw [Addr.add_zero'] at hw68_0)
            cases e68
            have qi68:(0<((rd_T77 l1_1 x38_2).f0).length)=True:=eq_true (by omega)
            (try rw [show ((0:Int)).toNat=0 from rfl] at hx68_0)
            (try rw [Addr.add_zero'] at hx68_0)
            replace hx68_0:=cb HB hx68_0;replace p68:=eq_true p68;replace q68:=eq_true q68;refine sta 21 (hb1a BK66 (hc (cb HB hw68_0))) (fun hHeld=>?_);refine with_tabW impl_FormRight.tab14 impl_FormRight.bits14 (fun HT_ HW_=>?_)
            generalize w43.drew=w44 at BK67 BK66 HB hx68_0 hHeld ⊢
            refine pz4 0 ?_;refine pz2 4 ?_;refine ta 6 ?_;refine pz4 7 ?_;refine pz2 11 ?_;refine pz1 14 ?_;refine ta 13 ?_;refine ta 15 ?_;refine pz1 16 ?_;refine ta 17 ?_;refine oA 18 61 HT_ (fun K hK=>?_);refine gA Tryz.func86 #[.int .u8 (bt (t69++t70) x38_2),.string (rdOf ByteArray.empty ((rd_T77 l1_1 x38_2).f0) 0)] ?_;(with_reducible refine (impl_isOf.calls k2 (bt (t69++t70) x38_2) (rdOf ByteArray.empty ((rd_T77 l1_1 x38_2).f0) 0) false _ (tbP HTP (bs HB)) A32.out).mono ?_);rintro e w45 ⟨rfl,hb⟩;refine ⟨_,rfl,?_⟩;replace BK67:=bb BK67 hb;replace BK66:=bb BK66 hb;replace HB:=bq HB hb;(try clear hb);(try clear hb2);(try clear hk);(try clear hi);refine hK.out _ _ (hb1a BK66 (hc (cb HB hw68_0))).out (fun hHeld=>?_);clear hK K;refine nA 61 ?_;refine pz2 19 ?_;refine done_ (done_of HT_.out (by kernel_rfl)) ?_
            try go_wp2
            go_ret
            exact ⟨ff,bs HB⟩
          ·intro c28 c28b0 c28b1 H;obtain rfl:=si H;have p65:0≤(x38_2:Int):=oa;have q65:x38_2<(l1_1.length:Int):=oa;obtain ⟨ad65,A65_0,c65_0,e65,hx65_0,hl65_0,hi65_0⟩:=at_T77 HR1_1.out x38_2 p65 q65
           cases e65
           replace hx65_0:=cb HB hx65_0;have HR65_0:=am hi65_0;have HC65_0:=am hl65_0;clear hi65_0 hl65_0;replace p65:=eq_true p65;replace q65:=eq_true q65
           try go_wp2_with (first|((with_reducible refine gate_dst (N:=11) rfl ?_);(try (refine gate_guard (by rfl) ?_;dsimp only));refine bz 11 (cs:=#[.slice none 0 0]) (t:=77) HB ?_;clear HB;intro gb66 hg w46 BK66 GW66 hb HB;have NB67_66:=na hg BK67;have NB66_67:=nc hg BK67;replace BK67:=bb BK67 hb;clear hb hg;have hnb47:=NB66_67.out;have hnc47:=NB67_66.out;have hcz48:=cf1 BK66))
           have n0_:=kz (w46.setCell ⟨gb66,0,none⟩ (.slice A65_0 ((rd_T77 l1_1 x38_2).f0).length c65_0)) BK67;have n1_:Aside0 ((w46.setCell ⟨gb66,0,none⟩ (.slice A65_0 ((rd_T77 l1_1 x38_2).f0).length c65_0)).heap[gb66]? = some (.cells #[.slice A65_0 ((rd_T77 l1_1 x38_2).f0).length c65_0] 77 (0,0))):=⟨kp BK66⟩;have n2_:Aside0 (Below w.heap.size w (w46.setCell ⟨gb66,0,none⟩ (.slice A65_0 ((rd_T77 l1_1 x38_2).f0).length c65_0))):=⟨bs HB⟩;(try clear BK67);(try clear BK66);(try clear HB)
           generalize (w46.setCell ⟨gb66,0,none⟩ (.slice A65_0 ((rd_T77 l1_1 x38_2).f0).length c65_0))=w49 at n0_ n1_ n2_ ⊢
           have BK67:=n0_;have BK66:=n1_;have HB:=n2_;clear n0_ n1_ n2_;replace BK67:=am (blk_drew BK67.out);replace BK66:=am (blk_drew BK66.out);replace HB:=am (below_drew1 HB.out);refine sta 21 (hb1 BK66) (fun hHeld=>?_);refine with_tabW impl_FormRight.tab14 impl_FormRight.bits14 (fun HT_ HW_=>?_)
           generalize w49.drew=w50 at BK67 BK66 HB hHeld ⊢
           refine pz4 0 ?_;refine pz2 4 ?_;refine take_ (i:=6) (N:=some 49) (v:=?_) (a':=?_) #[true,true,true,true,true,true,true,false,false,false,false,false,false,false,false,false,false,false,false,false,false] rfl rfl (take_ofW HT_.out HW_.out (by kernel_rfl)) (fun _ _ _ h=>h) (Or.inl ⟨by rfl,?_⟩) hHeld ?_ ?_
           rotate_left
           ·intro w' s0
            go_simp
            (with_reducible rfl)
           rotate_left
           ·simp only [Act.put,List.setIfInBounds_toArray,List.set_cons_zero,List.set_cons_succ,i64_w,i32_w]
            rfl
           refine pz8 7 ?_;refine pz4 15 ?_;refine pz2 19 ?_;refine done_ (done_of HT_.out (by kernel_rfl)) ?_
           try go_wp2
           go_ret
           exact ⟨ff,bs HB⟩
        ·intro c19b0 H
         revert H;refine id2k ?_ ?_
         ·intro c51 c51b0 H;have c51b1:decide (l1_1.length<t69.size)=true:=decide_eq_true (Int.ofNat_lt.mp c51);clear c51;obtain rfl:=si H;have hcz52:=cf2 BK67
          go_wp2
          go_ret
          exact ⟨ff,bs HB⟩
         ·intro c51 c51b0 H;have c51b1:decide (l1_1.length<t69.size)=false:=decide_eq_false (fun h=>c51 (Int.ofNat_lt.mpr h));clear c51;obtain rfl:=si H;have hcz53:=cf2 BK67
          go_wp2
          go_ret
          exact ⟨ff,bs HB⟩
 ·intro c4 H
  exact absurd H (by simp)
def impl_TableCheck.T10:Bool × List (List Nat × List Nat):=(true,[([],[]),([],[]),([1],[1]),([0,2],[0,2]),([3],[3]),([4],[4]),([4],[4]),([6,4],[4,6]),([5,7,4],[4,5,7]),([4,8],[4,8]),([9,4],[9]),([10],[10]),([10],[10]),([11,12,10],[10,11,12]),([13,10],[10,13]),([14,10],[10,14]),([10],[10]),([16,10],[10,16]),([15,17,10],[10,15,17]),([10,18],[10,18])])
def impl_TableCheck.B10:List Nat:=[0,0,2,7,15,31,31,95,255,511,1023,2047,2047,8191,16383,32767,2047,67583,262143,524287]
theorem impl_TableCheck.tab10:rtab .any (opsOf Tryz.f39 10)=impl_TableCheck.T10:=by kernel_rfl
theorem impl_TableCheck.bits10:waitsOk impl_TableCheck.T10.2 impl_TableCheck.B10=true:=by kernel_rfl
def impl_TableCheck.T12:Bool × List (List Nat × List Nat):=(true,[([],[]),([0],[0]),([],[]),([],[]),([2,3],[2,3]),([4],[4]),([1,5],[1,5]),([6,6,0,1,2,3,4,5,6],[6])])
def impl_TableCheck.B12:List Nat:=[0,1,0,0,12,28,63,127]
theorem impl_TableCheck.tab12:rtab .any (opsOf Tryz.f39 12)=impl_TableCheck.T12:=by kernel_rfl
theorem impl_TableCheck.bits12:waitsOk impl_TableCheck.T12.2 impl_TableCheck.B12=true:=by kernel_rfl
theorem impl_TableCheck.calls (k:Nat) (a0:Int) (A1:Option Addr) (c1:Nat) (l1:List (S46)) (r1:Int) (r2:Int) (r3:Int) (w:World) (hr1:Kd.C k46 w A1 l1.length l1) (hc1:l1.length≤c1) (hTC:TbC w) (hTP:TbP w) (H:impl_TableCheck.f k a0 l1=some (r1,r2,r3)) :
  Calls Tryz.prog 39 #[.int .i64 a0,.slice A1 l1.length c1] w fun e w'=>e=.returned (.agg #[.int .i64 r1,.int .i64 r2,.int .i64 r3])∧Below w.heap.size w w':=by
 have HTC:=am hTC;clear hTC;have HTP:=am hTP;clear hTP
 have hu67:=Tryz.underlying67;have hu87:=Tryz.underlying87;have hu46:=Tryz.underlying46;have HR1:=am hr1;have HC1:=am hc1;clear hr1 hc1;have HB:=am (Below.refl w.heap.size w);unfold impl_TableCheck.f at H;replace H:=bo H;obtain ⟨t71,A3,H⟩:=H
 go_in
 try go_wp2_with (first|((with_reducible refine gate_dst (N:=4) rfl ?_);(try (refine gate_guard (by rfl) ?_;dsimp only));refine bz 4 (cs:=#[.int .i64 0,.int .i64 0,.int .i64 0]) (t:=67) HB ?_;clear HB;intro gb56 hg w4 BK56 GW56 hb HB;clear hb hg))
 go_at_call 61;(with_reducible refine (impl_Segment.calls _ _ l1 t71 _ (Kd.C_below HR1.out (bs HB)) HC1.out A3.out).mono ?_);rintro e w' ⟨rfl,⟨nd,rfl⟩⟩
 obtain rfl|rfl:=bt t71
 ·replace H:=itT H;replace H:=sj3 H;obtain ⟨rfl,rfl,rfl⟩:=H;have hcz6:=cf3 BK56
  go_wp2
  refine bodyPost_ret (results_cell_row rfl _ _ gb56 67 #[.int .i64 0,.int .i64 0,.int .i64 2] (0,0) _ rfl (kp BK56) Tryz.underlying67 rfl (by kernel_rfl)) rfl ?_
  exact ⟨ff,bs HB⟩
 ·replace H:=itF H;replace H:=bo H;obtain ⟨t72,A7,H⟩:=H
  try go_wp2_with (fail)
  go_at_call 38;(with_reducible refine (impl_within.calls a0 1 7 t72 _ A7.out).mono ?_);rintro e w' ⟨rfl,⟨nd,rfl⟩⟩
  obtain rfl|rfl:=bt t72
  ·replace H:=itT H;replace H:=bo H;obtain ⟨t59,A9,H⟩:=H;have H':=am H;clear H
   go_wp2_with (first|((first|((with_reducible refine gate_callee (f:=62) rfl ?_);refine goesL_ (some 21) rfl rfl Tryz.func62 (by kernel_rfl) rfl #[.int .i64 a0] rfl (by (try simp only [List.map_toArray,List.map_cons,List.map_nil]);first|done|rfl|(simp only [List.length_drop,List.length_take];rfl)) ?_;(with_reducible refine (impl_tableOf.calls k a0 t59 _ A9.out).mono ?_);rintro e w10 ⟨v74,rfl,ho0,hb⟩;refine ⟨_,rfl,?_⟩)|(go_at_call 62;(with_reducible refine (impl_tableOf.calls k a0 t59 _ A9.out).mono ?_);rintro e w10 ⟨v74,rfl,ho0,hb⟩));have HO73:=am (Kd.R_lower ho0 (below_size (bs HB)));replace BK56:=bb BK56 hb;replace HB:=bq HB hb;(try clear hb);(try clear hb2);(try clear hk);(try clear hi);(try clear ho0);obtain ⟨Ao11,co11,eo11⟩:=Kd.R_slice HO73.out;subst eo11))
   go_loopg [5,6,23] k (fun kq v5 v6 v23 w'=>∃ (x5_1:Int) (x6_1:ByteArray) (x23_1:Int) (x66_1:Int) (x68_1:Int) (x69_1:Int),v5=.int .i64 x5_1∧v6=.string x6_1∧v23=.int .i64 x23_1∧Aside0 (impl_TableCheck.l0 kq l1 x5_1 x6_1 t59 (t59.length:Int) x23_1=some (r1,r2,r3))∧Aside0 (kq≤k)∧Aside0 (Kd.R k87 87 w' w.heap.size (fun _=>True) (.slice Ao11 t59.length co11) t59)∧Aside0 (w'.heap[gb56]? = some (.cells #[.int .i64 x66_1,.int .i64 x68_1,.int .i64 x69_1] 67 (0,0)))∧Aside0 (Below w.heap.size w w'))
   case atStart=>exact ⟨(0),((⟨#[]⟩:ByteArray)),(0),(0),(0),(0),fg,fg,fg,H',⟨Nat.le_refl _⟩,⟨rz HO73.out⟩,⟨ks BK56⟩,⟨bs HB⟩⟩
   case round =>
    clear H'
    try clear c1
    try clear BK56
    obtain ⟨x5_1,x6_1,x23_1,x66_1,x68_1,x69_1,rfl,rfl,rfl,HA,HK1,HO_21,BK56,HB⟩:=hrel
    cases gk with
    | zero=>exact absurd HA.out (by simp [impl_TableCheck.l0])
    | succ k1 =>
     have H:=HA.out;clear HA;simp only [impl_TableCheck.l0] at H
     revert H;refine id2 ?_ ?_
     ·intro c12b0 H
      revert H;refine id1 ?_
      intro c13b0 H
      revert H;refine id1 ?_
      intro c14b0 H;have H':=am H;clear H;have p65:0≤(x23_1:Int):=oa;have q65:x23_1<(t59.length:Int):=oa;obtain ⟨ad65,e65,hx65_0,hx65_1,hx65_2,hx65_3⟩:=at_T87 (Kd.R_reads' HO_21.out).2.2 x23_1 p65 q65
      cases e65
      replace p65:=eq_true p65;replace q65:=eq_true q65
      go_wp2_with (first|((with_reducible refine gate_dst (N:=8) rfl ?_);(try (refine gate_guard (by rfl) ?_;dsimp only));refine bx 8 (cs:=#[.string (⟨#[]⟩:ByteArray),.int .i64 0,.int .i64 0,.string (⟨#[]⟩:ByteArray)]) (t:=87) ?_;intro gb57 hg w15 hbox hb;replace HO_21:=am (Kd.R_below (Kd.R_elderB (rs HO_21) gb57 (Nat.le_of_eq hg.symm)) hb);have BK57:=am (hbox);have GW57:=gw hg HB;replace HB:=bq HB hb;have NB56_57:=na hg BK56;have NB57_56:=nc hg BK56;replace BK56:=bb BK56 hb;clear hb hbox hg;have hnb16:=NB57_56.out;have hnc16:=NB56_57.out;have hcz17:=cf4 BK57))
      go_loopg [5,9] k1 (fun kq v5 v9 w'=>∃ (x5_2:Int) (x9_2:Int) (x66_2:Int) (x68_2:Int) (x69_2:Int),v5=.int .i64 x5_2∧v9=.int .i64 x9_2∧Aside0 (impl_TableCheck.l1 kq l1 x5_2 x9_2 t59 (t59.length:Int) x23_1 ((rd_T87 t59 x23_1).f0) ((rd_T87 t59 x23_1).f1) ((rd_T87 t59 x23_1).f2) ((rd_T87 t59 x23_1).f3)=some (r1,r2,r3))∧Aside0 (kq≤k1)∧Aside0 (Kd.R k87 87 w' w.heap.size (fun k_=>k_≠gb57) (.slice (some ad65) t59.length co11) t59)∧Aside0 (w'.heap[gb56]? = some (.cells #[.int .i64 x66_2,.int .i64 x68_2,.int .i64 x69_2] 67 (0,0)))∧Aside0 (w'.heap[gb57]? = some (.cells #[.string ((rd_T87 t59 x23_1).f0),.int .i64 ((rd_T87 t59 x23_1).f1),.int .i64 ((rd_T87 t59 x23_1).f2),.string ((rd_T87 t59 x23_1).f3)] 87 (0,0)))∧Aside0 (Below w.heap.size w w'))
      case atStart=>exact ⟨(x5_1),(0),(x66_1),(x68_1),(x69_1),fg,fg,H',⟨Nat.le_refl _⟩,⟨Kd.R_mono (rf (Kd.R_mono HO_21.out (fun k_ hk=>(⟨hk,hk.2⟩:_∧k_≠gb57)))) (fun _ hk=>hk.1.2)⟩,⟨ks BK56⟩,⟨kp BK57⟩,⟨bs HB⟩⟩
      case round =>
       clear H'
       try clear c1
       try clear c12b0
       try clear c13b0
       try clear c14b0
       try clear hcz17
       try clear hx65_0
       try clear hx65_1
       try clear hx65_2
       try clear hx65_3
       try clear p65
       try clear q65
       try clear BK56
       try clear BK57
       obtain ⟨x5_2,x9_2,x66_2,x68_2,x69_2,rfl,rfl,HA,HK2,HO_21,BK56,BK57,HB⟩:=hrel
       cases gk with
       | zero=>exact absurd HA.out (by simp [impl_TableCheck.l1])
       | succ k2 =>
        have H:=HA.out;clear HA;simp only [impl_TableCheck.l1] at H;have HC18:=am H;clear H
        go_upto_region 10 with (fail)
        go_cut [46] (fun v46 wc=>∃ (kq:Nat) (x46_17:Bool),v46=.bool x46_17∧Aside0 (impl_TableCheck.j2 kq l1 x5_2 x9_2 t59 (t59.length:Int) x23_1 x46_17 ((rd_T87 t59 x23_1).f0) ((rd_T87 t59 x23_1).f1) ((rd_T87 t59 x23_1).f2) ((rd_T87 t59 x23_1).f3)=some (r1,r2,r3))∧Aside0 (kq≤k2)∧Aside0 (Kd.R k87 87 wc w.heap.size (fun k_=>k_≠gb57) (.slice (some ad65) t59.length co11) t59)∧Aside0 (wc.heap[gb56]? = some (.cells #[.int .i64 x66_2,.int .i64 x68_2,.int .i64 x69_2] 67 (0,0)))∧Aside0 (wc.heap[gb57]? = some (.cells #[.string ((rd_T87 t59 x23_1).f0),.int .i64 ((rd_T87 t59 x23_1).f1),.int .i64 ((rd_T87 t59 x23_1).f2),.string ((rd_T87 t59 x23_1).f3)] 87 (0,0)))∧Aside0 (Below w.heap.size w wc))
        case first =>
         have H:=HC18.out;clear HC18
         revert H;refine id2 ?_ ?_
         ·intro c19b0 H
          (first|rw [c19b0]|(simp only [i64_w,i32_w];rw [c19b0])|skip)
          revert H;refine id2 ?_ ?_
          ·intro c20b0 H
           revert H;refine id1 ?_
           intro c21b0 H;have H':=am H;clear H
           try go_wp2
           replace HO_21:=am (Kd.R_drew HO_21.out);replace BK56:=am (blk_drew BK56.out);replace BK57:=am (blk_drew BK57.out);replace HB:=am (below_drew1 HB.out);have p60:0≤(x5_2:Int):=oa;have q60:x5_2<(l1.length:Int):=oa;obtain ⟨ad60,A60_1,c60_1,e60,hx60_0,hx60_1,hl60_1,hi60_1⟩:=at_T46 HR1.out x5_2 p60 q60;have hw60_1:=hx60_1;have hw60_0:=hx60_0
           cases e60
           replace hx60_0:=cb HB hx60_0;replace hx60_1:=cb HB hx60_1;have HR60_1:=am hi60_1;have HC60_1:=am hl60_1;clear hi60_1 hl60_1;replace p60:=eq_true p60;replace q60:=eq_true q60;refine sta 20 (hb4a BK57 (hca (cb HB hw60_0) (hc (cb HB hw60_1)))) (fun hHeld=>?_);refine with_tabW impl_TableCheck.tab10 impl_TableCheck.bits10 (fun HT_ HW_=>?_)
           generalize wr.drew=w22 at HO_21 BK56 BK57 HB HR60_1 hx60_0 hx60_1 hHeld ⊢
           refine pz2 0 ?_;refine ta 2 ?_;refine pz8 3 ?_;refine pz4 11 ?_;refine pz1 16 ?_;refine ta 15 ?_;refine ta 17 ?_;refine pz2 18 ?_;refine done_ (done_of HT_.out (by kernel_rfl)) ?_
           try go_wp2
           go_meet
           case rel=>exact ⟨_,((((rd_T46 l1 x5_2).f0).toList == ((rd_T87 t59 x23_1).f0).toList)),fg,H',⟨by have:=HK1.out;have:=HK2.out;first|omega|exact Nat.le_refl _⟩,⟨rz HO_21.out⟩,⟨ks BK56⟩,⟨ks BK57⟩,⟨bs HB⟩⟩
          ·intro c20b0 H;have H':=am H;clear H
           try go_wp2
           replace HO_21:=am (Kd.R_drew HO_21.out);replace BK56:=am (blk_drew BK56.out);replace BK57:=am (blk_drew BK57.out);replace HB:=am (below_drew1 HB.out);refine sta 20 (hb4 BK57) (fun hHeld=>?_);refine with_tabW impl_TableCheck.tab10 impl_TableCheck.bits10 (fun HT_ HW_=>?_)
           generalize wr.drew=w23 at HO_21 BK56 BK57 HB hHeld ⊢
           refine pz2 0 ?_;refine ta 2 ?_;refine pz8 3 ?_;refine pz8 11 ?_;refine pz1 19 ?_;refine done_ (done_of HT_.out (by kernel_rfl)) ?_
           try go_wp2
           go_meet
           case rel=>exact ⟨_,(false),fg,H',⟨by have:=HK1.out;have:=HK2.out;first|omega|exact Nat.le_refl _⟩,⟨rz HO_21.out⟩,⟨ks BK56⟩,⟨ks BK57⟩,⟨bs HB⟩⟩
         ·intro c19b0 H
          (first|rw [c19b0]|(simp only [i64_w,i32_w];rw [c19b0])|skip)
          have H':=am H;clear H
          try go_wp2
          replace HO_21:=am (Kd.R_drew HO_21.out);replace BK56:=am (blk_drew BK56.out);replace BK57:=am (blk_drew BK57.out);replace HB:=am (below_drew1 HB.out);refine sta 20 (hb4 BK57) (fun hHeld=>?_);refine with_tabW impl_TableCheck.tab10 impl_TableCheck.bits10 (fun HT_ HW_=>?_)
          generalize wr.drew=w24 at HO_21 BK56 BK57 HB hHeld ⊢
          refine pz2 0 ?_;refine ta 2 ?_;refine pz8 3 ?_;refine pz8 11 ?_;refine pz1 19 ?_;refine done_ (done_of HT_.out (by kernel_rfl)) ?_
          try go_wp2
          go_meet
          case rel=>exact ⟨_,(false),fg,H',⟨by have:=HK1.out;have:=HK2.out;first|omega|exact Nat.le_refl _⟩,⟨rz HO_21.out⟩,⟨ks BK56⟩,⟨ks BK57⟩,⟨bs HB⟩⟩
        case rest =>
         clear HC18
         try clear c1
         try clear c12b0
         try clear c13b0
         try clear c14b0
         try clear hcz17
         try clear hx65_0
         try clear hx65_1
         try clear hx65_2
         try clear hx65_3
         try clear p65
         try clear q65
         obtain ⟨kq,x46_17,rfl,HA,HJ17,HO_21,BK56,BK57,HB⟩:=hcut
         cases kq with
         | zero=>exact absurd HA.out (by simp [impl_TableCheck.j2])
         | succ kj17 =>
          have H:=HA.out;clear HA;simp only [impl_TableCheck.j2] at H
          obtain rfl|rfl:=bt x46_17
          ·replace H:=itT H
           revert H;refine id1 ?_
           intro c26b0 H
           revert H;refine id1 ?_
           intro c27b0 H;replace H:=bo H;obtain ⟨t70,A28,H⟩:=H
           revert H;refine ip2 ?_ ?_
           ·intro c29 H;have c29b0:decide (0≤t70)=true:=decide_eq_true c29;clear c29;replace H:=sj3 H;obtain ⟨rfl,rfl,rfl⟩:=H
            try go_wp2
            replace HO_21:=am (Kd.R_drew HO_21.out);replace BK56:=am (blk_drew BK56.out);replace BK57:=am (blk_drew BK57.out);replace HB:=am (below_drew1 HB.out);have p25:0≤(x5_2:Int):=oa;have q25:x5_2<(l1.length:Int):=oa;obtain ⟨ad25,A25_1,c25_1,e25,hx25_0,hx25_1,hl25_1,hi25_1⟩:=at_T46 HR1.out x5_2 p25 q25;have hw25_1:=hx25_1;have hw25_0:=hx25_0
            cases e25
            replace hx25_0:=cb HB hx25_0;replace hx25_1:=cb HB hx25_1;have HR25_1:=am hi25_1;have HC25_1:=am hl25_1;clear hi25_1 hl25_1;replace p25:=eq_true p25;replace q25:=eq_true q25;refine sta 8 (hb4a BK57 (hca (cb HB hw25_0) (hc (cb HB hw25_1)))) (fun hHeld=>?_);refine with_tabW impl_TableCheck.tab12 impl_TableCheck.bits12 (fun HT_ HW_=>?_)
            generalize wc.drew=w30 at HO_21 BK56 BK57 HB HR25_1 hx25_0 hx25_1 hHeld ⊢
            refine pz1 0 ?_;refine pz3 2 ?_;refine ta 1 ?_;refine ta 5 ?_;refine oA 6 55 HT_ (fun K hK=>?_);refine gA Tryz.func63 #[.string ((rd_T87 t59 x23_1).f3),.agg #[.string ((rd_T46 l1 x5_2).f0),.slice A25_1 ((rd_T46 l1 x5_2).f1).length c25_1]] ?_;(with_reducible refine (impl_FormRight.calls kj17 ((rd_T87 t59 x23_1).f3) ((rd_T46 l1 x5_2).f0) _ _ ((rd_T46 l1 x5_2).f1) t70 _ ?side1 ?side2 (tbC HTC (bs HB)) (tbP HTP (bs HB)) A28.out).mono ?_)
            (case side1=>exact sd (Kd.C_below HR25_1.out HB.out))
            (case side2=>exact HC25_1.out)
            rintro e w31 ⟨rfl,hb⟩;refine ⟨_,rfl,?_⟩;replace HO_21:=am (Kd.R_below (rs HO_21) hb);replace BK56:=bb BK56 hb;replace BK57:=bb BK57 hb;replace HB:=bq HB hb;(try clear hb);(try clear hb2);(try clear hk);(try clear hi);refine hK.out _ _ (hb4a BK57 (hca (cb HB hw25_0) (hc (cb HB hw25_1)))).out (fun hHeld=>?_);clear hK K;refine nA 55 ?_;refine pz1 7 ?_;refine done_ (done_of HT_.out (by kernel_rfl)) ?_;have hnb32:=NB56_57.out;have hnc32:=NB57_56.out;have hcz33:=cf3 BK56
            try go_wp2
            refine bodyPost_ret (results_cell_row rfl _ _ gb56 67 #[.int .i64 x5_2,.int .i64 t70,.int .i64 3] (0,0) _ rfl (kp BK56) Tryz.underlying67 rfl (by kernel_rfl)) rfl ?_
            exact ⟨ff,bs HB⟩
           ·intro c29 H;have c29b0:decide (0≤t70)=false:=decide_eq_false c29;clear c29;have H':=am H;clear H
            try go_wp2
            replace HO_21:=am (Kd.R_drew HO_21.out);replace BK56:=am (blk_drew BK56.out);replace BK57:=am (blk_drew BK57.out);replace HB:=am (below_drew1 HB.out);have p25:0≤(x5_2:Int):=oa;have q25:x5_2<(l1.length:Int):=oa;obtain ⟨ad25,A25_1,c25_1,e25,hx25_0,hx25_1,hl25_1,hi25_1⟩:=at_T46 HR1.out x5_2 p25 q25;have hw25_1:=hx25_1;have hw25_0:=hx25_0
            cases e25
            replace hx25_0:=cb HB hx25_0;replace hx25_1:=cb HB hx25_1;have HR25_1:=am hi25_1;have HC25_1:=am hl25_1;clear hi25_1 hl25_1;replace p25:=eq_true p25;replace q25:=eq_true q25;refine sta 8 (hb4a BK57 (hca (cb HB hw25_0) (hc (cb HB hw25_1)))) (fun hHeld=>?_);refine with_tabW impl_TableCheck.tab12 impl_TableCheck.bits12 (fun HT_ HW_=>?_)
            generalize wc.drew=w34 at HO_21 BK56 BK57 HB HR25_1 hx25_0 hx25_1 hHeld ⊢
            refine pz1 0 ?_;refine pz3 2 ?_;refine ta 1 ?_;refine ta 5 ?_;refine oA 6 55 HT_ (fun K hK=>?_);refine gA Tryz.func63 #[.string ((rd_T87 t59 x23_1).f3),.agg #[.string ((rd_T46 l1 x5_2).f0),.slice A25_1 ((rd_T46 l1 x5_2).f1).length c25_1]] ?_;(with_reducible refine (impl_FormRight.calls kj17 ((rd_T87 t59 x23_1).f3) ((rd_T46 l1 x5_2).f0) _ _ ((rd_T46 l1 x5_2).f1) t70 _ ?side1 ?side2 (tbC HTC (bs HB)) (tbP HTP (bs HB)) A28.out).mono ?_)
            (case side1=>exact sd (Kd.C_below HR25_1.out HB.out))
            (case side2=>exact HC25_1.out)
            rintro e w35 ⟨rfl,hb⟩;refine ⟨_,rfl,?_⟩;replace HO_21:=am (Kd.R_below (rs HO_21) hb);replace BK56:=bb BK56 hb;replace BK57:=bb BK57 hb;replace HB:=bq HB hb;(try clear hb);(try clear hb2);(try clear hk);(try clear hi);refine hK.out _ _ (hb4a BK57 (hca (cb HB hw25_0) (hc (cb HB hw25_1)))).out (fun hHeld=>?_);clear hK K;refine nA 55 ?_;refine pz1 7 ?_;refine done_ (done_of HT_.out (by kernel_rfl)) ?_
            try go_wp2
            go_roundg kj17
            case measure=>have:=HK1.out;have:=HK2.out;have:=HJ17.out;omega
            case rel=>exact ⟨(wrap64 (x5_2+1)),(wrap64 (x9_2+1)),(x66_2),(x68_2),(x69_2),fg,fg,H',⟨by have:=HK1.out;have:=HK2.out;have:=HJ17.out;omega⟩,⟨rz HO_21.out⟩,⟨ks BK56⟩,⟨ks BK57⟩,⟨bs HB⟩⟩
          ·replace H:=itF H
           revert H;refine id2 ?_ ?_
           ·intro c36b0 H;replace H:=sj3 H;obtain ⟨rfl,rfl,rfl⟩:=H;have hnb37:=NB57_56.out;have hnc37:=NB56_57.out;have hcz38:=cf4 BK57;have hcz39:=cf3 BK56
            go_wp2
            refine bodyPost_ret (results_cell_row rfl _ _ gb56 67 #[.int .i64 x5_2,.int .i64 0,.int .i64 4] (0,0) _ rfl (kp BK56) Tryz.underlying67 rfl (by kernel_rfl)) rfl ?_
            exact ⟨ff,bs HB⟩
           ·intro c36b0 H;have H':=am H;clear H;have hnb40:=NB57_56.out;have hnc40:=NB56_57.out;have hcz41:=cf4 BK57
            go_wp2
            go_roundg kj17
            case measure=>have:=HK1.out;have:=HK2.out;have:=HJ17.out;omega
            case rel=>exact ⟨(x5_2),(((rd_T87 t59 x23_1).f0)),(wrap64 (x23_1+1)),(x66_2),(x68_2),(x69_2),fg,fg,fg,H',⟨by have:=HK1.out;have:=HK2.out;have:=HJ17.out;omega⟩,⟨by (with_reducible repeat (first|apply Kd.R_alloc|apply Kd.R_drewN|apply Kd.R_drew));exact Kd.R_mono HO_21.out (fun _ hk=>trivial)⟩,⟨ks BK56⟩,⟨bs HB⟩⟩
     ·intro c12b0 H
      revert H;refine ie2 ?_ ?_
      ·intro c42b0 c42b1 H;replace H:=sj3 H;obtain ⟨rfl,rfl,rfl⟩:=H;have hcz43:=cf3 BK56
       go_wp2
       refine bodyPost_ret (results_cell_row rfl _ _ gb56 67 #[.int .i64 0,.int .i64 0,.int .i64 0] (0,0) _ rfl (kp BK56) Tryz.underlying67 rfl (by kernel_rfl)) rfl ?_
       exact ⟨ff,bs HB⟩
      ·intro c42 c42b0 c42b1 H
       revert H;refine id1 ?_
       intro c44b0 H
       revert H;refine id1 ?_
       intro c45b0 H
       revert H;refine ie2 ?_ ?_
       ·intro c46b0 c46b1 H;replace H:=sj3 H;obtain ⟨rfl,rfl,rfl⟩:=H;have p58:0≤(x5_1:Int):=oa;have q58:x5_1<(l1.length:Int):=oa;obtain ⟨ad58,A58_1,c58_1,e58,hx58_0,hx58_1,hl58_1,hi58_1⟩:=at_T46 HR1.out x5_1 p58 q58
        cases e58
        replace hx58_0:=cb HB hx58_0;replace hx58_1:=cb HB hx58_1;have HR58_1:=am hi58_1;have HC58_1:=am hl58_1;clear hi58_1 hl58_1;replace p58:=eq_true p58;replace q58:=eq_true q58;have hcz47:=cf3 BK56
        go_wp2
        refine bodyPost_ret (results_cell_row rfl _ _ gb56 67 #[.int .i64 x5_1,.int .i64 0,.int .i64 7] (0,0) _ rfl (kp BK56) Tryz.underlying67 rfl (by kernel_rfl)) rfl ?_
        exact ⟨ff,bs HB⟩
       ·intro c46 c46b0 c46b1 H;replace H:=sj3 H;obtain ⟨rfl,rfl,rfl⟩:=H;have p58:0≤(x5_1:Int):=oa;have q58:x5_1<(l1.length:Int):=oa;obtain ⟨ad58,A58_1,c58_1,e58,hx58_0,hx58_1,hl58_1,hi58_1⟩:=at_T46 HR1.out x5_1 p58 q58
        cases e58
        replace hx58_0:=cb HB hx58_0;replace hx58_1:=cb HB hx58_1;have HR58_1:=am hi58_1;have HC58_1:=am hl58_1;clear hi58_1 hl58_1;replace p58:=eq_true p58;replace q58:=eq_true q58;have hcz48:=cf3 BK56
        go_wp2
        refine bodyPost_ret (results_cell_row rfl _ _ gb56 67 #[.int .i64 x5_1,.int .i64 0,.int .i64 3] (0,0) _ rfl (kp BK56) Tryz.underlying67 rfl (by kernel_rfl)) rfl ?_
        exact ⟨ff,bs HB⟩
  ·replace H:=itF H;replace H:=sj3 H;obtain ⟨rfl,rfl,rfl⟩:=H;have hcz49:=cf3 BK56
   go_wp2
   refine bodyPost_ret (results_cell_row rfl _ _ gb56 67 #[.int .i64 0,.int .i64 0,.int .i64 1] (0,0) _ rfl (kp BK56) Tryz.underlying67 rfl (by kernel_rfl)) rfl ?_
   exact ⟨ff,bs HB⟩
theorem impl_lineOf.calls (k:Nat) (a0:Int) (a1:ByteArray) (A1:Option Addr) (c1:Nat) (l1:List (S77)) (r1:Int) (r2:ByteArray) (r3 r4:Int) (r5:ByteArray) (w:World) (hr1:Kd.C k77 w A1 l1.length l1) (hc1:l1.length≤c1) (hTP:TbP w) (h:impl_lineOf.f k a0 a1 l1=some (r1,r2,r3,r4,r5)) :
  Calls Tryz.prog 67 #[.int .i64 a0,.agg #[.string a1,.slice A1 l1.length c1]] w fun e w'=>e=.returned (.agg #[.int .i64 r1,.string r2,.int .i64 r3,.int .i64 r4,.string r5])∧Below w.heap.size w w':=by
 have HTP:=am hTP;clear hTP;have hu:=Tryz.underlying63;have hu9:=Tryz.underlying9;have husg:=Tryz.underlying46;have huel:=Tryz.underlying77;have HB:=am (Below.refl w.heap.size w);have HR1:=am hr1;have HC1:=am hc1;clear hr1 hc1;obtain ⟨s,D1,H⟩:=Option.bind_eq_some_iff.mp (show (impl_fields.f k a0).bind (fun s=>impl_lineOf.l0 k l1 s.data.toList 0 0 (⟨#[]⟩:ByteArray) 0 0 (⟨#[]⟩:ByteArray))=some (r1,r2,r3,r4,r5) from h);clear h;replace D1:=am D1;replace H:=am H
 go_in
 go_wp2_with (first|((with_reducible refine gate_dst (N:=3) rfl ?_);refine bx 3 (cs:=#[.string a1,.slice A1 l1.length c1]) (t:=46) ?_;intro gb hg w3 hbox hb;have BK:=am (hbox);have GE:=am ((gs hg (bs HB)));replace HB:=bq HB hb;clear hb hbox hg)|((with_reducible refine gate_dst (N:=4) rfl ?_);refine bx 4 (cs:=#[.int .i64 0,.string (⟨#[]⟩:ByteArray),.int .i64 0,.int .i64 0,.string (⟨#[]⟩:ByteArray)]) (t:=63) ?_;intro gr hg w4 hbox hb;have BR:=am (hbox);have GR:=am ((gs hg (bs HB)));replace HB:=bq HB hb;have N1:=am ((gn hg (ks BK)));have N1':=am ((gm hg (ks BK)));replace BK:=am (blk_below (ks BK) hb);clear hb hbox hg)|((with_reducible refine gate_dst (N:=5) rfl ?_);refine bx 5 (cs:=#[.int .i64 0,.string (⟨#[]⟩:ByteArray),.int .i64 0,.int .i64 0,.string (⟨#[]⟩:ByteArray)]) (t:=63) ?_;intro gl hg w5 hbox hb;have BL:=am (hbox);have GL:=am ((gs hg (bs HB)));replace HB:=bq HB hb;have N2:=am ((gn hg (ks BK)));have N2':=am ((gm hg (ks BK)));have N3:=am ((gn hg (ks BR)));have N3':=am ((gm hg (ks BR)));replace BK:=am (blk_below (ks BK) hb);replace BR:=am (blk_below (ks BR) hb);clear hb hbox hg;have hcz:=cf5 BL)|(go_at_call 73;(with_reducible refine (impl_fields.calls k a0 s _ D1.out).mono ?_);rintro e w' ⟨rfl,⟨nd,rfl⟩⟩))
 clear hcz;generalize hW:((((w5.setCell ⟨gl,0,none⟩ (.int .i64 0)).setCell ⟨gl,1,none⟩ (.string (⟨#[]⟩:ByteArray))).setCell ⟨gl,2,none⟩ (.int .i64 0)).setCell ⟨gl,3,none⟩ (.int .i64 0)).setCell ⟨gl,4,none⟩ (.string (⟨#[]⟩:ByteArray))=W0
 have hsz:W0.heap.size=w5.heap.size:=by rw [← hW];simp
 replace HB:=am (show Below w.heap.size w W0 by rw [← hW];exact bs HB);replace BL:=am (show W0.heap[gl]? = some (.cells #[.int .i64 0,.string (⟨#[]⟩:ByteArray),.int .i64 0,.int .i64 0,.string (⟨#[]⟩:ByteArray)] 63 (0,0)) by rw [← hW];exact kp BL);replace BR:=am (show W0.heap[gr]? = some (.cells #[.int .i64 0,.string (⟨#[]⟩:ByteArray),.int .i64 0,.int .i64 0,.string (⟨#[]⟩:ByteArray)] 63 (0,0)) by rw [← hW];exact ks BR);replace BK:=am (show W0.heap[gb]? = some (.cells #[.string a1,.slice A1 l1.length c1] 46 (0,0)) by rw [← hW];exact ks BK);clear hW
 have hit:((W0.drewN nd).iter s 0).heap[w5.heap.size]? = some (.stringIter s 0):=by rw [← hsz];exact World.iter_heap (W0.drewN nd) s 0
 have hge:w.heap.size≤w5.heap.size:=by rw [← hsz];exact HB.out.size
 replace BL:=am (show ((W0.drewN nd).iter s 0).heap[gl]? = _ from blk_alloc (blk_drewN BL.out _) _);replace BR:=am (show ((W0.drewN nd).iter s 0).heap[gr]? = _ from blk_alloc (blk_drewN BR.out _) _);replace BK:=am (show ((W0.drewN nd).iter s 0).heap[gb]? = _ from blk_alloc (blk_drewN BK.out _) _);replace HB:=am (show Below w.heap.size w ((W0.drewN nd).iter s 0) from by show Below w.heap.size w ((W0.drewN nd).alloc (.stringIter s 0));exact bs HB)
 generalize (W0.drewN nd).iter s 0=W at hit BL BR BK HB ⊢
 generalize w5.heap.size=kb at hit hge ⊢
 clear hsz
 go_loopg [] s.size (fun gk wx=>∃ (p:Nat) (f0:Int) (f1:ByteArray) (f2 f3:Int) (f4:ByteArray),Aside0 (impl_lineOf.l0 k l1 (s.data.toList.drop p) p f0 f1 f2 f3 f4=some (r1,r2,r3,r4,r5))∧Aside0 (s.size≤p+gk)∧Aside0 (wx.heap[kb]? = some (.stringIter s p))∧Aside0 (wx.heap[gb]? = some (.cells #[.string a1,.slice A1 l1.length c1] 46 (0,0)))∧Aside0 (wx.heap[gr]? = some (.cells #[.int .i64 0,.string (⟨#[]⟩:ByteArray),.int .i64 0,.int .i64 0,.string (⟨#[]⟩:ByteArray)] 63 (0,0)))∧Aside0 (wx.heap[gl]? = some (.cells #[.int .i64 f0,.string f1,.int .i64 f2,.int .i64 f3,.string f4] 63 (0,0)))∧Aside0 (Below w.heap.size w wx))
 case atStart=>exact ⟨0,_,_,_,_,_,H,⟨by omega⟩,⟨hit⟩,BK,BR,BL,HB⟩
 case round =>
  clear H BL BR BK HB hit;obtain ⟨p,f0,f1,f2,f3,f4,H,HG,hit,BK,BR,BL,HB⟩:=hrel
  cases hd:s.data.toList.drop p with
  | nil =>
   have hp:¬ p<s.size:=by have:=congrArg List.length hd;rw [List.length_drop,List.length_nil,show s.data.toList.length=s.size from rfl] at this;omega
   replace H:=H.out;rw [hd] at H;replace H:=sj5 H;obtain ⟨rfl,rfl,rfl,rfl,rfl⟩:=H
   have hnx:∀ ty,(Instr.next (.pointer (some ⟨kb,0,none⟩)) true ty).run Tryz.prog wr=_:=fun ty=>Lib.run_next_end_at wr kb s p ty hit.out hp
   have hcl:=cf5 BL;have hcr:=cf5 BR;have hne:=N3.out;have hne':=N3'.out
   go_wp2
   refine bodyPost_ret (results_cell_row rfl _ _ gr 63 #[.int .i64 f0,.string f1,.int .i64 f2,.int .i64 f3,.string f4] (0,0) _ rfl (kp BR) Tryz.underlying63 rfl (by kernel_rfl)) rfl ?_
   exact ⟨ff,bs HB⟩
  | cons c cs =>
   obtain ⟨hp,hc,hdr⟩:=impl_lineParts_drop hd;replace H:=H.out;rw [hd] at H;clear hd
   unfold impl_lineOf.l0 at H
   have HU:∀ z:Nat,c.toNat=z→z<128→∀ ty,(Instr.next (.pointer (some ⟨kb,0,none⟩)) true ty).run Tryz.prog wr=.ok (.tuple #[.bool true,.int .i64 p,.int .i32 z]) (wr.iterAt kb s (p+1)):=by
    intro z hz hlt ty;have e:=decode_ascii s p hp (by rw [hc];omega)
    rw [hc,hz] at e
    have:=Lib.run_next_any_at (P:=Tryz.prog) wr kb s p ty hit.out hp
    rw [e] at this
    exact this
   have hit2:=Lib.iterAt_heap wr kb s p (p+1) hit.out;have BK2:=am (show (wr.iterAt kb s (p+1)).heap[gb]? = _ from (Lib.iterAt_other wr kb gb s (p+1) (impl_lineParts_ne hit.out BK.out)).trans BK.out);have BL2:=am (show (wr.iterAt kb s (p+1)).heap[gl]? = _ from (Lib.iterAt_other wr kb gl s (p+1) (impl_lineParts_ne hit.out BL.out)).trans BL.out);have BR2:=am (show (wr.iterAt kb s (p+1)).heap[gr]? = _ from (Lib.iterAt_other wr kb gr s (p+1) (impl_lineParts_ne hit.out BR.out)).trans BR.out);have KN:=am (impl_lineParts_ne hit.out BL.out).symm;replace HB:=am (Lib.below_iterAt HB.out (k:=kb) hge s (p+1));clear hit BK BL BR hc
   generalize wr.iterAt kb s (p+1)=W1 at HU hit2 BK2 BL2 BR2 HB
   replace hit2:=am hit2;replace hdr:=am hdr;obtain ⟨g1,rfl⟩:∃ g1,gk=g1+1:=⟨gk - 1,by have:=HG.out;omega⟩
   revert H;refine ip1 ?_
   intro hlt H;have hs63:l1.length≤9223372036854775807:=HR1.out.2.1
   revert H;refine ip2 ?_ ?_
   ·intro c1 H;replace H:=sj5 H;obtain ⟨rfl,rfl,rfl,rfl,rfl⟩:=H;have b1:((p:Int) == (l1.length:Int))=true:=beq_iff_eq.mpr (by omega);have hnx:=HU _ rfl hlt;have hcl:=cf5 BL2;have hcr:=cf5 BR2;have hcb:=cf2 BK2;have hne:=N3.out;have hne':=N3'.out;clear HU
    go_wp2
    refine bodyPost_ret (results_cell_row rfl _ _ gr 63 #[.int .i64 f0,.string f1,.int .i64 f2,.int .i64 f3,.string f4] (0,0) _ rfl (kp BR2) Tryz.underlying63 rfl (by kernel_rfl)) rfl ?_
    exact ⟨ff,bs HB⟩
   ·intro c1 H;have b1:((p:Int) == (l1.length:Int))=false:=beq_eq_false_iff_ne.mpr (by omega)
    revert H;refine ip1 ?_
    intro hpl H
    revert H;refine ip1 ?_
    intro hpp H;obtain ⟨ad,Ae,ce,e1,hx,hl,hi⟩:=at_T77 HR1.out (p:Int) (by omega) hpl
    cases e1
    obtain ⟨ad2,e2,hy⟩:=Kd.at_string hi 0 (by omega) hpp
    cases e2
    replace hx:=cb HB hx;replace hy:=cb HB hy
    (try simp only [Int.toNat_zero,Nat.zero_mul,Addr.add_zero'] at hy)
    (try simp only [Int.toNat_natCast] at hx)
    have p1:(0≤(p:Int))=True:=eq_true (by omega);have p2:((p:Int)<(l1.length:Int))=True:=eq_true hpl;have p3:((0:Int)<(((rd_T77 l1 p).f0).length:Int))=True:=eq_true hpp;have p4:(0<((rd_T77 l1 p).f0).length)=True:=eq_true (by omega);clear hl hi;have hcb:=cf2 BK2;have hcl:=cf5 BL2
    revert H;refine ip2 ?_ ?_
    ·intro c77 H;have hnx:=HU 77 (by rw [c77];rfl) (by omega);clear HU;replace H:=bo H;obtain ⟨⟨v1,v2⟩,A2,H⟩:=H
     dsimp only at H
     have H':=am H;clear H c77
     go_wp2_with (first|(go_at_call 74;(with_reducible refine (impl_isText.calls _ false _ rfl).mono ?_);rintro e w' ⟨rfl,⟨nd2,rfl⟩⟩;replace hit2:=am (show (W1.drewN nd2).heap[kb]? = _ from hit2.out);replace BK2:=am (blk_drewN BK2.out nd2);replace BR2:=am (blk_drewN BR2.out nd2);replace BL2:=am (blk_drewN BL2.out nd2);replace HB:=am (pw_below_drewN HB.out nd2))|(go_at_call 66;(with_reducible refine (impl_numberIn.calls k (rdOf ByteArray.empty ((rd_T77 l1 p).f0) 0) (-1000000) 1000000000 v1 v2 _ (tbP HTP HB.out) A2.out).mono ?_);rintro e w8 ⟨rfl,hb⟩;replace hit2:=am (impl_lineParts_it hit2.out hb);replace BK2:=bb BK2 hb;replace BR2:=am (blk_below (ks BR2) hb);replace BL2:=am (blk_below (ks BL2) hb);replace HB:=am (below_step HB.out hb);clear hb;have hcl:=cf5 BL2)|(go_at_call 76;refine (impl_lineParts_number gl _ _).mono ?_;rintro e w' ⟨rfl,rfl⟩))
     go_roundg g1
     case measure=>omega
     case rel=>exact ⟨p+1,f0,f1,f2,v1,f4,by rw [hdr.out];exact H',⟨by have:=HG.out;omega⟩,⟨(Below.heap_setCell _ _ _ _ KN.out).trans hit2.out⟩,⟨ks BK2⟩,⟨ks BR2⟩,⟨kp BL2⟩,⟨bs HB⟩⟩
    ·intro c77 H
     revert H;refine ip2 ?_ ?_
     ·intro c84 H;have hnx:=HU 84 (by rw [c84];rfl) (by omega);clear HU;have H':=am H;clear H c77 c84
      go_wp2_with (first|(go_at_call 74;(with_reducible refine (impl_isText.calls _ true _ rfl).mono ?_);rintro e w' ⟨rfl,⟨nd2,rfl⟩⟩;replace hit2:=am (show (W1.drewN nd2).heap[kb]? = _ from hit2.out);replace BK2:=am (blk_drewN BK2.out nd2);replace BR2:=am (blk_drewN BR2.out nd2);replace BL2:=am (blk_drewN BL2.out nd2);replace HB:=am (pw_below_drewN HB.out nd2))|(go_at_call 75;refine (impl_lineParts_text gl _ _).mono ?_;rintro e w' ⟨rfl,rfl⟩))
      go_roundg g1
      case measure=>omega
      case rel=>exact ⟨p+1,f0,f1,f2,f3,(rdOf ByteArray.empty ((rd_T77 l1 p).f0) 0),by rw [hdr.out];exact H',⟨by have:=HG.out;omega⟩,⟨(Below.heap_setCell _ _ _ _ KN.out).trans hit2.out⟩,⟨ks BK2⟩,⟨ks BR2⟩,⟨kp BL2⟩,⟨bs HB⟩⟩
     ·intro c84 H
      revert H;refine ip2 ?_ ?_
      ·intro c73 H;have hnx:=HU 73 (by rw [c73];rfl) (by omega);clear HU;have H':=am H;clear H c77 c84 c73
       go_wp2_with (first|(go_at_call 74;(with_reducible refine (impl_isText.calls _ true _ rfl).mono ?_);rintro e w' ⟨rfl,⟨nd2,rfl⟩⟩;replace hit2:=am (show (W1.drewN nd2).heap[kb]? = _ from hit2.out);replace BK2:=am (blk_drewN BK2.out nd2);replace BR2:=am (blk_drewN BR2.out nd2);replace BL2:=am (blk_drewN BL2.out nd2);replace HB:=am (pw_below_drewN HB.out nd2))|(go_at_call 75;refine (impl_lineParts_text gl _ _).mono ?_;rintro e w' ⟨rfl,rfl⟩))
       go_roundg g1
       case measure=>omega
       case rel=>exact ⟨p+1,f0,(rdOf ByteArray.empty ((rd_T77 l1 p).f0) 0),f2,f3,f4,by rw [hdr.out];exact H',⟨by have:=HG.out;omega⟩,⟨(Below.heap_setCell _ _ _ _ KN.out).trans hit2.out⟩,⟨ks BK2⟩,⟨ks BR2⟩,⟨kp BL2⟩,⟨bs HB⟩⟩
      ·intro c73 H
       revert H;refine ip2 ?_ ?_
       ·intro c78 H;have hnx:=HU 78 (by rw [c78];rfl) (by omega);clear HU;replace H:=bo H;obtain ⟨⟨v1,v2⟩,A2,H⟩:=H
        dsimp only at H
        have H':=am H;clear H c77 c84 c73 c78
        go_wp2_with (first|(go_at_call 74;(with_reducible refine (impl_isText.calls _ false _ rfl).mono ?_);rintro e w' ⟨rfl,⟨nd2,rfl⟩⟩;replace hit2:=am (show (W1.drewN nd2).heap[kb]? = _ from hit2.out);replace BK2:=am (blk_drewN BK2.out nd2);replace BR2:=am (blk_drewN BR2.out nd2);replace BL2:=am (blk_drewN BL2.out nd2);replace HB:=am (pw_below_drewN HB.out nd2))|(go_at_call 66;(with_reducible refine (impl_numberIn.calls k (rdOf ByteArray.empty ((rd_T77 l1 p).f0) 0) (-1000000) 1000000000 v1 v2 _ (tbP HTP HB.out) A2.out).mono ?_);rintro e w8 ⟨rfl,hb⟩;replace hit2:=am (impl_lineParts_it hit2.out hb);replace BK2:=bb BK2 hb;replace BR2:=am (blk_below (ks BR2) hb);replace BL2:=am (blk_below (ks BL2) hb);replace HB:=am (below_step HB.out hb);clear hb;have hcl:=cf5 BL2)|(go_at_call 76;refine (impl_lineParts_number gl _ _).mono ?_;rintro e w' ⟨rfl,rfl⟩))
        go_roundg g1
        case measure=>omega
        case rel=>exact ⟨p+1,v1,f1,f2,f3,f4,by rw [hdr.out];exact H',⟨by have:=HG.out;omega⟩,⟨(Below.heap_setCell _ _ _ _ KN.out).trans hit2.out⟩,⟨ks BK2⟩,⟨ks BR2⟩,⟨kp BL2⟩,⟨bs HB⟩⟩
       ·intro c78 H
        revert H;refine ip2 ?_ ?_
        ·intro c81 H;have hnx:=HU 81 (by rw [c81];rfl) (by omega);clear HU;replace H:=bo H;obtain ⟨⟨v1,v2⟩,A2,H⟩:=H
         dsimp only at H
         have H':=am H;clear H c77 c84 c73 c78 c81
         go_wp2_with (first|(go_at_call 74;(with_reducible refine (impl_isText.calls _ false _ rfl).mono ?_);rintro e w' ⟨rfl,⟨nd2,rfl⟩⟩;replace hit2:=am (show (W1.drewN nd2).heap[kb]? = _ from hit2.out);replace BK2:=am (blk_drewN BK2.out nd2);replace BR2:=am (blk_drewN BR2.out nd2);replace BL2:=am (blk_drewN BL2.out nd2);replace HB:=am (pw_below_drewN HB.out nd2))|(go_at_call 66;(with_reducible refine (impl_numberIn.calls k (rdOf ByteArray.empty ((rd_T77 l1 p).f0) 0) (-1000000) 1000000000 v1 v2 _ (tbP HTP HB.out) A2.out).mono ?_);rintro e w8 ⟨rfl,hb⟩;replace hit2:=am (impl_lineParts_it hit2.out hb);replace BK2:=bb BK2 hb;replace BR2:=am (blk_below (ks BR2) hb);replace BL2:=am (blk_below (ks BL2) hb);replace HB:=am (below_step HB.out hb);clear hb;have hcl:=cf5 BL2)|(go_at_call 76;refine (impl_lineParts_number gl _ _).mono ?_;rintro e w' ⟨rfl,rfl⟩))
         go_roundg g1
         case measure=>omega
         case rel=>exact ⟨p+1,f0,f1,v1,f3,f4,by rw [hdr.out];exact H',⟨by have:=HG.out;omega⟩,⟨(Below.heap_setCell _ _ _ _ KN.out).trans hit2.out⟩,⟨ks BK2⟩,⟨ks BR2⟩,⟨kp BL2⟩,⟨bs HB⟩⟩
        ·intro c81 H
         cases H
end Go.Proofs.YtaememmnhmebcaaGreatDoor.QB
