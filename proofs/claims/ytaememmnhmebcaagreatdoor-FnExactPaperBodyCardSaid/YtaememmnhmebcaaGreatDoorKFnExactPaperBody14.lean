-- Merged by a program of this session (wip/tool/pack.py) out of its own texts for this claim.
import Derived.Test.YtaememmnhmebcaaGreatDoorKFnExactPaperBody13
set_option maxHeartbeats 8000000
set_option maxRecDepth 100000
set_option linter.unusedSimpArgs false
set_option linter.unusedVariables false
namespace Go.Proofs.YtaememmnhmebcaaGreatDoor.QB
open Go.RowKit Go.Proofs.YtaememmnhmebcaaGreatDoorW.PrintWords Go.Proofs.YtaememmnhmebcaaGreatDoorW.PrintLast Go.Proofs.YtaememmnhmebcaaGreatDoorW.PrintMore
attribute [local go_sem] max2_int min2_int max_two min_two max_three min_three max_four min_four   -- for this text's walks alone
def impl_bodyOf.T13:Bool × List (List Nat × List Nat):=(true,[([],[]),([],[]),([1],[1]),([2],[2]),([],[]),([4],[4]),([],[]),([5,6,3],[5,6]),([3,7,7],[3,7]),([8],[8]),([0,9,8],[0,9]),([10,10,0,1,2,3,4,5,6,7,8,9,10],[0,10])])
def impl_bodyOf.B13:List Nat:=[0,0,2,6,0,16,0,126,254,510,1023,2047]
theorem impl_bodyOf.tab13:rtab .any (opsOf Tryz.f20 13)=impl_bodyOf.T13:=by kernel_rfl
theorem impl_bodyOf.bits13:waitsOk impl_bodyOf.T13.2 impl_bodyOf.B13=true:=by kernel_rfl
theorem impl_bodyOf.callsS (k:Nat) (a0_0:Int) (a0_1:ByteArray) (a0_2:ByteArray) (a0_3:Int) (A0_4:Option Addr) (c0_4:Nat) (l0_4:List ByteArray) (A0_5:Option Addr) (c0_5:Nat) (l0_5:List (S63)) (r:List (S46)) (w:World) (hr0_4:Kd.C Kd.string w A0_4 l0_4.length l0_4) (hc0_4:l0_4.length≤c0_4) (hr0_5:Kd.C k63 w A0_5 l0_5.length l0_5) (hc0_5:l0_5.length≤c0_5) (hTF:TbF w) (H:impl_bodyOf.f k a0_0 a0_1 a0_2 a0_3 l0_4 l0_5=some r) :
  Calls Tryz.prog 20 #[.agg #[.int .i64 a0_0,.string a0_1,.string a0_2,.int .i64 a0_3,.slice A0_4 l0_4.length c0_4,.slice A0_5 l0_5.length c0_5]] w fun e w'=>∃ v0_:Value,e=.returned (v0_)∧Kd.S kA46 46 w' w.heap.size (fun k_=>(w.heap.size≤k_)) v0_ r∧Below w.heap.size w w':=by
 have HTF:=Aside0.mk hTF;clear hTF
 have hu31:=Tryz.underlying31;have hu63:=Tryz.underlying63;have HR0_4:=Aside0.mk hr0_4;have HC0_4:=Aside0.mk hc0_4;clear hr0_4 hc0_4;have HR0_5:=Aside0.mk hr0_5;have HC0_5:=Aside0.mk hc0_5;clear hr0_5 hc0_5;have HB:=Aside0.mk (Below.refl w.heap.size w);unfold impl_bodyOf.f at H;obtain ⟨y515,hy515⟩:∃ y_:List ByteArray,y_=(([a0_1]:List ByteArray)):=⟨_,rfl⟩
 replace H:((impl_hasTwo.f a0_0).bind fun t518=>(if t518=true then (if y515.length<8796093022208 then (impl_bodyOf.j0 k (y515++[a0_2]) a0_0 a0_1 a0_2 a0_3 l0_4 l0_5) else (none)) else (impl_bodyOf.j0 k y515 a0_0 a0_1 a0_2 a0_3 l0_4 l0_5)))=some r:=ye hy515 H
 have Ny515:=Aside0.mk hy515;clear hy515;replace H:=bo H;obtain ⟨t518,A2,H⟩:=H
 go_in
 try go_wp2_with (first|((with_reducible refine gate_dst (N:=1) rfl ?_);refine bx 1 (cs:=#[.int .i64 a0_0,.string a0_1,.string a0_2,.int .i64 a0_3,.slice A0_4 l0_4.length c0_4,.slice A0_5 l0_5.length c0_5]) (t:=31) ?_;intro gb514 hg w3 hbox hb;have BK514:=Aside0.mk (hbox);have GW514:=Aside0.mk ((gs hg (bs HB)));have GE514:=Aside0.mk ((gs hg (bs HB)));replace HB:=Aside0.mk (below_step (bs HB) hb);clear hb hbox hg;have hcz4_0:w3.cell? ⟨gb514,0,none⟩=some (.int .i64 a0_0):=(blk_cell BK514.out 0).trans rfl;have hcz4_1:w3.cell? ⟨gb514,1,none⟩=some (.string a0_1):=(blk_cell BK514.out 1).trans rfl;have hcz4_2:w3.cell? ⟨gb514,2,none⟩=some (.string a0_2):=(blk_cell BK514.out 2).trans rfl;have hcz4_3:w3.cell? ⟨gb514,3,none⟩=some (.int .i64 a0_3):=(blk_cell BK514.out 3).trans rfl;have hcz4_4:w3.cell? ⟨gb514,4,none⟩=some (.slice A0_4 l0_4.length c0_4):=(blk_cell BK514.out 4).trans rfl;have hcz4_5:w3.cell? ⟨gb514,5,none⟩=some (.slice A0_5 l0_5.length c0_5):=(blk_cell BK514.out 5).trans rfl;have hfz4_0:=blk_frozen BK514.out 0;have hfz4_1:=blk_frozen BK514.out 1;have hfz4_2:=blk_frozen BK514.out 2;have hfz4_3:=blk_frozen BK514.out 3;have hfz4_4:=blk_frozen BK514.out 4;have hfz4_5:=blk_frozen BK514.out 5)|((with_reducible refine gate_dst (N:=11) rfl ?_);refine Kd.R_lit Kd.string _ 9 ?hg (N:=11) ?hd (xs:=([a0_1]:List ByteArray)) (inner:=[.string a0_1]) (ok:=fun _=>True) (okp:=fun _=>True) ?hr ?hp (fun _ hk=>hk) trivial (Below.refl _ _) (Nat.le_refl _) (by simp) ?_;(case hd=>rfl);(case hg=>rfl);(case hr=>first|(go_simp;done)|(go_simp;rfl));(case hp=>exact (Reps.one (show Kd.M Kd.string _ _ _ a0_1 [.string a0_1] from rfl) (Reps.none _ _)));intro v516 w5 ho6 hb hg_ hnew_;clear hg_ hnew_;(first|rw [← Ny515.out] at ho6|(simp only [Int.reduceToNat] at ho6;rw [← Ny515.out] at ho6));have HO517:=Aside0.mk (Kd.R_lower (Kd.R_newM (M:=fun k_=>(w.heap.size≤k_)) ho6 (below_size (bs HB)) (fun k_ h_=>h_)) (below_size (bs HB)));replace BK514:=Aside0.mk (blk_below (ks BK514) hb);replace HB:=Aside0.mk (below_step (bs HB) hb);clear hb ho6;have hcz7:=cf6 BK514))
 go_at_call 43;(with_reducible refine (impl_hasTwo.calls a0_0 t518 _ A2.out).mono ?_);rintro e w' ⟨rfl,⟨nd,rfl⟩⟩;have HC8:=Aside0.mk H;clear H
 go_upto_if 14 with (fail)
 go_cut [3] (fun v3 wc=>∃ (kq:Nat) (x3_7:List ByteArray),Aside0 (impl_bodyOf.j0 kq x3_7 a0_0 a0_1 a0_2 a0_3 l0_4 l0_5=some r)∧Aside0 (kq≤k)∧Aside0 (Kd.R Kd.string 9 wc w.heap.size (fun k_=>(w.heap.size≤k_)) v3 x3_7)∧Aside0 (wc.heap[gb514]? = some (.cells #[.int .i64 a0_0,.string a0_1,.string a0_2,.int .i64 a0_3,(.slice A0_4 l0_4.length c0_4),(.slice A0_5 l0_5.length c0_5)] 31 (0,0)))∧Aside0 (Below w.heap.size w wc))
 case first =>
  have H:=HC8.out;clear HC8
  obtain rfl|rfl:=bt t518
  ·replace H:=itT H
   revert H;refine ip1 ?_
   intro c10 H;have LMc10:=Aside0.mk c10;clear c10;obtain ⟨y519,hy519⟩:∃ y_:List ByteArray,y_=(y515++[a0_2]):=⟨_,rfl⟩
   replace H:(impl_bodyOf.j0 k y519 a0_0 a0_1 a0_2 a0_3 l0_4 l0_5)=some r:=ye hy519 H
   have Ny519:=Aside0.mk hy519;clear hy519;have H':=Aside0.mk H;clear H;have hcz11:=cf6 BK514
   go_wp2_with (first|((with_reducible refine gate_builtin (b:=.append) (xs:=#[.tmp 15,.tmp 18]) rfl ?_);at_builtin;refine Kd.R_append Kd.string (w0:=w) w.heap.size rfl (.tmp 15) (.tmp 18) 22 9 (.string ⟨#[]⟩) 16 rfl Tryz.underlying22 info9 rfl (by decide) (by omega) v516 y515 a0_2 [.string a0_2] (fun k_=>(w.heap.size≤k_)) (fun _=>False) rfl rfl ?aP (fun _ hk=>hk.elim) ?aF ?aO ?aB ?aS ?aL ?_;(case aP=>exact rfl);(case aB=>exact (bs HB));(case aF=>exact (fun k_ hk=>(Nat.le_trans (below_size (bs HB)) hk)));(case aO=>exact (by (with_reducible repeat (first|apply Kd.R_alloc|apply Kd.R_drewN|apply Kd.R_drew));exact Kd.R_mono HO517.out (fun _ hk=>hk.1)));(case aS=>exact (below_size (bs HB)));(case aL=>have:=LMc10.out;omega);intro v520 w12 ho hb hg hat;rw [← Ny519.out] at ho;have n0_:=Aside0.mk (blk_grown (ks BK514) hg (Kd.R_ne HO517.out BK514.out (by decide)));have n1_:=Aside0.mk (hb);have n2_:=Aside0.mk (ho);clear BK514;clear HB;clear HO517;have BK514:=n0_;have HB:=n1_;have HO521:=n2_;clear n0_ n1_ n2_;clear ho hb hg hat))
   go_meet
   case rel=>exact ⟨_,(y519),H',⟨fl⟩,⟨by (with_reducible repeat (first|apply Kd.R_alloc|apply Kd.R_drewN|apply Kd.R_drew));exact HO521.out⟩,⟨ks BK514⟩,⟨bs HB⟩⟩
  ·replace H:=itF H;have H':=Aside0.mk H;clear H
   go_wp2
   go_meet
   case rel=>exact ⟨_,(y515),H',⟨fl⟩,⟨by (with_reducible repeat (first|apply Kd.R_alloc|apply Kd.R_drewN|apply Kd.R_drew));exact Kd.R_mono HO517.out (fun _ hk=>hk.1)⟩,⟨ks BK514⟩,⟨bs HB⟩⟩
 case rest =>
  clear HC8
  try clear hcz7
  obtain ⟨kq,x3_7,HA,HJ7,HO_3,BK514,HB⟩:=hcut
  cases kq with
  | zero=>exact absurd HA.out (by simp [impl_bodyOf.j0])
  | succ kj7 =>
   have H:=HA.out;clear HA;simp only [impl_bodyOf.j0] at H;replace H:=bo H;obtain ⟨t522,A13,H⟩:=H
   revert H;refine ip2 ?_ ?_
   ·intro c14 H;have LMc14:=Aside0.mk c14;clear c14;obtain ⟨y523,hy523⟩:∃ y_:List ByteArray,y_=(x3_7++[t522]):=⟨_,rfl⟩
    replace H:((impl_plain.f kj7 (⟨#[68,79,67]⟩:ByteArray) y523).bind fun bt526=>(impl_bodyOf.l0 kj7 (([(⟨bt526.1,bt526.2⟩:S46)]:List (S46))) l0_4 (l0_4.length:Int) 0 a0_0 a0_1 a0_2 a0_3 l0_4 l0_5))=some r:=ye hy523 H
    have Ny523:=Aside0.mk hy523;clear hy523;replace H:=bo H;obtain ⟨⟨t526,t527⟩,A15,H⟩:=H;(try dsimp only at H);obtain ⟨y530,hy530⟩:∃ y_:List (S46),y_=(([(⟨t526,t527⟩:S46)]:List (S46))):=⟨_,rfl⟩
    replace H:(impl_bodyOf.l0 kj7 y530 l0_4 (l0_4.length:Int) 0 a0_0 a0_1 a0_2 a0_3 l0_4 l0_5)=some r:=ye hy530 H
    have Ny530:=Aside0.mk hy530;clear hy530;have H':=Aside0.mk H;clear H;have hcz16:=cf6 BK514
    go_wp2_with (first|((first|((with_reducible refine gate_callee (f:=45) rfl ?_);refine goesL_ (some 23) rfl rfl Tryz.func45 (by kernel_rfl) rfl #[.int .i64 a0_3] rfl (by (try simp only [List.map_toArray,List.map_cons,List.map_nil]);first|done|rfl|(simp only [List.length_drop,List.length_take];rfl)) ?_;(with_reducible refine (impl_decimal.calls a0_3 t522 _ (tbF HTF (bs HB)) A13.out).mono ?_);rintro e w17 ⟨rfl,hb⟩;refine ⟨_,rfl,?_⟩)|(go_at_call 45;(with_reducible refine (impl_decimal.calls a0_3 t522 _ (tbF HTF (bs HB)) A13.out).mono ?_);rintro e w17 ⟨rfl,hb⟩));replace HO_3:=Aside0.mk (Kd.R_below (rs HO_3) hb);replace BK514:=Aside0.mk (blk_below (ks BK514) hb);replace HB:=Aside0.mk (below_step (bs HB) hb);(try clear hb);(try clear hb2);(try clear hk);(try clear hi))|((with_reducible refine gate_builtin (b:=.append) (xs:=#[.tmp 20,.tmp 24]) rfl ?_);at_builtin;refine Kd.R_append Kd.string (w0:=w) w.heap.size rfl (.tmp 20) (.tmp 24) 22 9 (.string ⟨#[]⟩) 16 rfl Tryz.underlying22 info9 rfl (by decide) (by omega) u3 x3_7 t522 [.string t522] (fun k_=>(w.heap.size≤k_)) (fun _=>False) rfl rfl ?aP (fun _ hk=>hk.elim) ?aF ?aO ?aB ?aS ?aL ?_;(case aP=>exact rfl);(case aB=>exact (bs HB));(case aF=>exact (fun k_ hk=>(Nat.le_trans (below_size (bs HB)) hk)));(case aO=>exact (rs HO_3));(case aS=>exact (below_size (bs HB)));(case aL=>have:=LMc14.out;omega);intro v524 w18 ho hb hg hat;rw [← Ny523.out] at ho;have n0_:=Aside0.mk (blk_grown (ks BK514) hg (Kd.R_ne HO_3.out BK514.out (by decide)));have n1_:=Aside0.mk (hb);have n2_:=Aside0.mk (ho);clear BK514;clear HB;clear HO_3;have BK514:=n0_;have HB:=n1_;have HO525:=n2_;clear n0_ n1_ n2_;clear ho hb hg hat;obtain ⟨Ao19,co19,eo19⟩:=Kd.R_slice HO525.out;subst eo19)|((first|((with_reducible refine gate_callee (f:=44) rfl ?_);refine goesL_ (some 26) rfl rfl Tryz.func44 (by kernel_rfl) rfl #[.string (⟨#[68,79,67]⟩:ByteArray),.slice Ao19 y523.length co19] rfl (by (try simp only [List.map_toArray,List.map_cons,List.map_nil]);first|done|rfl|(simp only [List.length_drop,List.length_take];rfl)) ?_;(with_reducible refine (impl_plain.calls kj7 (⟨#[68,79,67]⟩:ByteArray) _ _ y523 t526 t527 _ ?side1 ?side2 A15.out).mono ?_);(case side1=>repeat (first|exact (Kd.R_reads' HO525.out).2.2|(with_reducible refine Kd.C_alloc ?_ _)|(with_reducible refine Kd.C_drewN ?_ _)|(with_reducible refine Kd.C_drew ?_)));(case side2=>exact (Kd.R_reads' HO525.out).2.1);rintro e w20 ⟨v528,rfl,ho0,hb⟩;refine ⟨_,rfl,?_⟩)|(go_at_call 44;(with_reducible refine (impl_plain.calls kj7 (⟨#[68,79,67]⟩:ByteArray) _ _ y523 t526 t527 _ ?side1 ?side2 A15.out).mono ?_);(case side1=>repeat (first|exact (Kd.R_reads' HO525.out).2.2|(with_reducible refine Kd.C_alloc ?_ _)|(with_reducible refine Kd.C_drewN ?_ _)|(with_reducible refine Kd.C_drew ?_)));(case side2=>exact (Kd.R_reads' HO525.out).2.1);rintro e w20 ⟨v528,rfl,ho0,hb⟩));have HO529:=Aside0.mk (Kd.S_lower (Kd.S_mono (ok':=fun k_=>(w.heap.size≤k_)∧some k_≠(.slice Ao19 y523.length co19:Value).ownBlock∧k_≠gb514) (Kd.S_bound ho0) (fun k_ hk_=>⟨(Nat.le_trans (below_size (bs HB)) hk_.2.1),(Kd.fresh' (Kd.R_lt (rs HO525)) k_ hk_.2.1),(Kd.freshB (g:=gb514) (o:=.cells #[.int .i64 a0_0,.string a0_1,.string a0_2,.int .i64 a0_3,.slice A0_4 l0_4.length c0_4,.slice A0_5 l0_5.length c0_5] 31 (0,0)) (ks BK514) k_ hk_.2.1)⟩)) (below_size (bs HB)));replace HO525:=Aside0.mk (Kd.R_below (rs HO525) hb);replace BK514:=Aside0.mk (blk_below (ks BK514) hb);replace HB:=Aside0.mk (below_step (bs HB) hb);(try clear hb);(try clear hb2);(try clear hk);(try clear hi);(try clear ho0);obtain ⟨Ao21,co21,eo21⟩:=Kd.S_slice HO529.out;subst eo21)|((with_reducible refine gate_dst (N:=27) rfl ?_);refine Kd.S_lits kA46 (w0:=w) w.heap.size 46 ?hg (N:=27) ?hd (xs:=([(⟨t526,t527⟩:S46)]:List (S46))) (inner:=[.string t526,.slice Ao21 t527.length co21]) (ok:=(fun k_=>(w.heap.size≤k_)∧some k_≠(.slice Ao19 y523.length co19:Value).ownBlock∧k_≠gb514)) (fun j_ k_=>j_=0∧(fun k_=>(w.heap.size≤k_)∧some k_≠(.slice Ao19 y523.length co19:Value).ownBlock∧k_≠gb514) k_) ?hr rfl ?hp (fun _ _ _ h1 h2=>h1.1.trans h2.1.symm) (fun _ _ h=>h.2) ((show ∀ k_,w20.heap.size≤k_→(fun k_=>(w.heap.size≤k_)∧some k_≠(.slice Ao19 y523.length co19:Value).ownBlock∧k_≠gb514) k_ from fun k_ hk=>⟨(Nat.le_trans (below_size (bs HB)) hk),Kd.fresh' (Kd.R_lt (rs HO525)) k_ hk,Kd.freshB (g:=gb514) (o:=.cells #[.int .i64 a0_0,.string a0_1,.string a0_2,.int .i64 a0_3,.slice A0_4 l0_4.length c0_4,.slice A0_5 l0_5.length c0_5] 31 (0,0)) (ks BK514) k_ hk⟩) _ (Nat.le_refl _)) (bs HB) (below_size (bs HB)) (by simp) ?_;(case hd=>rfl);(case hg=>rfl);(case hr=>first|(go_simp;done)|(go_simp;rfl));(case hp=>intro j_ x_ hx_;rcases j_ with _|j_;(obtain rfl:=Option.some.inj hx_;exact ⟨_,rfl,Kd.S_mono HO529.out (fun k_ hk=>⟨rfl,⟨hk.1,⟨hk.2.1,hk.2.2⟩⟩⟩)⟩);exact absurd hx_ (by simp));intro v531 w22 ho23 hb hg_ hnew_;clear hnew_;(first|rw [← Ny530.out] at ho23|(simp only [Int.reduceToNat] at ho23;rw [← Ny530.out] at ho23));have n0_:=True.intro;have n1_:=Aside0.mk ho23;have n2_:=Aside0.mk (blk_grown (ks BK514) hg_ (fun e_=>nomatch e_));have n3_:=Aside0.mk hb;clear HO525;clear BK514;clear HB;clear HO529;have HO525:=n0_;have HO532:=n1_;have BK514:=n2_;have HB:=n3_;clear n0_ n1_ n2_ n3_;clear hb ho23 hg_;have hcz24:=cf6 BK514))
    go_loopg [4,31] kj7 (fun kq v4 v31 w'=>∃ (x4_2:List (S46)) (x31_2:Int),v31=.int .i64 x31_2∧Aside0 (impl_bodyOf.l0 kq x4_2 l0_4 (l0_4.length:Int) x31_2 a0_0 a0_1 a0_2 a0_3 l0_4 l0_5=some r)∧Aside0 (kq≤kj7)∧Aside0 (Kd.S kA46 46 w' w.heap.size (fun k_=>(w.heap.size≤k_)∧k_≠gb514) v4 x4_2)∧Aside0 (w'.heap[gb514]? = some (.cells #[.int .i64 a0_0,.string a0_1,.string a0_2,.int .i64 a0_3,(.slice A0_4 l0_4.length c0_4),(.slice A0_5 l0_5.length c0_5)] 31 (0,0)))∧Aside0 (Below w.heap.size w w'))
    case atStart=>exact ⟨(y530),(0),fg,H',⟨Nat.le_refl _⟩,⟨by (with_reducible repeat (first|apply Kd.S_alloc|apply Kd.S_drewN|apply Kd.S_drew));exact Kd.S_mono HO532.out (fun _ hk=>⟨hk.1,hk.2.2⟩)⟩,⟨ks BK514⟩,⟨bs HB⟩⟩
    case round =>
     clear H'
     try clear c2
     try clear c14
     try clear hcz16
     try clear hcz24
     try clear hcz7
     try clear BK514
     obtain ⟨x4_2,x31_2,rfl,HA,HK2,HO_4,BK514,HB⟩:=hrel
     cases gk with
     | zero=>exact absurd HA.out (by simp [impl_bodyOf.l0])
     | succ k2 =>
      have H:=HA.out;clear HA;simp only [impl_bodyOf.l0] at H
      revert H;refine id2 ?_ ?_
      ·intro c25b0 H
       revert H;refine id1 ?_
       intro c26b0 H
       revert H;refine id1 ?_
       intro c27b0 H;obtain ⟨y534,hy534⟩:∃ y_:List ByteArray,y_=(([rdOf ByteArray.empty l0_4 x31_2]:List ByteArray)):=⟨_,rfl⟩
       replace H:((impl_plain.f k2 (⟨#[78,79,84]⟩:ByteArray) y534).bind fun bt537=>(if x4_2.length<3518437208883 then (impl_bodyOf.l0 k2 (x4_2++[(⟨bt537.1,bt537.2⟩:S46)]) l0_4 (l0_4.length:Int) (wrap64 (x31_2+1)) a0_0 a0_1 a0_2 a0_3 l0_4 l0_5) else (none)))=some r:=ye hy534 H
       have Ny534:=Aside0.mk hy534;clear hy534;replace H:=bo H;obtain ⟨⟨t537,t538⟩,A28,H⟩:=H;(try dsimp only at H)
       revert H;refine ip1 ?_
       intro c29 H;have LMc29:=Aside0.mk c29;clear c29;obtain ⟨y541,hy541⟩:∃ y_:List (S46),y_=(x4_2++[(⟨t537,t538⟩:S46)]):=⟨_,rfl⟩
       replace H:(impl_bodyOf.l0 k2 y541 l0_4 (l0_4.length:Int) (wrap64 (x31_2+1)) a0_0 a0_1 a0_2 a0_3 l0_4 l0_5)=some r:=ye hy541 H
       have Ny541:=Aside0.mk hy541;clear hy541;have H':=Aside0.mk H;clear H;have p533:0≤(x31_2:Int):=oa;have q533:x31_2<(l0_4.length:Int):=oa;obtain ⟨ad533,e533,hx533_0⟩:=Kd.at_string HR0_4.out x31_2 p533 q533
       cases e533
       replace hx533_0:=cb HB hx533_0;replace p533:=eq_true p533;replace q533:=eq_true q533
       go_wp2_with (first|((with_reducible refine gate_dst (N:=37) rfl ?_);refine Kd.R_lit Kd.string _ 9 ?hg (N:=37) ?hd (xs:=([rdOf ByteArray.empty l0_4 x31_2]:List ByteArray)) (inner:=[.string (rdOf ByteArray.empty l0_4 x31_2)]) (ok:=fun _=>True) (okp:=fun _=>True) ?hr ?hp (fun _ hk=>hk) trivial (Below.refl _ _) (Nat.le_refl _) (by simp) ?_;(case hd=>rfl);(case hg=>rfl);(case hr=>first|(go_simp;done)|(go_simp;rfl));(case hp=>exact (Reps.one (show Kd.M Kd.string _ _ _ (rdOf ByteArray.empty l0_4 x31_2) [.string (rdOf ByteArray.empty l0_4 x31_2)] from rfl) (Reps.none _ _)));intro v535 w30 ho31 hb hg_ hnew_;clear hg_ hnew_;(first|rw [← Ny534.out] at ho31|(simp only [Int.reduceToNat] at ho31;rw [← Ny534.out] at ho31));have n0_:=Aside0.mk (Kd.S_elder' (by (with_reducible repeat (first|apply Kd.S_alloc|apply Kd.S_drewN|apply Kd.S_drew));exact HO_4.out) (Kd.R_base ho31) hb);have n1_:=Aside0.mk (Kd.R_lower (Kd.R_newM (M:=fun k_=>(w.heap.size≤k_)) ho31 (below_size (bs HB)) (fun k_ h_=>h_)) (below_size (bs HB)));have n2_:=Aside0.mk (blk_below (ks BK514) hb);have n3_:=Aside0.mk (below_step (bs HB) hb);clear HO_4;clear BK514;clear HB;have HO_4:=n0_;have HO536:=n1_;have BK514:=n2_;have HB:=n3_;clear n0_ n1_ n2_ n3_;clear hb ho31;obtain ⟨Ao32,co32,eo32⟩:=Kd.R_slice HO536.out;subst eo32)|((first|((with_reducible refine gate_callee (f:=44) rfl ?_);refine goesL_ (some 38) rfl rfl Tryz.func44 (by kernel_rfl) rfl #[.string (⟨#[78,79,84]⟩:ByteArray),.slice Ao32 y534.length co32] rfl (by (try simp only [List.map_toArray,List.map_cons,List.map_nil]);first|done|rfl|(simp only [List.length_drop,List.length_take];rfl)) ?_;(with_reducible refine (impl_plain.calls k2 (⟨#[78,79,84]⟩:ByteArray) _ _ y534 t537 t538 _ ?side1 ?side2 A28.out).mono ?_);(case side1=>repeat (first|exact (Kd.R_reads' HO536.out).2.2|(with_reducible refine Kd.C_alloc ?_ _)|(with_reducible refine Kd.C_drewN ?_ _)|(with_reducible refine Kd.C_drew ?_)));(case side2=>exact (Kd.R_reads' HO536.out).2.1);rintro e w33 ⟨v539,rfl,ho0,hb⟩;refine ⟨_,rfl,?_⟩)|(go_at_call 44;(with_reducible refine (impl_plain.calls k2 (⟨#[78,79,84]⟩:ByteArray) _ _ y534 t537 t538 _ ?side1 ?side2 A28.out).mono ?_);(case side1=>repeat (first|exact (Kd.R_reads' HO536.out).2.2|(with_reducible refine Kd.C_alloc ?_ _)|(with_reducible refine Kd.C_drewN ?_ _)|(with_reducible refine Kd.C_drew ?_)));(case side2=>exact (Kd.R_reads' HO536.out).2.1);rintro e w33 ⟨v539,rfl,ho0,hb⟩));have n0_:=Aside0.mk (S_eldT (by (with_reducible repeat (first|apply Kd.S_alloc|apply Kd.S_drewN|apply Kd.S_drew));exact HO_4.out) (Kd.S_base ho0) hb);have n1_:=Aside0.mk (Kd.R_below (rs HO536) hb);have n2_:=Aside0.mk (Kd.S_lower (Kd.S_mono (ok':=fun k_=>((w.heap.size≤k_)∧some k_≠(u4:Value).ownBlock∧some k_≠(.slice Ao32 y534.length co32:Value).ownBlock∧k_≠gb514)∧w30.heap.size≤k_) (Kd.S_bound ho0) (fun k_ hk_=>⟨⟨(Nat.le_trans (below_size (bs HB)) hk_.2.1),(Kd.fresh' (Kd.S_lt (by (with_reducible repeat (first|apply Kd.S_alloc|apply Kd.S_drewN|apply Kd.S_drew));exact HO_4.out)) k_ hk_.2.1),(Kd.fresh' (Kd.R_lt (rs HO536)) k_ hk_.2.1),(Kd.freshB (g:=gb514) (o:=.cells #[.int .i64 a0_0,.string a0_1,.string a0_2,.int .i64 a0_3,.slice (some ad533) l0_4.length c0_4,.slice A0_5 l0_5.length c0_5] 31 (0,0)) (ks BK514) k_ hk_.2.1)⟩,hk_.2.1⟩)) (below_size (bs HB)));have n3_:=Aside0.mk (blk_below (ks BK514) hb);have n4_:=Aside0.mk (below_step (bs HB) hb);clear HO_4;clear HO536;clear BK514;clear HB;have HO_4:=n0_;have HO536:=n1_;have HO540:=n2_;have BK514:=n3_;have HB:=n4_;clear n0_ n1_ n2_ n3_ n4_;(try clear hb);(try clear hb2);(try clear hk);(try clear hi);(try clear ho0);obtain ⟨Ao35,co35,eo35⟩:=Kd.S_slice HO540.out;subst eo35)|((with_reducible refine gate_builtin (b:=.append) (xs:=#[.tmp 35,.tmp 39]) rfl ?_);at_builtin;refine Kd.S_append kA46 (w0:=w) w.heap.size rfl (.tmp 35) (.tmp 39) 27 46 (.agg #[(.string ⟨#[]⟩),(.slice none 0 0)]) 40 rfl Tryz.underlying27 info46 rfl (by decide) (by omega) u4 x4_2 (⟨t537,t538⟩:S46) [.string t537,.slice Ao35 t538.length co35] (fun k_=>(w.heap.size≤k_)∧some k_≠(.slice Ao32 y534.length co32:Value).ownBlock∧k_≠gb514) (fun k_=>(fun k_=>((fun k_=>(w.heap.size≤k_)∧some k_≠(.slice Ao32 y534.length co32:Value).ownBlock∧k_≠gb514)) k_∧some k_≠(u4:Value).ownBlock) k_∧w30.heap.size≤k_) rfl rfl ?aP (fun _ hk=>hk.1) ?aF ?aO ?aB ?aS ?aL ?_;(case aP=>exact ⟨_,rfl,Kd.S_mono HO540.out (fun k_ hk=>⟨⟨⟨hk.1.1,⟨hk.1.2.2.1,hk.1.2.2.2⟩⟩,hk.1.2.1⟩,hk.2⟩)⟩);(case aB=>exact (bs HB));(case aF=>exact (fun k_ hk=>⟨(Nat.le_trans (below_size (bs HB)) hk),Kd.fresh' (Kd.R_lt (rs HO536)) k_ hk,Kd.freshB (g:=gb514) (o:=.cells #[.int .i64 a0_0,.string a0_1,.string a0_2,.int .i64 a0_3,.slice (some ad533) l0_4.length c0_4,.slice A0_5 l0_5.length c0_5] 31 (0,0)) (ks BK514) k_ hk⟩));(case aO=>exact (by (with_reducible repeat (first|apply Kd.S_alloc|apply Kd.S_drewN|apply Kd.S_drew));exact Kd.S_mono HO_4.out (fun _ hk=>⟨⟨hk.1.1.1.1,⟨hk.1.1.2,hk.1.1.1.2⟩⟩,fun hT_=>Nat.not_le_of_lt hk.2 hT_.2⟩)));(case aS=>exact (below_size (bs HB)));(case aL=>have:=LMc29.out;omega);intro v542 w34 ho hb hg hat;rw [← Ny541.out] at ho;have n0_:=Aside0.mk (blk_grown (ks BK514) hg (Kd.S_ne HO_4.out BK514.out (by decide)));have n1_:=Aside0.mk (Kd.R_over' (rs HO536) (Kd.S_typed (by (with_reducible repeat (first|apply Kd.S_alloc|apply Kd.S_drewN|apply Kd.S_drew));exact HO_4.out)) (by decide) hg);have n2_:=Aside0.mk (hb);have n3_:=Aside0.mk (ho);clear BK514;clear HO536;clear HB;clear HO_4;clear HO540;have BK514:=n0_;have HO536:=n1_;have HB:=n2_;have HO543:=n3_;clear n0_ n1_ n2_ n3_;clear ho hb hg hat))
       go_roundg k2
       case measure=>have:=HJ7.out;have:=HK2.out;omega
       case rel=>exact ⟨(y541),(wrap64 (x31_2+1)),fg,H',⟨by have:=HJ7.out;have:=HK2.out;omega⟩,⟨by (with_reducible repeat (first|apply Kd.S_alloc|apply Kd.S_drewN|apply Kd.S_drew));exact Kd.S_mono HO543.out (fun _ hk=>⟨hk.1,hk.2.2⟩)⟩,⟨ks BK514⟩,⟨bs HB⟩⟩
      ·intro c25b0 H;have H':=Aside0.mk H;clear H;have hcz36:=cf6 BK514
       go_wp2
       go_loopg [4,45] k2 (fun kq v4 v45 w'=>∃ (x4_3:List (S46)) (x45_3:Int),v45=.int .i64 x45_3∧Aside0 (impl_bodyOf.l1 kq x4_3 l0_5 (l0_5.length:Int) x45_3 a0_0 a0_1 a0_2 a0_3 l0_4 l0_5=some r)∧Aside0 (kq≤k2)∧Aside0 (Kd.S kA46 46 w' w.heap.size (fun k_=>(w.heap.size≤k_)∧k_≠gb514) v4 x4_3)∧Aside0 (w'.heap[gb514]? = some (.cells #[.int .i64 a0_0,.string a0_1,.string a0_2,.int .i64 a0_3,(.slice A0_4 l0_4.length c0_4),(.slice A0_5 l0_5.length c0_5)] 31 (0,0)))∧Aside0 (Below w.heap.size w w'))
       case atStart=>exact ⟨(x4_2),(0),fg,H',⟨Nat.le_refl _⟩,⟨by (with_reducible repeat (first|apply Kd.S_alloc|apply Kd.S_drewN|apply Kd.S_drew));exact HO_4.out⟩,⟨ks BK514⟩,⟨bs HB⟩⟩
       case round =>
        clear H'
        try clear c2
        try clear c14
        try clear c25b0
        try clear hcz16
        try clear hcz24
        try clear hcz36
        try clear hcz7
        try clear BK514
        obtain ⟨x4_3,x45_3,rfl,HA,HK3,HO_4,BK514,HB⟩:=hrel
        cases gk with
        | zero=>exact absurd HA.out (by simp [impl_bodyOf.l1])
        | succ k3 =>
         have H:=HA.out;clear HA;simp only [impl_bodyOf.l1] at H
         revert H;refine id2 ?_ ?_
         ·intro c37b0 H
          revert H;refine id1 ?_
          intro c38b0 H
          revert H;refine id1 ?_
          intro c39b0 H;replace H:=bo H;obtain ⟨t546,A40,H⟩:=H;replace H:=bo H;obtain ⟨t547,A41,H⟩:=H;replace H:=bo H;obtain ⟨⟨t550,t551⟩,A42,H⟩:=H;(try dsimp only at H)
          revert H;refine ip1 ?_
          intro c43 H;have LMc43:=Aside0.mk c43;clear c43;obtain ⟨y554,hy554⟩:∃ y_:List (S46),y_=(x4_3++[(⟨t550,t551⟩:S46)]):=⟨_,rfl⟩
          replace H:(impl_bodyOf.l1 k3 y554 l0_5 (l0_5.length:Int) (wrap64 (x45_3+1)) a0_0 a0_1 a0_2 a0_3 l0_4 l0_5)=some r:=ye hy554 H
          have Ny554:=Aside0.mk hy554;clear hy554;have H':=Aside0.mk H;clear H;have p544:0≤(x45_3:Int):=oa;have q544:x45_3<(l0_5.length:Int):=oa;obtain ⟨ad544,e544,hx544_0,hx544_1,hx544_2,hx544_3,hx544_4⟩:=at_T63 HR0_5.out x45_3 p544 q544
          cases e544
          replace hx544_0:=cb HB hx544_0;replace hx544_1:=cb HB hx544_1;replace hx544_2:=cb HB hx544_2;replace hx544_3:=cb HB hx544_3;replace hx544_4:=cb HB hx544_4;replace p544:=eq_true p544;replace q544:=eq_true q544
          try go_wp2_with (first|((with_reducible refine gate_dst (N:=8) rfl ?_);refine bx 8 (cs:=#[.int .i64 0,.string (⟨#[]⟩:ByteArray),.int .i64 0,.int .i64 0,.string (⟨#[]⟩:ByteArray)]) (t:=63) ?_;intro gb545 hg w44 hbox hb;have n0_:=Aside0.mk (Kd.S_below (Kd.S_elderB (by (with_reducible repeat (first|apply Kd.S_alloc|apply Kd.S_drewN|apply Kd.S_drew));exact HO_4.out) gb545 (Nat.le_of_eq hg.symm)) hb);have n1_:=Aside0.mk (blk_below (ks BK514) hb);have n2_:=Aside0.mk (below_step (bs HB) hb);have n3_:=Aside0.mk (hbox);have n4_:=Aside0.mk ((gs hg (bs HB)));have n5_:=Aside0.mk ((gs hg (bs HB)));have n6_:=Aside0.mk ((gn hg (ks BK514)));have n7_:=Aside0.mk ((gm hg (ks BK514)));clear HO_4;clear BK514;clear HB;have HO_4:=n0_;have BK514:=n1_;have HB:=n2_;have BK545:=n3_;have GW545:=n4_;have GE545:=n5_;have NB514_545:=n6_;have NB545_514:=n7_;clear n0_ n1_ n2_ n3_ n4_ n5_ n6_ n7_;clear hb hbox hg;have hnb45:=NB545_514.out;have hnc45:=NB514_545.out;have hcz46:=cf5 BK545))
          have n0_:Aside0 (Kd.S kA46 46 (((((w44.setCell ⟨gb545,0,none⟩ (.int .i64 ((rd_T63 l0_5 x45_3).f0))).setCell ⟨gb545,1,none⟩ (.string ((rd_T63 l0_5 x45_3).f1))).setCell ⟨gb545,2,none⟩ (.int .i64 ((rd_T63 l0_5 x45_3).f2))).setCell ⟨gb545,3,none⟩ (.int .i64 ((rd_T63 l0_5 x45_3).f3))).setCell ⟨gb545,4,none⟩ (.string ((rd_T63 l0_5 x45_3).f4))) w.heap.size (fun k_=>(w.heap.size≤k_)∧k_≠gb514∧k_≠gb545) u4 x4_3):=⟨by (with_reducible repeat (first|apply Kd.S_alloc|apply Kd.S_drewN|apply Kd.S_drew));exact Kd.S_mono (Kd.S_far (p:=⟨gb545,4,none⟩) (Kd.S_far (p:=⟨gb545,3,none⟩) (Kd.S_far (p:=⟨gb545,2,none⟩) (Kd.S_far (p:=⟨gb545,1,none⟩) (Kd.S_far (p:=⟨gb545,0,none⟩) (Kd.S_mono HO_4.out (fun k_ hk=>(⟨hk,hk.2⟩:_∧k_≠gb545))) (fun _ hk=>hk.2) (.int .i64 ((rd_T63 l0_5 x45_3).f0))) (fun _ hk=>hk.2) (.string ((rd_T63 l0_5 x45_3).f1))) (fun _ hk=>hk.2) (.int .i64 ((rd_T63 l0_5 x45_3).f2))) (fun _ hk=>hk.2) (.int .i64 ((rd_T63 l0_5 x45_3).f3))) (fun _ hk=>hk.2) (.string ((rd_T63 l0_5 x45_3).f4))) (fun _ hk=>⟨hk.1.1.1,⟨hk.1.1.2,hk.1.2⟩⟩)⟩;have n1_:=kz (((((w44.setCell ⟨gb545,0,none⟩ (.int .i64 ((rd_T63 l0_5 x45_3).f0))).setCell ⟨gb545,1,none⟩ (.string ((rd_T63 l0_5 x45_3).f1))).setCell ⟨gb545,2,none⟩ (.int .i64 ((rd_T63 l0_5 x45_3).f2))).setCell ⟨gb545,3,none⟩ (.int .i64 ((rd_T63 l0_5 x45_3).f3))).setCell ⟨gb545,4,none⟩ (.string ((rd_T63 l0_5 x45_3).f4))) BK514;have n2_:Aside0 ((((((w44.setCell ⟨gb545,0,none⟩ (.int .i64 ((rd_T63 l0_5 x45_3).f0))).setCell ⟨gb545,1,none⟩ (.string ((rd_T63 l0_5 x45_3).f1))).setCell ⟨gb545,2,none⟩ (.int .i64 ((rd_T63 l0_5 x45_3).f2))).setCell ⟨gb545,3,none⟩ (.int .i64 ((rd_T63 l0_5 x45_3).f3))).setCell ⟨gb545,4,none⟩ (.string ((rd_T63 l0_5 x45_3).f4))).heap[gb545]? = some (.cells #[.int .i64 ((rd_T63 l0_5 x45_3).f0),.string ((rd_T63 l0_5 x45_3).f1),.int .i64 ((rd_T63 l0_5 x45_3).f2),.int .i64 ((rd_T63 l0_5 x45_3).f3),.string ((rd_T63 l0_5 x45_3).f4)] 63 (0,0))):=⟨kp BK545⟩;have n3_:Aside0 (Below w.heap.size w (((((w44.setCell ⟨gb545,0,none⟩ (.int .i64 ((rd_T63 l0_5 x45_3).f0))).setCell ⟨gb545,1,none⟩ (.string ((rd_T63 l0_5 x45_3).f1))).setCell ⟨gb545,2,none⟩ (.int .i64 ((rd_T63 l0_5 x45_3).f2))).setCell ⟨gb545,3,none⟩ (.int .i64 ((rd_T63 l0_5 x45_3).f3))).setCell ⟨gb545,4,none⟩ (.string ((rd_T63 l0_5 x45_3).f4)))):=⟨bs HB⟩;(try clear HO_4);(try clear BK514);(try clear BK545);(try clear HB)
          generalize (((((w44.setCell ⟨gb545,0,none⟩ (.int .i64 ((rd_T63 l0_5 x45_3).f0))).setCell ⟨gb545,1,none⟩ (.string ((rd_T63 l0_5 x45_3).f1))).setCell ⟨gb545,2,none⟩ (.int .i64 ((rd_T63 l0_5 x45_3).f2))).setCell ⟨gb545,3,none⟩ (.int .i64 ((rd_T63 l0_5 x45_3).f3))).setCell ⟨gb545,4,none⟩ (.string ((rd_T63 l0_5 x45_3).f4)))=w47 at n0_ n1_ n2_ n3_ ⊢
          have HO_4:=n0_;have BK514:=n1_;have BK545:=n2_;have HB:=n3_;clear n0_ n1_ n2_ n3_;replace HO_4:=Aside0.mk (Kd.S_drew HO_4.out);replace BK514:=Aside0.mk (blk_drew BK514.out);replace BK545:=Aside0.mk (blk_drew BK545.out);replace HB:=Aside0.mk (below_drew1 HB.out);refine sta 12 (hb6a BK514 (hb5 BK545)) (fun hHeld=>?_);refine with_tabW impl_bodyOf.tab13 impl_bodyOf.bits13 (fun HT_ HW_=>?_)
          generalize w47.drew=w48 at HO_4 BK514 BK545 HB hHeld ⊢
          refine pA 0 49 HT_ ?_;refine pA 1 50 HT_ ?_;refine pA 4 53 HT_ ?_;refine tA 2 51 HT_ HW_ hHeld ?_;refine tA 5 54 HT_ HW_ hHeld ?_;refine tA 6 55 HT_ HW_ hHeld ?_;refine oA 3 52 HT_ (fun K hK=>?_);refine gA Tryz.func46 #[.int .i64 a0_0] ?_;(with_reducible refine (impl_lineTag.calls k3 a0_0 t546 _ A40.out).mono ?_);rintro e w49 ⟨rfl,hb⟩;refine ⟨_,rfl,?_⟩;have n0_:=Aside0.mk (Kd.S_below (by (with_reducible repeat (first|apply Kd.S_alloc|apply Kd.S_drewN|apply Kd.S_drew));exact HO_4.out) hb);have n1_:=Aside0.mk (blk_below (ks BK514) hb);have n2_:=Aside0.mk (blk_below (ks BK545) hb);have n3_:=Aside0.mk (below_step (bs HB) hb);clear HO_4;clear BK514;clear BK545;clear HB;have HO_4:=n0_;have BK514:=n1_;have BK545:=n2_;have HB:=n3_;clear n0_ n1_ n2_ n3_;(try clear hb);(try clear hb2);(try clear hk);(try clear hi);refine hK.out _ _ (hb6a BK514 (hb5 BK545)).out (fun hHeld=>?_);clear hK K;refine nA 52 ?_;refine oA 7 56 HT_ (fun K hK=>?_);refine gA Tryz.func47 #[.int .i64 a0_0,.agg #[.int .i64 ((rd_T63 l0_5 x45_3).f0),.string ((rd_T63 l0_5 x45_3).f1),.int .i64 ((rd_T63 l0_5 x45_3).f2),.int .i64 ((rd_T63 l0_5 x45_3).f3),.string ((rd_T63 l0_5 x45_3).f4)]] ?_;(with_reducible refine (impl_lineParts.calls k3 a0_0 ((rd_T63 l0_5 x45_3).f0) ((rd_T63 l0_5 x45_3).f1) ((rd_T63 l0_5 x45_3).f2) ((rd_T63 l0_5 x45_3).f3) ((rd_T63 l0_5 x45_3).f4) t547 _ (tbF HTF (bs HB)) A41.out).mono ?_);rintro e w50 ⟨v548,rfl,ho0,hb⟩;refine ⟨_,rfl,?_⟩;have n0_:=Aside0.mk (Kd.S_elder' (by (with_reducible repeat (first|apply Kd.S_alloc|apply Kd.S_drewN|apply Kd.S_drew));exact HO_4.out) (Kd.R_base ho0) hb);have n1_:=Aside0.mk (Kd.R_lower (Kd.R_newM (M:=fun k_=>(w.heap.size≤k_)) ho0 (below_size (bs HB)) (fun k_ h_=>h_)) (below_size (bs HB)));have n2_:=Aside0.mk (blk_below (ks BK514) hb);have n3_:=Aside0.mk (blk_below (ks BK545) hb);have n4_:=Aside0.mk (below_step (bs HB) hb);clear HO_4;clear BK514;clear BK545;clear HB;have HO_4:=n0_;have HO549:=n1_;have BK514:=n2_;have BK545:=n3_;have HB:=n4_;clear n0_ n1_ n2_ n3_ n4_;(try clear hb);(try clear hb2);(try clear hk);(try clear hi);(try clear ho0);obtain ⟨Ao51,co51,eo51⟩:=Kd.R_slice HO549.out
          (first|subst eo51|(injection eo51 with f1_ f2_ f3_;have f4_:=f1_.symm;have f5_:=f3_.symm;clear f1_ f2_ f3_;subst f4_;subst f5_))
          refine hK.out _ _ (hb6a BK514 (hb5 BK545)).out (fun hHeld=>?_);clear hK K;refine nA 56 ?_;refine oA 8 57 HT_ (fun K hK=>?_);refine gA Tryz.func44 #[.string t546,.slice Ao51 t547.length co51] ?_;(with_reducible refine (impl_plain.calls k3 t546 _ _ t547 t550 t551 _ ?side1 ?side2 A42.out).mono ?_)
          (case side1=>repeat (first|exact (Kd.R_reads' HO549.out).2.2|(with_reducible refine Kd.C_alloc ?_ _)|(with_reducible refine Kd.C_drewN ?_ _)|(with_reducible refine Kd.C_drew ?_)))
          (case side2=>exact (Kd.R_reads' HO549.out).2.1)
          rintro e w52 ⟨v552,rfl,ho0,hb⟩;refine ⟨_,rfl,?_⟩;have n0_:=Aside0.mk (S_eldT (by (with_reducible repeat (first|apply Kd.S_alloc|apply Kd.S_drewN|apply Kd.S_drew));exact HO_4.out) (Kd.S_base ho0) hb);have n1_:=Aside0.mk (Kd.R_below (rs HO549) hb);have n2_:=Aside0.mk (Kd.S_lower (Kd.S_mono (ok':=fun k_=>((w.heap.size≤k_)∧some k_≠(u4:Value).ownBlock∧some k_≠(.slice Ao51 t547.length co51:Value).ownBlock∧k_≠gb514∧k_≠gb545)∧w50.heap.size≤k_) (Kd.S_bound ho0) (fun k_ hk_=>⟨⟨(Nat.le_trans (below_size (bs HB)) hk_.2.1),(Kd.fresh' (Kd.S_lt (by (with_reducible repeat (first|apply Kd.S_alloc|apply Kd.S_drewN|apply Kd.S_drew));exact HO_4.out)) k_ hk_.2.1),(Kd.fresh' (Kd.R_lt (rs HO549)) k_ hk_.2.1),(Kd.freshB (g:=gb514) (o:=.cells #[.int .i64 a0_0,.string a0_1,.string a0_2,.int .i64 a0_3,.slice A0_4 l0_4.length c0_4,.slice (some ad544) l0_5.length c0_5] 31 (0,0)) (ks BK514) k_ hk_.2.1),(Kd.freshB (g:=gb545) (o:=.cells #[.int .i64 ((rd_T63 l0_5 x45_3).f0),.string ((rd_T63 l0_5 x45_3).f1),.int .i64 ((rd_T63 l0_5 x45_3).f2),.int .i64 ((rd_T63 l0_5 x45_3).f3),.string ((rd_T63 l0_5 x45_3).f4)] 63 (0,0)) (ks BK545) k_ hk_.2.1)⟩,hk_.2.1⟩)) (below_size (bs HB)));have n3_:=Aside0.mk (blk_below (ks BK514) hb);have n4_:=Aside0.mk (blk_below (ks BK545) hb);have n5_:=Aside0.mk (below_step (bs HB) hb);clear HO_4;clear HO549;clear BK514;clear BK545;clear HB;have HO_4:=n0_;have HO549:=n1_;have HO553:=n2_;have BK514:=n3_;have BK545:=n4_;have HB:=n5_;clear n0_ n1_ n2_ n3_ n4_ n5_;(try clear hb);(try clear hb2);(try clear hk);(try clear hi);(try clear ho0);obtain ⟨Ao54,co54,eo54⟩:=Kd.S_slice HO553.out
          (first|subst eo54|(injection eo54 with f1_ f2_ f3_;have f4_:=f1_.symm;have f5_:=f3_.symm;clear f1_ f2_ f3_;subst f4_;subst f5_))
          refine hK.out _ _ (hb6a BK514 (hb5 BK545)).out (fun hHeld=>?_);clear hK K;refine nA 57 ?_;refine oA 9 58 HT_ (fun K hK=>?_);refine value_ (w1:=?_) (v:=?_) (by rfl) rfl ?_ ?_
          rotate_left 2
          ·go_simp
           constructor
           ·rfl
           ·rfl
          refine hK.out _ _ ⟨(blk_cell (blk_alloc BK514.out _) 0).trans rfl,(blk_cell (blk_alloc BK514.out _) 1).trans rfl,(blk_cell (blk_alloc BK514.out _) 2).trans rfl,(blk_cell (blk_alloc BK514.out _) 3).trans rfl,(blk_cell (blk_alloc BK514.out _) 4).trans rfl,(blk_cell (blk_alloc BK514.out _) 5).trans rfl,(blk_cell (blk_alloc BK545.out _) 0).trans rfl,(blk_cell (blk_alloc BK545.out _) 1).trans rfl,(blk_cell (blk_alloc BK545.out _) 2).trans rfl,(blk_cell (blk_alloc BK545.out _) 3).trans rfl,(blk_cell (blk_alloc BK545.out _) 4).trans rfl⟩ (fun hHeld=>?_);clear hK K;refine nA 58 ?_;refine oA 10 59 HT_ (fun K hK=>?_);refine Kd.S_append_step kA46 (w0:=w) w.heap.size (by rfl) (.tmp 49) (.tmp 58) 27 46 (.agg #[(.string ⟨#[]⟩),(.slice none 0 0)]) 40 rfl Tryz.underlying27 info46 rfl (by decide) (by omega) u4 x4_3 (⟨t550,t551⟩:S46) [.string t550,.slice Ao54 t551.length co54] (fun k_=>(w.heap.size≤k_)∧some k_≠(.slice Ao51 t547.length co51:Value).ownBlock∧k_≠gb514∧k_≠gb545) (fun k_=>(fun k_=>((fun k_=>(w.heap.size≤k_)∧some k_≠(.slice Ao51 t547.length co51:Value).ownBlock∧k_≠gb514∧k_≠gb545)) k_∧some k_≠(u4:Value).ownBlock) k_∧w50.heap.size≤k_) rfl rfl ?aP (fun _ hk=>hk.1) ?aF ?aO ?aB ?aS ?aL ?_
          (case aP=>exact ⟨_,rfl,Kd.S_mono HO553.out (fun k_ hk=>⟨⟨⟨hk.1.1,⟨hk.1.2.2.1,⟨hk.1.2.2.2.1,hk.1.2.2.2.2⟩⟩⟩,hk.1.2.1⟩,hk.2⟩)⟩)
          (case aB=>exact (bs HB))
          (case aF=>exact (fun k_ hk=>⟨(Nat.le_trans (below_size (bs HB)) hk),Kd.fresh' (Kd.R_lt (rs HO549)) k_ hk,Kd.freshB (g:=gb514) (o:=.cells #[.int .i64 a0_0,.string a0_1,.string a0_2,.int .i64 a0_3,.slice A0_4 l0_4.length c0_4,.slice (some ad544) l0_5.length c0_5] 31 (0,0)) (ks BK514) k_ hk,Kd.freshB (g:=gb545) (o:=.cells #[.int .i64 ((rd_T63 l0_5 x45_3).f0),.string ((rd_T63 l0_5 x45_3).f1),.int .i64 ((rd_T63 l0_5 x45_3).f2),.int .i64 ((rd_T63 l0_5 x45_3).f3),.string ((rd_T63 l0_5 x45_3).f4)] 63 (0,0)) (ks BK545) k_ hk⟩))
          (case aO=>exact (by (with_reducible repeat (first|apply Kd.S_alloc|apply Kd.S_drewN|apply Kd.S_drew));exact Kd.S_mono HO_4.out (fun _ hk=>⟨⟨hk.1.1.1.1,⟨hk.1.1.2,⟨hk.1.1.1.2.1,hk.1.1.1.2.2⟩⟩⟩,fun hT_=>Nat.not_le_of_lt hk.2 hT_.2⟩)))
          (case aS=>exact (below_size (bs HB)))
          (case aL=>have:=LMc43.out;omega)
          intro v555 w53 ho hb hg hat
          rw [← Ny554.out] at ho
          have n0_:=Aside0.mk (blk_grown (ks BK514) hg (Kd.S_ne HO_4.out BK514.out (by decide)));have n1_:=Aside0.mk (blk_grown (ks BK545) hg (Kd.S_ne HO_4.out BK545.out (by decide)));have n2_:=Aside0.mk (Kd.R_over' (rs HO549) (Kd.S_typed (by (with_reducible repeat (first|apply Kd.S_alloc|apply Kd.S_drewN|apply Kd.S_drew));exact HO_4.out)) (by decide) hg);have n3_:=Aside0.mk (hb);have n4_:=Aside0.mk (ho);clear BK514;clear BK545;clear HO549;clear HB;clear HO_4;clear HO553;have BK514:=n0_;have BK545:=n1_;have HO549:=n2_;have HB:=n3_;have HO556:=n4_;clear n0_ n1_ n2_ n3_ n4_;clear ho hb hg hat;refine hK.out _ _ (hb6a BK514 (hb5 BK545)).out (fun hHeld=>?_);clear hK K;refine nA 59 ?_;refine pA 11 4 HT_ ?_;refine done_ (done_of HT_.out (by kernel_rfl)) ?_
          try go_wp2
          go_roundg k3
          case measure=>have:=HJ7.out;have:=HK2.out;have:=HK3.out;omega
          case rel=>exact ⟨(y554),(wrap64 (x45_3+1)),fg,H',⟨by have:=HJ7.out;have:=HK2.out;have:=HK3.out;omega⟩,⟨by (with_reducible repeat (first|apply Kd.S_alloc|apply Kd.S_drewN|apply Kd.S_drew));exact Kd.S_mono HO556.out (fun _ hk=>⟨hk.1,hk.2.2.1⟩)⟩,⟨ks BK514⟩,⟨bs HB⟩⟩
         ·intro c37b0 H;obtain rfl:=si H
          go_wp2
          go_ret
          exact ⟨_,ff,by (with_reducible repeat (first|apply Kd.S_alloc|apply Kd.S_drewN|apply Kd.S_drew));exact Kd.S_mono HO_4.out (fun _ hk=>hk.1),bs HB⟩
   ·intro c14 H
    exact absurd H (by simp)
theorem impl_bodyOf.calls (k:Nat) (a0_0:Int) (a0_1:ByteArray) (a0_2:ByteArray) (a0_3:Int) (A0_4:Option Addr) (c0_4:Nat) (l0_4:List ByteArray) (A0_5:Option Addr) (c0_5:Nat) (l0_5:List (S63)) (r:List (S46)) (w:World) (hr0_4:Kd.C Kd.string w A0_4 l0_4.length l0_4) (hc0_4:l0_4.length≤c0_4) (hr0_5:Kd.C k63 w A0_5 l0_5.length l0_5) (hc0_5:l0_5.length≤c0_5) (hTF:TbF w) (H:impl_bodyOf.f k a0_0 a0_1 a0_2 a0_3 l0_4 l0_5=some r) :
  Calls Tryz.prog 20 #[.agg #[.int .i64 a0_0,.string a0_1,.string a0_2,.int .i64 a0_3,.slice A0_4 l0_4.length c0_4,.slice A0_5 l0_5.length c0_5]] w fun e w'=>∃ v0_:Value,e=.returned (v0_)∧Kd.N k46 46 w' w.heap.size (fun k_=>(w.heap.size≤k_)) v0_ r∧Below w.heap.size w w':=by
 refine (impl_bodyOf.callsS k a0_0 a0_1 a0_2 a0_3 A0_4 c0_4 l0_4 A0_5 c0_5 l0_5 r w hr0_4 hc0_4 hr0_5 hc0_5 hTF H).mono ?_
 rintro e w' ⟨v,he,hS,hb⟩
 exact ⟨v,he,kA46_N hS,hb⟩
theorem impl_isName.calls (k:Nat) (a0:ByteArray) (r:Bool) (w:World) (H:impl_isName.f k a0=some r) :
  Calls Tryz.prog 96 #[.string a0] w fun e w'=>e=.returned (.bool r)∧Drawn0 w w':=by
 unfold impl_isName.f at H;have H':=am H;clear H
 go_in
 go_wp2
 go_loopg [6] k (fun kq v6 w'=>∃ (x6_1:Int),v6=.int .i64 x6_1∧Aside0 (impl_isName.l0 kq a0 (a0.size:Int) x6_1=some r)∧Aside0 (kq≤k)∧Drawn0 w w')
 case atStart=>exact ⟨(0),fg,H',⟨Nat.le_refl _⟩,by repeat (first|exact Drawn0.refl _|apply Drawn0.step)⟩
 case round =>
  clear H';obtain ⟨x6_1,rfl,HA,HK1,⟨m1,rfl⟩⟩:=hrel
  cases gk with
  | zero=>exact absurd HA.out (by simp [impl_isName.l0])
  | succ k1 =>
   have H:=HA.out;clear HA;simp only [impl_isName.l0] at H
   revert H;refine id2 ?_ ?_
   ·intro c2b0 H
    revert H;refine id1 ?_
    intro c3b0 H
    revert H;refine id1 ?_
    intro c4b0 H;replace H:=bo H;obtain ⟨t7,A6,H⟩:=H;have p5:0≤(x6_1:Int):=oa;have q5:x6_1<(a0.size:Int):=oa;have hx5:=bt_at a0 x6_1;replace p5:=eq_true p5;replace q5:=eq_true q5
    try go_wp2_with (fail)
    go_at_call 111;(with_reducible refine (impl_isGreat.calls (bt a0 x6_1) t7 _ A6.out).mono ?_);rintro e w' ⟨rfl,⟨nd,rfl⟩⟩
    obtain rfl|rfl:=bt t7
    ·replace H:=itT H;have H':=am H;clear H
     go_wp2
     go_roundg k1
     case measure=>have:=HK1.out;omega
     case rel=>exact ⟨(wrap64 (x6_1+1)),fg,H',⟨by have:=HK1.out;omega⟩,by repeat (first|exact Drawn0.refl _|apply Drawn0.step)⟩
    ·replace H:=itF H
     revert H;refine ie2 ?_ ?_
     ·intro c8b0 c8b1 H;obtain rfl:=si H
      go_wp2
      go_ret
      exact ⟨fg,dr⟩
     ·intro c8 c8b0 c8b1 H;replace H:=bo H;obtain ⟨t11,A10,H⟩:=H;have p9:0≤(x6_1:Int):=oa;have q9:x6_1<(a0.size:Int):=oa;have hx9:=bt_at a0 x6_1;replace p9:=eq_true p9;replace q9:=eq_true q9
      try go_wp2_with (fail)
      go_at_call 100;(with_reducible refine (impl_isDigit.calls (bt a0 x6_1) t11 _ A10.out).mono ?_);rintro e w' ⟨rfl,⟨nd,rfl⟩⟩
      obtain rfl|rfl:=bt t11
      ·replace H:=itT H;have H':=am H;clear H
       go_wp2
       go_roundg k1
       case measure=>have:=HK1.out;omega
       case rel=>exact ⟨(wrap64 (x6_1+1)),fg,H',⟨by have:=HK1.out;omega⟩,by repeat (first|exact Drawn0.refl _|apply Drawn0.step)⟩
      ·replace H:=itF H
       revert H;refine ie2 ?_ ?_
       ·intro c13b0 c13b1 H;have H':=am H;clear H;have p12:0≤(x6_1:Int):=oa;have q12:x6_1<(a0.size:Int):=oa;have hx12:=bt_at a0 x6_1;replace p12:=eq_true p12;replace q12:=eq_true q12
        go_wp2
        go_roundg k1
        case measure=>have:=HK1.out;omega
        case rel=>exact ⟨(wrap64 (x6_1+1)),fg,H',⟨by have:=HK1.out;omega⟩,by repeat (first|exact Drawn0.refl _|apply Drawn0.step)⟩
       ·intro c13 c13b0 c13b1 H;obtain rfl:=si H;have p12:0≤(x6_1:Int):=oa;have q12:x6_1<(a0.size:Int):=oa;have hx12:=bt_at a0 x6_1;replace p12:=eq_true p12;replace q12:=eq_true q12
        go_wp2
        go_ret
        exact ⟨fg,dr⟩
   ·intro c2b0 H;replace H:=bo H;obtain ⟨t15,A14,H⟩:=H;obtain rfl:=si H
    go_wp2_with (first|((first|((with_reducible refine gate_callee (f:=38) rfl ?_);refine goesL_ (some 34) rfl rfl Tryz.func38 (by kernel_rfl) rfl #[.int .i64 (a0.size:Int),.int .i64 1,.int .i64 12] rfl (by (try simp only [List.map_toArray,List.map_cons,List.map_nil]);first|done|rfl|(simp only [List.length_drop,List.length_take];rfl)) ?_;(with_reducible refine (impl_within.calls (a0.size:Int) 1 12 t15 _ A14.out).mono ?_);rintro e w' ⟨rfl,⟨nd,rfl⟩⟩;refine ⟨_,rfl,?_⟩)|(go_at_call 38;(with_reducible refine (impl_within.calls (a0.size:Int) 1 12 t15 _ A14.out).mono ?_);rintro e w' ⟨rfl,⟨nd,rfl⟩⟩))))
    go_ret
    exact ⟨fg,dr⟩
theorem impl_isOf.calls (k:Nat) (a0:Int) (a1:ByteArray) (r:Bool) (w:World) (hTP:TbP w) (H:impl_isOf.f k a0 a1=some r) :
  Calls Tryz.prog 86 #[.int .u8 a0,.string a1] w fun e w'=>e=.returned (.bool r)∧Below w.heap.size w w':=by
 have HTP:=am hTP;clear hTP
 have HB:=am (Below.refl w.heap.size w);unfold impl_isOf.f at H
 revert H;refine ie2 ?_ ?_
 ·intro c3b0 c3b1 H;replace H:=bo H;obtain ⟨t14,A4,H⟩:=H;obtain rfl:=si H
  go_in
  go_wp2_with (first|((first|((with_reducible refine gate_callee (f:=96) rfl ?_);refine goesL_ (some 10) rfl rfl Tryz.func96 (by kernel_rfl) rfl #[.string a1] rfl (by (try simp only [List.map_toArray,List.map_cons,List.map_nil]);first|done|rfl|(simp only [List.length_drop,List.length_take];rfl)) ?_;(with_reducible refine (impl_isName.calls k a1 t14 _ A4.out).mono ?_);rintro e w' ⟨rfl,⟨nd,rfl⟩⟩;refine ⟨_,rfl,?_⟩)|(go_at_call 96;(with_reducible refine (impl_isName.calls k a1 t14 _ A4.out).mono ?_);rintro e w' ⟨rfl,⟨nd,rfl⟩⟩))))
  go_ret
  exact ⟨ff,bs HB⟩
 ·intro c3 c3b0 c3b1 H
  revert H;refine ie2 ?_ ?_
  ·intro c5b0 c5b1 H;replace H:=bo H;obtain ⟨⟨t21,t23⟩,A6,H⟩:=H;(try dsimp only at H);obtain rfl:=si H
   go_in
   go_wp2_with (first|((first|((with_reducible refine gate_callee (f:=66) rfl ?_);refine goesL_ (some 15) rfl rfl Tryz.func66 (by kernel_rfl) rfl #[.string a1,.int .i64 0,.int .i64 1000000000] rfl (by (try simp only [List.map_toArray,List.map_cons,List.map_nil]);first|done|rfl|(simp only [List.length_drop,List.length_take];rfl)) ?_;(with_reducible refine (impl_numberIn.calls k a1 0 1000000000 t21 t23 _ (tbP HTP (bs HB)) A6.out).mono ?_);rintro e w7 ⟨rfl,hb⟩;refine ⟨_,rfl,?_⟩)|(go_at_call 66;(with_reducible refine (impl_numberIn.calls k a1 0 1000000000 t21 t23 _ (tbP HTP (bs HB)) A6.out).mono ?_);rintro e w7 ⟨rfl,hb⟩));replace HB:=bq HB hb;(try clear hb);(try clear hb2);(try clear hk);(try clear hi)))
   go_ret
   exact ⟨ff,bs HB⟩
  ·intro c5 c5b0 c5b1 H
   revert H;refine ie2 ?_ ?_
   ·intro c8b0 c8b1 H;replace H:=bo H;obtain ⟨⟨t24,t25⟩,A9,H⟩:=H;(try dsimp only at H);obtain rfl:=si H
    go_in
    go_wp2_with (first|((first|((with_reducible refine gate_callee (f:=66) rfl ?_);refine goesL_ (some 22) rfl rfl Tryz.func66 (by kernel_rfl) rfl #[.string a1,.int .i64 1,.int .i64 1000000] rfl (by (try simp only [List.map_toArray,List.map_cons,List.map_nil]);first|done|rfl|(simp only [List.length_drop,List.length_take];rfl)) ?_;(with_reducible refine (impl_numberIn.calls k a1 1 1000000 t24 t25 _ (tbP HTP (bs HB)) A9.out).mono ?_);rintro e w10 ⟨rfl,hb⟩;refine ⟨_,rfl,?_⟩)|(go_at_call 66;(with_reducible refine (impl_numberIn.calls k a1 1 1000000 t24 t25 _ (tbP HTP (bs HB)) A9.out).mono ?_);rintro e w10 ⟨rfl,hb⟩));replace HB:=bq HB hb;(try clear hb);(try clear hb2);(try clear hk);(try clear hi)))
    go_ret
    exact ⟨ff,bs HB⟩
   ·intro c8 c8b0 c8b1 H
    revert H;refine ie2 ?_ ?_
    ·intro c11b0 c11b1 H;replace H:=bo H;obtain ⟨⟨t29,t26⟩,A12,H⟩:=H;(try dsimp only at H)
     go_in
     try go_wp2_with (fail)
     go_at_call 66;(with_reducible refine (impl_numberIn.calls k a1 (-1000000) 1000000 t29 t26 _ (tbP HTP (bs HB)) A12.out).mono ?_);rintro e w13 ⟨rfl,hb⟩;replace HB:=bq HB hb;(try clear hb);(try clear hb2);(try clear hk);(try clear hi)
     obtain rfl|rfl:=bt t26
     ·replace H:=itT H;obtain rfl:=si H
      go_wp2
      go_ret
      exact ⟨ff,bs HB⟩
     ·replace H:=itF H;obtain rfl:=si H
      go_wp2
      go_ret
      exact ⟨ff,bs HB⟩
    ·intro c11 c11b0 c11b1 H
     revert H;refine ie2 ?_ ?_
     ·intro c15b0 c15b1 H;replace H:=bo H;obtain ⟨⟨t27,t28⟩,A16,H⟩:=H;(try dsimp only at H);obtain rfl:=si H
      go_in
      go_wp2_with (first|((first|((with_reducible refine gate_callee (f:=66) rfl ?_);refine goesL_ (some 41) rfl rfl Tryz.func66 (by kernel_rfl) rfl #[.string a1,.int .i64 0,.int .i64 100000] rfl (by (try simp only [List.map_toArray,List.map_cons,List.map_nil]);first|done|rfl|(simp only [List.length_drop,List.length_take];rfl)) ?_;(with_reducible refine (impl_numberIn.calls k a1 0 100000 t27 t28 _ (tbP HTP (bs HB)) A16.out).mono ?_);rintro e w17 ⟨rfl,hb⟩;refine ⟨_,rfl,?_⟩)|(go_at_call 66;(with_reducible refine (impl_numberIn.calls k a1 0 100000 t27 t28 _ (tbP HTP (bs HB)) A16.out).mono ?_);rintro e w17 ⟨rfl,hb⟩));replace HB:=bq HB hb;(try clear hb);(try clear hb2);(try clear hk);(try clear hi)))
      go_ret
      exact ⟨ff,bs HB⟩
     ·intro c15 c15b0 c15b1 H
      revert H;refine ie2 ?_ ?_
      ·intro c18b0 c18b1 H
       revert H;refine in2 ?_ ?_
       ·intro c19b0 c19b1 c19b2 H;obtain rfl:=si H
        go_in
        go_wp2
        go_ret
        exact ⟨ff,bs HB⟩
       ·intro c19 c19b0 c19b1 c19b2 H;replace H:=bo H;obtain ⟨t30,A20,H⟩:=H;obtain rfl:=si H
        go_in
        go_wp2_with (first|(go_at_call 97;(with_reducible refine (impl_isPart.calls k a1 t30 _ A20.out).mono ?_);rintro e w' ⟨rfl,⟨nd,rfl⟩⟩))
        go_ret
        exact ⟨ff,bs HB⟩
      ·intro c18 c18b0 c18b1 H;obtain rfl:=si H
       go_in
       go_wp2
       go_ret
       exact ⟨ff,bs HB⟩
end Go.Proofs.YtaememmnhmebcaaGreatDoor.QB
