-- Merged by a program of this session (wip/tool/pack.py) out of its own texts for this claim.
import Derived.Test.YtaememmnhmebcaaGreatDoorKFnExactPaperBody15
set_option maxHeartbeats 8000000
set_option maxRecDepth 100000
set_option linter.unusedSimpArgs false
set_option linter.unusedVariables false
namespace Go.Proofs.YtaememmnhmebcaaGreatDoor.QB
open Go.RowKit Go.Proofs.YtaememmnhmebcaaGreatDoorW.PrintWords Go.Proofs.YtaememmnhmebcaaGreatDoorW.PrintLast Go.Proofs.YtaememmnhmebcaaGreatDoorW.PrintMore
attribute [local go_sem] max2_int min2_int max_two min_two max_three min_three max_four min_four   -- for this text's walks alone
def impl_paperOf.T4:Bool × List (List Nat × List Nat):=(true,[([],[]),([0],[0]),([1],[1]),([2],[2]),([],[]),([4],[4]),([5],[5]),([6],[6]),([7],[7]),([8],[8]),([3,9],[3,9]),([10],[10]),([],[]),([12,11,0,1,2,3,4,5,6,7,8,9,10,11,12],[11,12])])
def impl_paperOf.B4:List Nat:=[0,1,3,7,0,16,48,112,240,496,1023,2047,0,8191]
theorem impl_paperOf.tab4:rtab .any (opsOf Tryz.f41 4)=impl_paperOf.T4:=by kernel_rfl
theorem impl_paperOf.bits4:waitsOk impl_paperOf.T4.2 impl_paperOf.B4=true:=by kernel_rfl
def impl_paperOf.T11:Bool × List (List Nat × List Nat):=(true,[([],[]),([0],[0]),([],[]),([2],[2]),([3],[3]),([4],[4]),([5],[5]),([6],[6]),([7],[7]),([8],[8]),([1,9],[1,9]),([0,1,2,3,4,5,6,7,8,9,10],[]),([11,10,10,0,1,2,3,4,5,6,7,8,9,10],[10,11])])
def impl_paperOf.B11:List Nat:=[0,1,0,4,12,28,60,124,252,508,1023,2047,4095]
theorem impl_paperOf.tab11:rtab .any (opsOf Tryz.f41 11)=impl_paperOf.T11:=by kernel_rfl
theorem impl_paperOf.bits11:waitsOk impl_paperOf.T11.2 impl_paperOf.B11=true:=by kernel_rfl
def impl_paperOf.T12:Bool × List (List Nat × List Nat):=(true,[([],[]),([0],[0]),([],[]),([],[]),([2,3],[2,3]),([4],[4]),([1,5,4],[1,5]),([0,1,2,3,4,5,6],[]),([7,6,6,0,1,2,3,4,5,6],[6,7])])
def impl_paperOf.B12:List Nat:=[0,1,0,0,12,28,63,127,255]
theorem impl_paperOf.tab12:rtab .any (opsOf Tryz.f41 12)=impl_paperOf.T12:=by kernel_rfl
theorem impl_paperOf.bits12:waitsOk impl_paperOf.T12.2 impl_paperOf.B12=true:=by kernel_rfl
theorem impl_paperOf.calls (k:Nat) (a0:Int) (A1:Option Addr) (c1:Nat) (l1:List (S46)) (r1:Int) (r2:ByteArray) (r3:ByteArray) (r4:Int) (r5:List ByteArray) (r6:List (S63)) (w:World) (hr1:Kd.C k46 w A1 l1.length l1) (hc1:l1.length≤c1) (hTP:TbP w) (H:impl_paperOf.f k a0 l1=some (r1,r2,r3,r4,r5,r6)) :
  Calls Tryz.prog 41 #[.int .i64 a0,.slice A1 l1.length c1] w fun e w'=>∃ v4_ v5_:Value,e=.returned (.agg #[.int .i64 r1,.string r2,.string r3,.int .i64 r4,v4_,v5_])∧Kd.R Kd.string 9 w' w.heap.size (fun _=>True) v4_ r5∧Kd.R k63 63 w' w.heap.size (fun _=>True) v5_ r6∧Below w.heap.size w w':=by
 have HTP:=am hTP;clear hTP
 have hu31:=Tryz.underlying31;have hu77:=Tryz.underlying77;have hu46:=Tryz.underlying46;have HR1:=am hr1;have HC1:=am hc1;clear hr1 hc1;have HB:=am (Below.refl w.heap.size w);unfold impl_paperOf.f at H
 by_cases c3:0<(l1.length:Int)
 ·rw [if_pos c3] at H;have c3b0:decide (0<(l1.length:Int))=true:=decide_eq_true c3;have c3b1:decide (0<l1.length)=true:=decide_eq_true (by omega);clear c3
  revert H;refine id1k ?_
  intro c4 c4b0 H;have c4b1:decide (0<((rd_T46 l1 0).f1).length)=true:=decide_eq_true (by omega);clear c4
  revert H;refine id1k ?_
  intro c5 c5b0 H;have c5b1:decide (0<((rd_T77 ((rd_T46 l1 0).f1) 0).f0).length)=true:=decide_eq_true (by omega);clear c5;replace H:=bo H;obtain ⟨t606,A6,H⟩:=H
  go_in
  try go_wp2_with (first|((with_reducible refine gate_dst (N:=4) rfl ?_);refine bz 4 (cs:=#[.int .i64 0,.string (⟨#[]⟩:ByteArray),.string (⟨#[]⟩:ByteArray),.int .i64 0,.slice none 0 0,.slice none 0 0]) (t:=31) HB ?_;clear HB;intro gb88 hg w7 BK88 GW88 hb HB;clear hb hg;have p97:0≤(0:Int):=(by omega);have q97:0<(l1.length:Int):=oa;obtain ⟨ad97,A97_1,c97_1,e97,hx97_0,hx97_1,hl97_1,hi97_1⟩:=at_T46 HR1.out 0 p97 q97;cases e97;have qi97:(0<l1.length)=True:=eq_true (by omega);(try rw [show ((0:Int)).toNat=0 from rfl] at hx97_0);(try rw [show 0 * 2=0 from rfl] at hx97_0);(try rw [Addr.add_zero'] at hx97_0);(try rw [show ((0:Int)).toNat=0 from rfl] at hx97_1);(try rw [show 0 * 2=0 from rfl] at hx97_1);(try rw [Addr.add_zero'] at hx97_1);replace hx97_0:=cb HB hx97_0;replace hx97_1:=cb HB hx97_1;have HR97_1:=am hi97_1;have HC97_1:=am hl97_1;clear hi97_1 hl97_1;replace p97:=eq_true p97;replace q97:=eq_true q97;have p603:0≤(0:Int):=(by omega);have q603:0<(((rd_T46 l1 0).f1).length:Int):=oa;obtain ⟨ad603,A603_0,c603_0,e603,hx603_0,hl603_0,hi603_0⟩:=at_T77 HR97_1.out 0 p603 q603;cases e603;have qi603:(0<((rd_T46 l1 0).f1).length)=True:=eq_true (by omega);(try rw [show ((0:Int)).toNat=0 from rfl] at hx603_0);(try rw [Addr.add_zero'] at hx603_0);replace hx603_0:=cb HB hx603_0;have HR603_0:=am hi603_0;have HC603_0:=am hl603_0;clear hi603_0 hl603_0;replace p603:=eq_true p603;replace q603:=eq_true q603;have p604:0≤(0:Int):=(by omega);have q604:0<(((rd_T77 ((rd_T46 l1 0).f1) 0).f0).length:Int):=oa;obtain ⟨ad604,e604,hx604_0⟩:=Kd.at_string HR603_0.out 0 p604 q604;cases e604;have qi604:(0<((rd_T77 ((rd_T46 l1 0).f1) 0).f0).length)=True:=eq_true (by omega);(try rw [show ((0:Int)).toNat=0 from rfl] at hx604_0);(try rw [Addr.add_zero'] at hx604_0);replace hx604_0:=cb HB hx604_0;replace p604:=eq_true p604;replace q604:=eq_true q604)|((with_reducible refine gate_dst (N:=5) rfl ?_);refine bz 5 (cs:=#[.int .i64 0,.string (⟨#[]⟩:ByteArray),.string (⟨#[]⟩:ByteArray),.int .i64 0,.slice none 0 0,.slice none 0 0]) (t:=31) HB ?_;clear HB;intro gb86 hg w8 BK86 GW86 hb HB;have NB88_86:=na hg BK88;have NB86_88:=nc hg BK88;replace BK88:=bb BK88 hb;clear hb hg;have hnb9:=NB86_88.out;have hnc9:=NB88_86.out;have hcz10:=cf6 BK86))
  go_at_call 43;(with_reducible refine (impl_hasTwo.calls a0 t606 _ A6.out).mono ?_);rintro e w' ⟨rfl,⟨nd,rfl⟩⟩;have HC11:=am H;clear H
  go_upto_if 23 with (fail)
  go_cut [] (fun wc=>∃ (kq:Nat) (x104_10:ByteArray),Aside0 (impl_paperOf.j0 kq a0 l1 a0 (rdOf ByteArray.empty ((rd_T77 ((rd_T46 l1 0).f1) 0).f0) 0) x104_10 0=some (r1,r2,r3,r4,r5,r6))∧Aside0 (kq≤k)∧Aside0 (wc.heap[gb88]? = some (.cells #[.int .i64 0,.string (⟨#[]⟩:ByteArray),.string (⟨#[]⟩:ByteArray),.int .i64 0,(.slice none 0 0),(.slice none 0 0)] 31 (0,0)))∧Aside0 (wc.heap[gb86]? = some (.cells #[.int .i64 a0,.string (rdOf ByteArray.empty ((rd_T77 ((rd_T46 l1 0).f1) 0).f0) 0),.string x104_10,.int .i64 0,(.slice none 0 0),(.slice none 0 0)] 31 (0,0)))∧Aside0 (Below w.heap.size w wc))
  case first =>
   have H:=HC11.out;clear HC11
   obtain rfl|rfl:=bt t606
   ·replace H:=itT H
    revert H;refine id1k ?_
    intro c13 c13b0 H;have c13b1:decide (1<((rd_T46 l1 0).f1).length)=true:=decide_eq_true (by omega);clear c13
    (first|rw [c13b0]|(simp only [i64_w,i32_w];rw [c13b0])|rw [c13b1]|skip)
    revert H;refine id1k ?_
    intro c14 c14b0 H;have c14b1:decide (0<((rd_T77 ((rd_T46 l1 0).f1) 1).f0).length)=true:=decide_eq_true (by omega);clear c14;have H':=am H;clear H;have p91:0≤(0:Int):=(by omega);have q91:0<(l1.length:Int):=oa;obtain ⟨ad91,A91_1,c91_1,e91,hx91_0,hx91_1,hl91_1,hi91_1⟩:=at_T46 HR1.out 0 p91 q91;obtain rfl:ad97=ad91:=(by injection e91);have qi91:(0<l1.length)=True:=eq_true (by omega)
    (try rw [show ((0:Int)).toNat=0 from rfl] at hx91_0)
    (try rw [show 0 * 2=0 from rfl] at hx91_0)
    (try rw [Addr.add_zero'] at hx91_0)
    (try rw [show ((0:Int)).toNat=0 from rfl] at hx91_1)
    (try rw [show 0 * 2=0 from rfl] at hx91_1)
    (try rw [Addr.add_zero'] at hx91_1)
    have hn91_0:ad97.block≠gb86:=nl hx91_0 GW86;have hn91_1:ad97.block≠gb86:=nl hx91_0 GW86;have hn91_2:ad97.block≠gb86:=nl hx91_0 GW86;have hn91_3:ad97.block≠gb86:=nl hx91_0 GW86;have hn91_4:ad97.block≠gb86:=nl hx91_0 GW86;have hn91_5:ad97.block≠gb86:=nl hx91_0 GW86;replace hx91_0:=cb HB hx91_0;replace hx91_1:=cb HB hx91_1;have HR91_1:=am hi91_1;have HC91_1:=am hl91_1;clear hi91_1 hl91_1;replace hx91_0:=(cell_far (p:=⟨gb86,0,none⟩) (by exact nz hn91_0) (.int .i64 a0)).trans hx91_0;replace hx91_1:=(cell_far (p:=⟨gb86,0,none⟩) (by exact nz hn91_0) (.int .i64 a0)).trans hx91_1;replace hx91_0:=(cell_far (p:=⟨gb86,1,none⟩) (by exact nz hn91_1) (.string (rdOf ByteArray.empty ((rd_T77 ((rd_T46 l1 0).f1) 0).f0) 0))).trans hx91_0;replace hx91_1:=(cell_far (p:=⟨gb86,1,none⟩) (by exact nz hn91_1) (.string (rdOf ByteArray.empty ((rd_T77 ((rd_T46 l1 0).f1) 0).f0) 0))).trans hx91_1;replace hx91_0:=(cell_far (p:=⟨gb86,2,none⟩) (by exact nz hn91_2) (.string (⟨#[]⟩:ByteArray))).trans hx91_0;replace hx91_1:=(cell_far (p:=⟨gb86,2,none⟩) (by exact nz hn91_2) (.string (⟨#[]⟩:ByteArray))).trans hx91_1;replace hx91_0:=(cell_far (p:=⟨gb86,3,none⟩) (by exact nz hn91_3) (.int .i64 0)).trans hx91_0;replace hx91_1:=(cell_far (p:=⟨gb86,3,none⟩) (by exact nz hn91_3) (.int .i64 0)).trans hx91_1;replace hx91_0:=(cell_far (p:=⟨gb86,4,none⟩) (by exact nz hn91_4) (.slice none 0 0)).trans hx91_0;replace hx91_1:=(cell_far (p:=⟨gb86,4,none⟩) (by exact nz hn91_4) (.slice none 0 0)).trans hx91_1;replace hx91_0:=(cell_far (p:=⟨gb86,5,none⟩) (by exact nz hn91_5) (.slice none 0 0)).trans hx91_0;replace hx91_1:=(cell_far (p:=⟨gb86,5,none⟩) (by exact nz hn91_5) (.slice none 0 0)).trans hx91_1;clear hn91_0;clear hn91_1;clear hn91_2;clear hn91_3;clear hn91_4;clear hn91_5;replace p91:=eq_true p91;replace q91:=eq_true q91;have p93:0≤(1:Int):=(by omega);have q93:1<(((rd_T46 l1 0).f1).length:Int):=oa;obtain ⟨ad93,A93_0,c93_0,e93,hx93_0,hl93_0,hi93_0⟩:=at_T77 HR91_1.out 1 p93 q93
    cases e93
    (try simp only [show (1:Int).toNat=1 from rfl,Nat.reduceMul,Nat.reduceEqDiff,Go.Addr.add,↓reduceIte] at hx93_0)
    have qi93:(1<((rd_T46 l1 0).f1).length)=True:=eq_true (by omega)
    (try rw [show ((1:Int)).toNat=1 from rfl] at hx93_0)
    have hn93_0:ad93.block≠gb86:=nl hx93_0 GW86;have hn93_1:ad93.block≠gb86:=nl hx93_0 GW86;have hn93_2:ad93.block≠gb86:=nl hx93_0 GW86;have hn93_3:ad93.block≠gb86:=nl hx93_0 GW86;have hn93_4:ad93.block≠gb86:=nl hx93_0 GW86;have hn93_5:ad93.block≠gb86:=nl hx93_0 GW86;replace hx93_0:=cb HB hx93_0;have HR93_0:=am hi93_0;have HC93_0:=am hl93_0;clear hi93_0 hl93_0;replace hx93_0:=(cell_far (p:=⟨gb86,0,none⟩) (by exact nz hn93_0) (.int .i64 a0)).trans hx93_0;replace hx93_0:=(cell_far (p:=⟨gb86,1,none⟩) (by exact nz hn93_1) (.string (rdOf ByteArray.empty ((rd_T77 ((rd_T46 l1 0).f1) 0).f0) 0))).trans hx93_0;replace hx93_0:=(cell_far (p:=⟨gb86,2,none⟩) (by exact nz hn93_2) (.string (⟨#[]⟩:ByteArray))).trans hx93_0;replace hx93_0:=(cell_far (p:=⟨gb86,3,none⟩) (by exact nz hn93_3) (.int .i64 0)).trans hx93_0;replace hx93_0:=(cell_far (p:=⟨gb86,4,none⟩) (by exact nz hn93_4) (.slice none 0 0)).trans hx93_0;replace hx93_0:=(cell_far (p:=⟨gb86,5,none⟩) (by exact nz hn93_5) (.slice none 0 0)).trans hx93_0;clear hn93_0;clear hn93_1;clear hn93_2;clear hn93_3;clear hn93_4;clear hn93_5;replace p93:=eq_true p93;replace q93:=eq_true q93;have p95:0≤(0:Int):=(by omega);have q95:0<(((rd_T77 ((rd_T46 l1 0).f1) 1).f0).length:Int):=oa;obtain ⟨ad95,e95,hx95_0⟩:=Kd.at_string HR93_0.out 0 p95 q95
    cases e95
    have qi95:(0<((rd_T77 ((rd_T46 l1 0).f1) 1).f0).length)=True:=eq_true (by omega)
    (try rw [show ((0:Int)).toNat=0 from rfl] at hx95_0)
    (try rw [Addr.add_zero'] at hx95_0)
    have hn95_0:ad95.block≠gb86:=nl hx95_0 GW86;have hn95_1:ad95.block≠gb86:=nl hx95_0 GW86;have hn95_2:ad95.block≠gb86:=nl hx95_0 GW86;have hn95_3:ad95.block≠gb86:=nl hx95_0 GW86;have hn95_4:ad95.block≠gb86:=nl hx95_0 GW86;have hn95_5:ad95.block≠gb86:=nl hx95_0 GW86;replace hx95_0:=cb HB hx95_0;replace hx95_0:=(cell_far (p:=⟨gb86,0,none⟩) (by exact nz hn95_0) (.int .i64 a0)).trans hx95_0;replace hx95_0:=(cell_far (p:=⟨gb86,1,none⟩) (by exact nz hn95_1) (.string (rdOf ByteArray.empty ((rd_T77 ((rd_T46 l1 0).f1) 0).f0) 0))).trans hx95_0;replace hx95_0:=(cell_far (p:=⟨gb86,2,none⟩) (by exact nz hn95_2) (.string (⟨#[]⟩:ByteArray))).trans hx95_0;replace hx95_0:=(cell_far (p:=⟨gb86,3,none⟩) (by exact nz hn95_3) (.int .i64 0)).trans hx95_0;replace hx95_0:=(cell_far (p:=⟨gb86,4,none⟩) (by exact nz hn95_4) (.slice none 0 0)).trans hx95_0;replace hx95_0:=(cell_far (p:=⟨gb86,5,none⟩) (by exact nz hn95_5) (.slice none 0 0)).trans hx95_0;clear hn95_0;clear hn95_1;clear hn95_2;clear hn95_3;clear hn95_4;clear hn95_5;replace p95:=eq_true p95;replace q95:=eq_true q95;have hnb15:=NB86_88.out;have hnc15:=NB88_86.out;have hcz16:=cf6 BK86
    go_wp2
    go_meet
    case rel=>exact ⟨_,(rdOf ByteArray.empty ((rd_T77 ((rd_T46 l1 0).f1) 1).f0) 0),H',⟨fl⟩,⟨ks BK88⟩,⟨kp BK86⟩,⟨bs HB⟩⟩
   ·replace H:=itF H;have H':=am H;clear H
    go_wp2
    go_meet
    case rel=>exact ⟨_,((⟨#[]⟩:ByteArray)),H',⟨fl⟩,⟨ks BK88⟩,⟨kp BK86⟩,⟨bs HB⟩⟩
  case rest =>
   clear HC11
   try clear c1
   try clear c3
   try clear c3b0
   try clear c3b1
   try clear c4
   try clear c4b0
   try clear c4b1
   try clear c5
   try clear c5b0
   try clear c5b1
   try clear hcz10
   try clear hx97_0
   try clear hx97_1
   try clear hx603_0
   try clear hx604_0
   try clear p97
   try clear p603
   try clear p604
   try clear q97
   try clear q603
   try clear q604
   obtain ⟨kq,x104_10,HA,HJ10,BK88,BK86,HB⟩:=hcut
   cases kq with
   | zero=>exact absurd HA.out (by simp [impl_paperOf.j0])
   | succ kj10 =>
    have H:=HA.out;clear HA;simp only [impl_paperOf.j0] at H
    revert H;refine id1k ?_
    intro c17 c17b0 H;have c17b1:decide (0<l1.length)=true:=decide_eq_true (by omega);clear c17;obtain ⟨ji18,hji18⟩:∃ j_:Int,(wrap64 ((((rd_T46 l1 0).f1).length:Int) - 1))=j_:=⟨_,rfl⟩
    replace H:(if 0≤(ji18) then (if (ji18)<(((rd_T46 l1 0).f1).length:Int) then (if 0<(((rd_T77 ((rd_T46 l1 0).f1) (ji18)).f0).length:Int) then ((impl_numberIn.f kj10 (rdOf ByteArray.empty ((rd_T77 ((rd_T46 l1 0).f1) (ji18)).f0) 0) 0 100000).bind fun bt615=>(if 1≤(l1.length:Int) then ((some (l1.drop 1:List (S46))).bind fun y92=>(impl_paperOf.l0 kj10 a0 y92 (y92.length:Int) 0 a0 (rdOf ByteArray.empty ((rd_T77 ((rd_T46 l1 0).f1) 0).f0) 0) x104_10 bt615.1 ([]:List ByteArray) ([]:List (S63)))) else (none))) else (none)) else (none)) else (none))=some (r1,r2,r3,r4,r5,r6):=by first|(rw [hji18] at H;exact H)|(simp only [hji18] at H ⊢;exact H)
    have hji18w:(IntKind.i64.wrap ((((rd_T46 l1 0).f1).length:Int) - 1))=ji18:=(i64_w _).trans hji18
    revert H;refine id1 ?_
    intro c19b0 H
    revert H;refine id1 ?_
    intro c20b0 H
    revert H;refine id1k ?_
    intro c21 c21b0 H;have c21b1:decide (0<((rd_T77 ((rd_T46 l1 0).f1) (ji18)).f0).length)=true:=decide_eq_true (by omega);clear c21;replace H:=bo H;obtain ⟨⟨t615,t616⟩,A22,H⟩:=H;(try dsimp only at H)
    revert H;refine ip1 ?_
    intro c23 H;have c23b0:=eq_true c23;have c23b1:decide (1≤(l1.length:Int))=true:=decide_eq_true c23;clear c23;obtain ⟨y92,hy92⟩:∃ y_:List (S46),y_=(l1.drop 1):=⟨_,rfl⟩
    replace H:(impl_paperOf.l0 kj10 a0 y92 (y92.length:Int) 0 a0 (rdOf ByteArray.empty ((rd_T77 ((rd_T46 l1 0).f1) 0).f0) 0) x104_10 t615 ([]:List ByteArray) ([]:List (S63)))=some (r1,r2,r3,r4,r5,r6):=ye hy92 H
    have Ny92:=am hy92;clear hy92;have H':=am H;clear H
    try go_wp2
    replace BK88:=am (blk_drew BK88.out);replace BK86:=am (blk_drew BK86.out);replace HB:=am (below_drew1 HB.out);have p94:0≤(0:Int):=(by omega);have q94:0<(l1.length:Int):=oa;obtain ⟨ad94,A94_1,c94_1,e94,hx94_0,hx94_1,hl94_1,hi94_1⟩:=at_T46 HR1.out 0 p94 q94;have hw94_1:=hx94_1
    (try rw [show ((0:Int)).toNat=0 from rfl] at hw94_1)
    (try rw [show 0 * 2=0 from rfl] at hw94_1)
    (try rw [Addr.add_zero'] at hw94_1)
    have hw94_0:=hx94_0
    (try rw [show ((0:Int)).toNat=0 from rfl] at hw94_0)
    (try rw [show 0 * 2=0 from rfl] at hw94_0)
    (try rw [Addr.add_zero'] at hw94_0)
    obtain rfl:ad97=ad94:=(by injection e94);have qi94:(0<l1.length)=True:=eq_true (by omega)
    (try rw [show ((0:Int)).toNat=0 from rfl] at hx94_0)
    (try rw [show 0 * 2=0 from rfl] at hx94_0)
    (try rw [Addr.add_zero'] at hx94_0)
    (try rw [show ((0:Int)).toNat=0 from rfl] at hx94_1)
    (try rw [show 0 * 2=0 from rfl] at hx94_1)
    (try rw [Addr.add_zero'] at hx94_1)
    replace hx94_0:=cb HB hx94_0;replace hx94_1:=cb HB hx94_1;have HR94_1:=am hi94_1;have HC94_1:=am hl94_1;clear hi94_1 hl94_1;replace p94:=eq_true p94;replace q94:=eq_true q94;have p96:0≤(0:Int):=(by omega);have q96:0<(l1.length:Int):=oa;obtain ⟨ad96,A96_1,c96_1,e96,hx96_0,hx96_1,hl96_1,hi96_1⟩:=at_T46 HR1.out 0 p96 q96;have hw96_1:=hx96_1
    (try rw [show ((0:Int)).toNat=0 from rfl] at hw96_1)
    (try rw [show 0 * 2=0 from rfl] at hw96_1)
    (try rw [Addr.add_zero'] at hw96_1)
    have hw96_0:=hx96_0
    (try rw [show ((0:Int)).toNat=0 from rfl] at hw96_0)
    (try rw [show 0 * 2=0 from rfl] at hw96_0)
    (try rw [Addr.add_zero'] at hw96_0)
    obtain rfl:ad97=ad96:=(by injection e96);have qi96:(0<l1.length)=True:=eq_true (by omega)
    (try rw [show ((0:Int)).toNat=0 from rfl] at hx96_0)
    (try rw [show 0 * 2=0 from rfl] at hx96_0)
    (try rw [Addr.add_zero'] at hx96_0)
    (try rw [show ((0:Int)).toNat=0 from rfl] at hx96_1)
    (try rw [show 0 * 2=0 from rfl] at hx96_1)
    (try rw [Addr.add_zero'] at hx96_1)
    replace hx96_0:=cb HB hx96_0;replace hx96_1:=cb HB hx96_1;have HR96_1:=am hi96_1;have HC96_1:=am hl96_1;clear hi96_1 hl96_1;replace p96:=eq_true p96;replace q96:=eq_true q96;(try (have ea_:=Option.some.inj (hx94_1.symm.trans hx96_1);injection ea_ with ea_ en_ ec_;subst ea_;subst ec_;clear en_));have p98:0≤((ji18):Int):=oa;have q98:(ji18)<(((rd_T46 l1 0).f1).length:Int):=oa;obtain ⟨ad98,A98_0,c98_0,e98,hx98_0,hl98_0,hi98_0⟩:=at_T77 HR94_1.out (ji18) p98 q98;have hw98_0:=hx98_0
    cases e98
    replace hx98_0:=cb HB hx98_0;have HR98_0:=am hi98_0;have HC98_0:=am hl98_0;clear hi98_0 hl98_0;replace p98:=eq_true p98;replace q98:=eq_true q98;refine sta 14 (hca (cb HB hw94_0) (hca (cb HB hw94_1) (hca (cb HB hw96_0) (hca (cb HB hw96_1) (hc (cb HB hw98_0)))))) (fun hHeld=>?_);refine with_tabW impl_paperOf.tab4 impl_paperOf.bits4 (fun HT_ HW_=>?_)
    generalize wc.drew=w24 at BK88 BK86 HB HR94_1 HR96_1 HR98_0 hx94_0 hx94_1 hx96_0 hx96_1 hx98_0 hHeld ⊢
    refine pz3 0 ?_;refine pz3 4 ?_;refine ta 3 ?_;refine ta 7 ?_;refine pz3 8 ?_;refine ta 11 ?_;refine oA 12 6 HT_ (fun K hK=>?_);refine box_step ?hg (N:=6) ?hd (cs:=#[.slice none 0 0]) (t:=77) ?hr ?_;(case hd=>rfl);(case hg=>rfl);(case hr=>first|(go_simp;done)|(go_simp;rfl));intro gb90 hg w25 hbox hb;have BK90:=am (hbox);have GW90:=gw hg HB;replace HB:=bq HB hb;have NB88_90:=na hg BK88;have NB90_88:=nc hg BK88;replace BK88:=bb BK88 hb;have NB86_90:=na hg BK86;have NB90_86:=nc hg BK86;replace BK86:=bb BK86 hb;clear hb hbox hg;refine hK.out _ _ (hca (cb HB hw94_0) (hca (cb HB hw94_1) (hca (cb HB hw96_0) (hca (cb HB hw96_1) (hc (cb HB hw98_0)))))).out (fun hHeld=>?_);clear hK K;refine nA 6 ?_;refine one_ (i:=13) (N:=none) #[true,true,true,true,true,true,true,true,true,true,true,true,true,true] rfl rfl (one_of HT_.out (by kernel_rfl)) (by decide) (fun K hK=>?_);have hs26:w25.cell? ⟨gb90,0,none⟩=some (.slice none 0 0):=(blk_cell BK90.out 0).trans rfl;have hfs26:=blk_frozen BK90.out 0;have hns26_0:=NB88_90.out;have hns26_1:=NB86_90.out;have hms26_0:=NB90_88.out;have hms26_1:=NB90_86.out;refine skip_ (w1:=?_) (by rfl) rfl ?_ ?_
    rotate_left
    ·go_simp
     rfl
    refine hK.out _ _ ⟨((cell_far (p:=⟨gb90,_,none⟩) (by exact nl hw94_0 GW90) _).trans (hHeld.1)),((cell_far (p:=⟨gb90,_,none⟩) (by exact nl hw94_1 GW90) _).trans (hHeld.2.1)),((cell_far (p:=⟨gb90,_,none⟩) (by exact nl hw96_0 GW90) _).trans (hHeld.2.2.1)),((cell_far (p:=⟨gb90,_,none⟩) (by exact nl hw96_1 GW90) _).trans (hHeld.2.2.2.1)),((cell_far (p:=⟨gb90,_,none⟩) (by exact nl hw98_0 GW90) _).trans (hHeld.2.2.2.2))⟩ (fun hHeld=>?_);clear hK K;refine done_ (done_of HT_.out (by kernel_rfl)) ?_;have hnb27:=NB90_88.out;have hnc27:=NB88_90.out;have hnb28:=NB90_86.out;have hnc28:=NB86_90.out;have hcz29:=cf1 BK90;have p614:0≤(0:Int):=(by omega);have q614:0<(((rd_T77 ((rd_T46 l1 0).f1) (ji18)).f0).length:Int):=oa;obtain ⟨ad614,e614,hx614_0⟩:=Kd.at_string HR98_0.out 0 p614 q614
    cases e614
    have qi614:(0<((rd_T77 ((rd_T46 l1 0).f1) (ji18)).f0).length)=True:=eq_true (by omega)
    (try rw [show ((0:Int)).toNat=0 from rfl] at hx614_0)
    (try rw [Addr.add_zero'] at hx614_0)
    have hn614_0:ad614.block≠gb90:=nl hx614_0 GW90;replace hx614_0:=cb HB hx614_0;replace hx614_0:=(cell_far (p:=⟨gb90,0,none⟩) (by exact nz hn614_0) (.slice (some ad614) ((rd_T77 ((rd_T46 l1 0).f1) (ji18)).f0).length c98_0)).trans hx614_0;clear hn614_0;replace p614:=eq_true p614;replace q614:=eq_true q614
    try go_wp2_with (first|((first|((with_reducible refine gate_callee (f:=66) rfl ?_);refine goesL_ (some 51) rfl rfl Tryz.func66 (by kernel_rfl) rfl #[.string (rdOf ByteArray.empty ((rd_T77 ((rd_T46 l1 0).f1) (ji18)).f0) 0),.int .i64 0,.int .i64 100000] rfl (by (try simp only [List.map_toArray,List.map_cons,List.map_nil]);first|done|(simp only [hji18];rfl)|rfl|(simp only [List.length_drop,List.length_take];rfl)) ?_;(with_reducible refine (impl_numberIn.calls kj10 (rdOf ByteArray.empty ((rd_T77 ((rd_T46 l1 0).f1) (ji18)).f0) 0) 0 100000 t615 t616 _ (tbP HTP (bs HB)) A22.out).mono ?_);rintro e w30 ⟨rfl,hb⟩;refine ⟨_,rfl,?_⟩)|(go_at_call 66;(with_reducible refine (impl_numberIn.calls kj10 (rdOf ByteArray.empty ((rd_T77 ((rd_T46 l1 0).f1) (ji18)).f0) 0) 0 100000 t615 t616 _ (tbP HTP (bs HB)) A22.out).mono ?_);rintro e w30 ⟨rfl,hb⟩));replace BK88:=bb BK88 hb;replace BK86:=bb BK86 hb;replace BK90:=am (blk_below (g:=gb90) (o:=.cells #[.slice (some ad614) ((rd_T77 ((rd_T46 l1 0).f1) (ji18)).f0).length c98_0] 77 (0,0)) (kp BK90) hb);replace HB:=bq HB hb;(try clear hb);(try clear hb2);(try clear hk);(try clear hi);have hnb31:=NB86_88.out;have hnc31:=NB88_86.out;have hcz32_0:w30.cell? ⟨gb86,0,none⟩=some (.int .i64 a0):=(blk_cell BK86.out 0).trans rfl;have hcz32_1:w30.cell? ⟨gb86,1,none⟩=some (.string (rdOf ByteArray.empty ((rd_T77 ((rd_T46 l1 0).f1) 0).f0) 0)):=(blk_cell BK86.out 1).trans rfl;have hcz32_2:w30.cell? ⟨gb86,2,none⟩=some (.string x104_10):=(blk_cell BK86.out 2).trans rfl;have hcz32_3:w30.cell? ⟨gb86,3,none⟩=some (.int .i64 0):=(blk_cell BK86.out 3).trans rfl;have hcz32_4:w30.cell? ⟨gb86,4,none⟩=some (.slice none 0 0):=(blk_cell BK86.out 4).trans rfl;have hcz32_5:w30.cell? ⟨gb86,5,none⟩=some (.slice none 0 0):=(blk_cell BK86.out 5).trans rfl;have hfz32_0:=blk_frozen BK86.out 0;have hfz32_1:=blk_frozen BK86.out 1;have hfz32_2:=blk_frozen BK86.out 2;have hfz32_3:=blk_frozen BK86.out 3;have hfz32_4:=blk_frozen BK86.out 4;have hfz32_5:=blk_frozen BK86.out 5)|((with_reducible refine gate_store (t:=2) (p:=55) rfl ?_);refine store_event (t:=2) (p:=55) (v:=?vo_w33) (w1:=(w30.setCell ⟨gb86,3,none⟩ (.int .i64 t615))) ?hg ?ho ?hn ?hr ?_;(case ho=>rfl);(case hg=>rfl);(case hn=>rfl);(case hr=>first|(go_simp;done)|(go_simp;rfl));intro w33 hw;have n0_:Aside0 (w33.heap[gb88]? = some (.cells #[.int .i64 0,.string (⟨#[]⟩:ByteArray),.string (⟨#[]⟩:ByteArray),.int .i64 0,.slice none 0 0,.slice none 0 0] 31 (0,0))):=⟨(by rw [hw];exact (ks BK88))⟩;have n1_:Aside0 (w33.heap[gb86]? = some (.cells #[.int .i64 a0,.string (rdOf ByteArray.empty ((rd_T77 ((rd_T46 l1 0).f1) 0).f0) 0),.string x104_10,.int .i64 t615,.slice none 0 0,.slice none 0 0] 31 (0,0))):=⟨(by rw [hw];exact (kp BK86))⟩;have n2_:Aside0 (w33.heap[gb90]? = some (.cells #[.slice (some ad614) ((rd_T77 ((rd_T46 l1 0).f1) (ji18)).f0).length c98_0] 77 (0,0))):=⟨(by rw [hw];exact (ks BK90))⟩;have n3_:Aside0 (Below w.heap.size w w33):=⟨(by rw [hw];exact (bs HB))⟩;clear hw;clear BK88;clear BK86;clear BK90;clear HB;have BK88:=n0_;have BK86:=n1_;have BK90:=n2_;have HB:=n3_;clear n0_ n1_ n2_ n3_;have q34:(1:Int)≤((l1.length:Int):Int):=oa;obtain ⟨i034,hi034,_,hsz34,_⟩:=info_parts info46;have hroom34:l1.length≤c1:=HC1.out;have hC34:Kd.C k46 _ (some ad97) l1.length l1:=HR1.out;have hcut34:=cut_from (P:=Tryz.prog) 27 46 .i64 Tryz.underlying27 hi034 2 hsz34 (some ad97) l1.length c1 1 (by omega) q34;have hr34:=Kd.C_drop (m:=(1:Int).toNat) (c:=c1) hC34 (by omega) hroom34;obtain ⟨A34,hA34⟩:∃ Aq_,Aq_=(if c1=(1:Int).toNat then (some ad97) else ((some ad97):Option Addr).map (·.add ((1:Int).toNat * 2))):=⟨_,rfl⟩;obtain ⟨c34,hc34⟩:∃ cq_,cq_=c1 - (1:Int).toNat:=⟨_,rfl⟩;have hy34:y92.length=l1.length - (1:Int).toNat:=(by rw [Ny92.out,List.length_drop] <;> omega);rw [show (l1).drop (1:Int).toNat=y92 from Ny92.out.symm] at hr34;replace hr34:Kd.C k46 _ A34 y92.length y92:=(by rw [hA34];exact hr34);rw [← hy34,← hA34,← hc34] at hcut34;have HR620:=am hr34;have HC620:=am (show y92.length≤c34 from by rw [hy34,hc34];exact Nat.sub_le_sub_right hroom34 _);clear hr34 hC34 hroom34 hi034 hsz34 hc34;have KY34:=am hy34;have KA34:=am hA34;clear hy34 hA34;replace q34:=eq_true q34))
    go_loopg [59] kj10 (fun kq v59 w'=>∃ (x59_2:Int) (x106_2:List ByteArray) (x107_2:List (S63)) (u606004:Value) (u606005:Value),v59=.int .i64 x59_2∧Aside0 (impl_paperOf.l0 kq a0 y92 (y92.length:Int) x59_2 a0 (rdOf ByteArray.empty ((rd_T77 ((rd_T46 l1 0).f1) 0).f0) 0) x104_10 t615 x106_2 x107_2=some (r1,r2,r3,r4,r5,r6))∧Aside0 (kq≤kj10)∧Aside0 (Kd.R Kd.string 9 w' w.heap.size (fun _=>True) u606004 x106_2)∧Aside0 (Kd.R k63 63 w' w.heap.size (fun _=>True) u606005 x107_2)∧Aside0 (w'.heap[gb88]? = some (.cells #[.int .i64 0,.string (⟨#[]⟩:ByteArray),.string (⟨#[]⟩:ByteArray),.int .i64 0,(.slice none 0 0),(.slice none 0 0)] 31 (0,0)))∧Aside0 (w'.heap[gb86]? = some (.cells #[.int .i64 a0,.string (rdOf ByteArray.empty ((rd_T77 ((rd_T46 l1 0).f1) 0).f0) 0),.string x104_10,.int .i64 t615,u606004,u606005] 31 (0,0)))∧Aside0 (w'.heap[gb90]? = some (.cells #[(.slice (some ad614) ((rd_T77 ((rd_T46 l1 0).f1) (ji18)).f0).length c98_0)] 77 (0,0)))∧Aside0 (Below w.heap.size w w'))
    case atStart=>exact ⟨(0),(([]:List ByteArray)),(([]:List (S63))),(.slice none 0 0),(.slice none 0 0),fg,H',⟨Nat.le_refl _⟩,⟨by first|exact Kd.R_nil _ _ _ _ _|exact Kd.N_nil _ _ _ _ _|exact Kd.V_nil _ _ _ _ _|exact Kd.Q_nil _ _ _ _ _|exact Kd.S_nil _ _ _ _ _⟩,⟨by first|exact Kd.R_nil _ _ _ _ _|exact Kd.N_nil _ _ _ _ _|exact Kd.V_nil _ _ _ _ _|exact Kd.Q_nil _ _ _ _ _|exact Kd.S_nil _ _ _ _ _⟩,⟨ks BK88⟩,⟨ks BK86⟩,⟨ks BK90⟩,⟨bs HB⟩⟩
    case round =>
     clear H'
     try clear c1
     try clear c3
     try clear c3b0
     try clear c3b1
     try clear c4
     try clear c4b0
     try clear c4b1
     try clear c5
     try clear c5b0
     try clear c5b1
     try clear c17
     try clear c17b0
     try clear c17b1
     try clear c19b0
     try clear c20b0
     try clear c21
     try clear c21b0
     try clear c21b1
     try clear c23
     try clear c23b0
     try clear c23b1
     try clear c34
     try clear q34
     try clear hcz10
     try clear hcz29
     try clear hx97_0
     try clear hx97_1
     try clear hx603_0
     try clear hx604_0
     try clear hx94_0
     try clear hx94_1
     try clear hx96_0
     try clear hx96_1
     try clear hx98_0
     try clear hx614_0
     try clear p97
     try clear p603
     try clear p604
     try clear p94
     try clear p96
     try clear p98
     try clear p614
     try clear q34
     try clear q97
     try clear q603
     try clear q604
     try clear q94
     try clear q96
     try clear q98
     try clear q614
     try clear BK88
     try clear BK86
     try clear BK90
     obtain ⟨x59_2,x106_2,x107_2,u606004,u606005,rfl,HA,HK2,HO_606004,HO_606005,BK88,BK86,BK90,HB⟩:=hrel
     cases gk with
     | zero=>exact absurd HA.out (by simp [impl_paperOf.l0])
     | succ k2 =>
      have H:=HA.out;clear HA;simp only [impl_paperOf.l0] at H
      revert H;refine id2 ?_ ?_
      ·intro c35b0 H
       revert H;refine id1 ?_
       intro c36b0 H
       revert H;refine id1 ?_
       intro c37b0 H
       revert H;refine ie2 ?_ ?_
       ·intro c38b0 c38b1 H
        revert H;refine id1k ?_
        intro c39 c39b0 H;have c39b1:decide (0<((rd_T46 y92 x59_2).f1).length)=true:=decide_eq_true (by omega);clear c39
        revert H;refine id1k ?_
        intro c40 c40b0 H;have c40b1:decide (0<((rd_T77 ((rd_T46 y92 x59_2).f1) 0).f0).length)=true:=decide_eq_true (by omega);clear c40
        revert H;refine ip1 ?_
        intro c41 H;have LMc41:=am c41;clear c41;obtain ⟨y625,hy625⟩:∃ y_:List ByteArray,y_=(x106_2++[rdOf ByteArray.empty ((rd_T77 ((rd_T46 y92 x59_2).f1) 0).f0) 0]):=⟨_,rfl⟩
        replace H:(impl_paperOf.l0 k2 a0 y92 (y92.length:Int) (wrap64 (x59_2+1)) a0 (rdOf ByteArray.empty ((rd_T77 ((rd_T46 l1 0).f1) 0).f0) 0) x104_10 t615 y625 x107_2)=some (r1,r2,r3,r4,r5,r6):=ye hy625 H
        have Ny625:=am hy625;clear hy625;have H':=am H;clear H;have p89:0≤(x59_2:Int):=oa;have q89:x59_2<(y92.length:Int):=oa;obtain ⟨ad89,A89_1,c89_1,e89,hx89_0,hx89_1,hl89_1,hi89_1⟩:=at_T46 HR620.out x59_2 p89 q89
        cases e89
        replace hx89_0:=cb HB hx89_0;replace hx89_1:=cb HB hx89_1;have HR89_1:=am hi89_1;have HC89_1:=am hl89_1;clear hi89_1 hl89_1;replace p89:=eq_true p89;replace q89:=eq_true q89
        try go_wp2_with (first|((with_reducible refine gate_dst (N:=10) rfl ?_);refine bx 10 (cs:=#[.string (⟨#[]⟩:ByteArray),.slice none 0 0]) (t:=46) ?_;intro gb87 hg w42 hbox hb;replace HO_606004:=am (Kd.R_below (rs HO_606004) hb);replace HO_606005:=am (Kd.R_below (rs HO_606005) hb);have BK87:=am (hbox);have GW87:=gw hg HB;replace HB:=bq HB hb;have NB88_87:=na hg BK88;have NB87_88:=nc hg BK88;replace BK88:=bb BK88 hb;have NB86_87:=na hg BK86;have NB87_86:=nc hg BK86;replace BK86:=bb BK86 hb;have NB90_87:=na hg BK90;have NB87_90:=nc hg BK90;replace BK90:=bb BK90 hb;clear hb hbox hg;have hnb43:=NB87_88.out;have hnc43:=NB88_87.out;have hnb44:=NB87_86.out;have hnc44:=NB86_87.out;have hnb45:=NB87_90.out;have hnc45:=NB90_87.out;have hcz46:=cf2 BK87))
        have n0_:Aside0 (Kd.R Kd.string 9 ((w42.setCell ⟨gb87,0,none⟩ (.string ((rd_T46 y92 x59_2).f0))).setCell ⟨gb87,1,none⟩ (.slice A89_1 ((rd_T46 y92 x59_2).f1).length c89_1)) w.heap.size (fun _=>True) u606004 x106_2):=⟨Kd.R_mono (rf (Kd.R_types HO_606004.out BK87.out (by decide))) (fun _ hk=>trivial)⟩;have n1_:Aside0 (Kd.R k63 63 ((w42.setCell ⟨gb87,0,none⟩ (.string ((rd_T46 y92 x59_2).f0))).setCell ⟨gb87,1,none⟩ (.slice A89_1 ((rd_T46 y92 x59_2).f1).length c89_1)) w.heap.size (fun _=>True) u606005 x107_2):=⟨Kd.R_mono (rf (Kd.R_types HO_606005.out BK87.out (by decide))) (fun _ hk=>trivial)⟩;have n2_:=kz ((w42.setCell ⟨gb87,0,none⟩ (.string ((rd_T46 y92 x59_2).f0))).setCell ⟨gb87,1,none⟩ (.slice A89_1 ((rd_T46 y92 x59_2).f1).length c89_1)) BK88;have n3_:=kz ((w42.setCell ⟨gb87,0,none⟩ (.string ((rd_T46 y92 x59_2).f0))).setCell ⟨gb87,1,none⟩ (.slice A89_1 ((rd_T46 y92 x59_2).f1).length c89_1)) BK86;have n4_:=kz ((w42.setCell ⟨gb87,0,none⟩ (.string ((rd_T46 y92 x59_2).f0))).setCell ⟨gb87,1,none⟩ (.slice A89_1 ((rd_T46 y92 x59_2).f1).length c89_1)) BK90;have n5_:Aside0 (((w42.setCell ⟨gb87,0,none⟩ (.string ((rd_T46 y92 x59_2).f0))).setCell ⟨gb87,1,none⟩ (.slice A89_1 ((rd_T46 y92 x59_2).f1).length c89_1)).heap[gb87]? = some (.cells #[.string ((rd_T46 y92 x59_2).f0),.slice A89_1 ((rd_T46 y92 x59_2).f1).length c89_1] 46 (0,0))):=⟨kp BK87⟩;have n6_:Aside0 (Below w.heap.size w ((w42.setCell ⟨gb87,0,none⟩ (.string ((rd_T46 y92 x59_2).f0))).setCell ⟨gb87,1,none⟩ (.slice A89_1 ((rd_T46 y92 x59_2).f1).length c89_1))):=⟨bs HB⟩;(try clear HO_606004);(try clear HO_606005);(try clear BK88);(try clear BK86);(try clear BK90);(try clear BK87);(try clear HB)
        generalize ((w42.setCell ⟨gb87,0,none⟩ (.string ((rd_T46 y92 x59_2).f0))).setCell ⟨gb87,1,none⟩ (.slice A89_1 ((rd_T46 y92 x59_2).f1).length c89_1))=w47 at n0_ n1_ n2_ n3_ n4_ n5_ n6_ ⊢
        have HO_606004:=n0_;have HO_606005:=n1_;have BK88:=n2_;have BK86:=n3_;have BK90:=n4_;have BK87:=n5_;have HB:=n6_;clear n0_ n1_ n2_ n3_ n4_ n5_ n6_;replace HO_606004:=am (Kd.R_drew HO_606004.out);replace HO_606005:=am (Kd.R_drew HO_606005.out);replace BK88:=am (blk_drew BK88.out);replace BK86:=am (blk_drew BK86.out);replace BK90:=am (blk_drew BK90.out);replace BK87:=am (blk_drew BK87.out);replace HB:=am (below_drew1 HB.out);have p99:0≤(0:Int):=(by omega);have q99:0<(((rd_T46 y92 x59_2).f1).length:Int):=oa;obtain ⟨ad99,A99_0,c99_0,e99,hx99_0,hl99_0,hi99_0⟩:=at_T77 HR89_1.out 0 p99 q99;have hw99_0:=hx99_0
        (try rw [show ((0:Int)).toNat=0 from rfl] at hw99_0)
        (try rw [show 0 * 1=0 from rfl] at hw99_0)
        (try rw [Addr.add_zero'] at hw99_0)
        cases e99
        have qi99:(0<((rd_T46 y92 x59_2).f1).length)=True:=eq_true (by omega)
        (try rw [show ((0:Int)).toNat=0 from rfl] at hx99_0)
        (try rw [Addr.add_zero'] at hx99_0)
        replace hx99_0:=cb HB hx99_0;have HR99_0:=am hi99_0;have HC99_0:=am hl99_0;clear hi99_0 hl99_0;replace p99:=eq_true p99;replace q99:=eq_true q99;have p624:0≤(0:Int):=(by omega);have q624:0<(((rd_T77 ((rd_T46 y92 x59_2).f1) 0).f0).length:Int):=oa;obtain ⟨ad624,e624,hx624_0⟩:=Kd.at_string HR99_0.out 0 p624 q624;have hw624_0:=hx624_0
        (try rw [show ((0:Int)).toNat=0 from rfl] at hw624_0)
        (try rw [show 0 * 1=0 from rfl] at hw624_0)
        (try rw [Addr.add_zero'] at hw624_0)
        cases e624
        have qi624:(0<((rd_T77 ((rd_T46 y92 x59_2).f1) 0).f0).length)=True:=eq_true (by omega)
        (try rw [show ((0:Int)).toNat=0 from rfl] at hx624_0)
        (try rw [Addr.add_zero'] at hx624_0)
        replace hx624_0:=cb HB hx624_0;replace p624:=eq_true p624;replace q624:=eq_true q624;refine stad 13 [12] (hb6a BK86 (hb2a BK87 (hca (cb HB hw99_0) (hc (cb HB hw624_0))))) (fun hHeld=>?_);refine with_tabW impl_paperOf.tab11 impl_paperOf.bits11 (fun HT_ HW_=>?_)
        generalize w47.drew=w48 at HO_606004 HO_606005 BK88 BK86 BK90 BK87 HB HR99_0 hx99_0 hx624_0 hHeld ⊢
        refine pz1 0 ?_;refine pz1 2 ?_;refine ta 1 ?_;refine ta 3 ?_;refine pz2 4 ?_;refine ta 6 ?_;refine pz1 7 ?_;refine ta 8 ?_;refine oA 9 75 HT_ (fun K hK=>?_);refine value_ (w1:=?_) (v:=?_) (by rfl) rfl ?_ ?_
        rotate_left 2
        ·go_simp
         constructor
         ·rfl
         ·rfl
        refine hK.out _ _ ⟨(blk_cell (blk_alloc BK86.out _) 0).trans rfl,(blk_cell (blk_alloc BK86.out _) 1).trans rfl,(blk_cell (blk_alloc BK86.out _) 2).trans rfl,(blk_cell (blk_alloc BK86.out _) 3).trans rfl,(blk_cell (blk_alloc BK86.out _) 4).trans rfl,(blk_cell (blk_alloc BK86.out _) 5).trans rfl,(blk_cell (blk_alloc BK87.out _) 0).trans rfl,(blk_cell (blk_alloc BK87.out _) 1).trans rfl,(World.cell?_alloc_lt _ _ _ (World.block_lt_of_cell? _ _ (((cb HB hw99_0).trans rfl)))).trans (((cb HB hw99_0).trans rfl)),(World.cell?_alloc_lt _ _ _ (World.block_lt_of_cell? _ _ (((cb HB hw624_0).trans rfl)))).trans (((cb HB hw624_0).trans rfl))⟩ (fun hHeld=>?_);clear hK K;refine nA 75 ?_;refine oA 10 76 HT_ (fun K hK=>?_);refine Kd.R_append_step Kd.string (w0:=w) w.heap.size (by rfl) (.tmp 67) (.tmp 75) 22 9 (.string ⟨#[]⟩) 16 rfl Tryz.underlying22 info9 rfl (by decide) (by omega) u606004 x106_2 (rdOf ByteArray.empty ((rd_T77 ((rd_T46 y92 x59_2).f1) 0).f0) 0) [.string (rdOf ByteArray.empty ((rd_T77 ((rd_T46 y92 x59_2).f1) 0).f0) 0)] (fun _=>True) (fun _=>False) rfl rfl ?aP (fun _ hk=>hk.elim) ?aF ?aO ?aB ?aS ?aL ?_
        (case aP=>exact rfl)
        (case aB=>exact (bs HB))
        (case aF=>exact (fun _ _=>trivial))
        (case aO=>exact (rs HO_606004))
        (case aS=>exact (below_size (bs HB)))
        (case aL=>have:=LMc41.out;omega)
        intro v626 w49 ho hb hg hat
        rw [← Ny625.out] at ho
        have n0_:=am (Kd.R_over' (rs HO_606005) (Kd.R_typed (rs HO_606004)) (by decide) hg);have n1_:=am (blk_grown (ks BK88) hg (Kd.R_ne HO_606004.out BK88.out (by decide)));have n2_:=am (blk_grown (ks BK86) hg (Kd.R_ne HO_606004.out BK86.out (by decide)));have n3_:=am (blk_grown (ks BK90) hg (Kd.R_ne HO_606004.out BK90.out (by decide)));have n4_:=am (blk_grown (ks BK87) hg (Kd.R_ne HO_606004.out BK87.out (by decide)));have n5_:=am (hb);have n6_:=am (ho);clear HO_606005;clear BK88;clear BK86;clear BK90;clear BK87;clear HB;clear HO_606004;have HO_606005:=n0_;have BK88:=n1_;have BK86:=n2_;have BK90:=n3_;have BK87:=n4_;have HB:=n5_;have HO627:=n6_;clear n0_ n1_ n2_ n3_ n4_ n5_ n6_;clear ho hb hg hat;obtain ⟨Ao50,co50,eo50⟩:=Kd.R_slice HO627.out
        (first|subst eo50|(injection eo50 with f1_ f2_ f3_;have f4_:=f1_.symm;have f5_:=f3_.symm;clear f1_ f2_ f3_;subst f4_;subst f5_))
        refine hK.out _ _ (hb6a BK86 (hb2a BK87 (hca (cb HB hw99_0) (hc (cb HB hw624_0))))).out (fun hHeld=>?_);clear hK K;refine nA 76 ?_;refine pz1 11 ?_;refine last_ (i:=12) (N:=none) #[true,true,true,true,true,true,true,true,true,true,true,true,true] rfl rfl (one_of HT_.out (by kernel_rfl)) (by decide) (fun K hK=>?_);have hs51:w49.cell? ⟨gb86,4,none⟩=some (u606004):=(blk_cell BK86.out 4).trans rfl;have hfs51:=blk_frozen BK86.out 4;have hns51_0:=NB88_86.out;have hns51_2:=NB90_86.out;have hns51_3:=NB87_86.out;have hms51_0:=NB86_88.out;have hms51_2:=NB86_90.out;have hms51_3:=NB86_87.out;refine skip_ (w1:=?_) (by rfl) rfl ?_ ?_
        rotate_left
        ·go_simp
         rfl
        refine hK.out _ _ ?_;clear hK K;refine done_ (done_of HT_.out (by kernel_rfl)) ?_
        try go_wp2
        go_roundg k2
        case measure=>have:=HJ10.out;have:=HK2.out;omega
        case rel=>exact ⟨(wrap64 (x59_2+1)),(y625),(x107_2),(.slice Ao50 y625.length co50),(u606005),fg,H',⟨by have:=HJ10.out;have:=HK2.out;omega⟩,⟨Kd.R_mono (rf (Kd.R_types HO627.out BK86.out (by decide))) (fun _ hk=>trivial)⟩,⟨Kd.R_mono (rf (Kd.R_types HO_606005.out BK86.out (by decide))) (fun _ hk=>trivial)⟩,⟨ks BK88⟩,⟨kp BK86⟩,⟨ks BK90⟩,⟨bs HB⟩⟩
       ·intro c38 c38b0 c38b1 H;replace H:=bo H;obtain ⟨⟨t628,t629,t630,t631,t632⟩,A52,H⟩:=H;(try dsimp only at H)
        revert H;refine ip1 ?_
        intro c53 H;have LMc53:=am c53;clear c53;obtain ⟨y633,hy633⟩:∃ y_:List (S63),y_=(x107_2++[(⟨t628,t629,t630,t631,t632⟩:S63)]):=⟨_,rfl⟩
        replace H:(impl_paperOf.l0 k2 a0 y92 (y92.length:Int) (wrap64 (x59_2+1)) a0 (rdOf ByteArray.empty ((rd_T77 ((rd_T46 l1 0).f1) 0).f0) 0) x104_10 t615 x106_2 y633)=some (r1,r2,r3,r4,r5,r6):=ye hy633 H
        have Ny633:=am hy633;clear hy633;have H':=am H;clear H;have p89:0≤(x59_2:Int):=oa;have q89:x59_2<(y92.length:Int):=oa;obtain ⟨ad89,A89_1,c89_1,e89,hx89_0,hx89_1,hl89_1,hi89_1⟩:=at_T46 HR620.out x59_2 p89 q89
        cases e89
        replace hx89_0:=cb HB hx89_0;replace hx89_1:=cb HB hx89_1;have HR89_1:=am hi89_1;have HC89_1:=am hl89_1;clear hi89_1 hl89_1;replace p89:=eq_true p89;replace q89:=eq_true q89
        try go_wp2_with (first|((with_reducible refine gate_dst (N:=10) rfl ?_);refine bx 10 (cs:=#[.string (⟨#[]⟩:ByteArray),.slice none 0 0]) (t:=46) ?_;intro gb87 hg w54 hbox hb;replace HO_606004:=am (Kd.R_below (rs HO_606004) hb);replace HO_606005:=am (Kd.R_below (rs HO_606005) hb);have BK87:=am (hbox);have GW87:=gw hg HB;replace HB:=bq HB hb;have NB88_87:=na hg BK88;have NB87_88:=nc hg BK88;replace BK88:=bb BK88 hb;have NB86_87:=na hg BK86;have NB87_86:=nc hg BK86;replace BK86:=bb BK86 hb;have NB90_87:=na hg BK90;have NB87_90:=nc hg BK90;replace BK90:=bb BK90 hb;clear hb hbox hg;have hnb55:=NB87_88.out;have hnc55:=NB88_87.out;have hnb56:=NB87_86.out;have hnc56:=NB86_87.out;have hnb57:=NB87_90.out;have hnc57:=NB90_87.out;have hcz58:=cf2 BK87))
        have n0_:Aside0 (Kd.R Kd.string 9 ((w54.setCell ⟨gb87,0,none⟩ (.string ((rd_T46 y92 x59_2).f0))).setCell ⟨gb87,1,none⟩ (.slice A89_1 ((rd_T46 y92 x59_2).f1).length c89_1)) w.heap.size (fun _=>True) u606004 x106_2):=⟨Kd.R_mono (rf (Kd.R_types HO_606004.out BK87.out (by decide))) (fun _ hk=>trivial)⟩;have n1_:Aside0 (Kd.R k63 63 ((w54.setCell ⟨gb87,0,none⟩ (.string ((rd_T46 y92 x59_2).f0))).setCell ⟨gb87,1,none⟩ (.slice A89_1 ((rd_T46 y92 x59_2).f1).length c89_1)) w.heap.size (fun _=>True) u606005 x107_2):=⟨Kd.R_mono (rf (Kd.R_types HO_606005.out BK87.out (by decide))) (fun _ hk=>trivial)⟩;have n2_:=kz ((w54.setCell ⟨gb87,0,none⟩ (.string ((rd_T46 y92 x59_2).f0))).setCell ⟨gb87,1,none⟩ (.slice A89_1 ((rd_T46 y92 x59_2).f1).length c89_1)) BK88;have n3_:=kz ((w54.setCell ⟨gb87,0,none⟩ (.string ((rd_T46 y92 x59_2).f0))).setCell ⟨gb87,1,none⟩ (.slice A89_1 ((rd_T46 y92 x59_2).f1).length c89_1)) BK86;have n4_:=kz ((w54.setCell ⟨gb87,0,none⟩ (.string ((rd_T46 y92 x59_2).f0))).setCell ⟨gb87,1,none⟩ (.slice A89_1 ((rd_T46 y92 x59_2).f1).length c89_1)) BK90;have n5_:Aside0 (((w54.setCell ⟨gb87,0,none⟩ (.string ((rd_T46 y92 x59_2).f0))).setCell ⟨gb87,1,none⟩ (.slice A89_1 ((rd_T46 y92 x59_2).f1).length c89_1)).heap[gb87]? = some (.cells #[.string ((rd_T46 y92 x59_2).f0),.slice A89_1 ((rd_T46 y92 x59_2).f1).length c89_1] 46 (0,0))):=⟨kp BK87⟩;have n6_:Aside0 (Below w.heap.size w ((w54.setCell ⟨gb87,0,none⟩ (.string ((rd_T46 y92 x59_2).f0))).setCell ⟨gb87,1,none⟩ (.slice A89_1 ((rd_T46 y92 x59_2).f1).length c89_1))):=⟨bs HB⟩;(try clear HO_606004);(try clear HO_606005);(try clear BK88);(try clear BK86);(try clear BK90);(try clear BK87);(try clear HB)
        generalize ((w54.setCell ⟨gb87,0,none⟩ (.string ((rd_T46 y92 x59_2).f0))).setCell ⟨gb87,1,none⟩ (.slice A89_1 ((rd_T46 y92 x59_2).f1).length c89_1))=w59 at n0_ n1_ n2_ n3_ n4_ n5_ n6_ ⊢
        have HO_606004:=n0_;have HO_606005:=n1_;have BK88:=n2_;have BK86:=n3_;have BK90:=n4_;have BK87:=n5_;have HB:=n6_;clear n0_ n1_ n2_ n3_ n4_ n5_ n6_;replace HO_606004:=am (Kd.R_drew HO_606004.out);replace HO_606005:=am (Kd.R_drew HO_606005.out);replace BK88:=am (blk_drew BK88.out);replace BK86:=am (blk_drew BK86.out);replace BK90:=am (blk_drew BK90.out);replace BK87:=am (blk_drew BK87.out);replace HB:=am (below_drew1 HB.out);refine stad 9 [8] (hb6a BK86 (hb2 BK87)) (fun hHeld=>?_);refine with_tabW impl_paperOf.tab12 impl_paperOf.bits12 (fun HT_ HW_=>?_)
        generalize w59.drew=w60 at HO_606004 HO_606005 BK88 BK86 BK90 BK87 HB hHeld ⊢
        refine pz1 0 ?_;refine pz1 2 ?_;refine ta 1 ?_;refine ta 3 ?_;refine oA 4 82 HT_ (fun K hK=>?_);refine gA Tryz.func67 #[.int .i64 a0,.agg #[.string ((rd_T46 y92 x59_2).f0),.slice A89_1 ((rd_T46 y92 x59_2).f1).length c89_1]] ?_;(with_reducible refine (impl_lineOf.calls k2 a0 ((rd_T46 y92 x59_2).f0) _ _ ((rd_T46 y92 x59_2).f1) t628 t629 t630 t631 t632 _ ?side1 ?side2 (tbP HTP (bs HB)) A52.out).mono ?_)
        (case side1=>exact sd (Kd.C_below HR89_1.out HB.out))
        (case side2=>exact HC89_1.out)
        rintro e w61 ⟨rfl,hb⟩;refine ⟨_,rfl,?_⟩;replace HO_606004:=am (Kd.R_below (rs HO_606004) hb);replace HO_606005:=am (Kd.R_below (rs HO_606005) hb);replace BK88:=bb BK88 hb;replace BK86:=bb BK86 hb;replace BK90:=bb BK90 hb;replace BK87:=bb BK87 hb;replace HB:=bq HB hb;(try clear hb);(try clear hb2);(try clear hk);(try clear hi);refine hK.out _ _ (hb6a BK86 (hb2 BK87)).out (fun hHeld=>?_);clear hK K;refine nA 82 ?_;refine oA 5 83 HT_ (fun K hK=>?_);refine value_ (w1:=?_) (v:=?_) (by rfl) rfl ?_ ?_
        rotate_left 2
        ·go_simp
         constructor
         ·rfl
         ·rfl
        refine hK.out _ _ ⟨(blk_cell (blk_alloc BK86.out _) 0).trans rfl,(blk_cell (blk_alloc BK86.out _) 1).trans rfl,(blk_cell (blk_alloc BK86.out _) 2).trans rfl,(blk_cell (blk_alloc BK86.out _) 3).trans rfl,(blk_cell (blk_alloc BK86.out _) 4).trans rfl,(blk_cell (blk_alloc BK86.out _) 5).trans rfl,(blk_cell (blk_alloc BK87.out _) 0).trans rfl,(blk_cell (blk_alloc BK87.out _) 1).trans rfl⟩ (fun hHeld=>?_);clear hK K;refine nA 83 ?_;refine oA 6 84 HT_ (fun K hK=>?_);refine Kd.R_append_step k63 (w0:=w) w.heap.size (by rfl) (.tmp 79) (.tmp 83) 29 63 (.agg #[(.int .i64 0),(.string ⟨#[]⟩),(.int .i64 0),(.int .i64 0),(.string ⟨#[]⟩)]) 56 rfl Tryz.underlying29 info63 rfl (by decide) (by omega) u606005 x107_2 (⟨t628,t629,t630,t631,t632⟩:S63) [.int .i64 t628,.string t629,.int .i64 t630,.int .i64 t631,.string t632] (fun _=>True) (fun _=>False) rfl rfl ?aP (fun _ hk=>hk.elim) ?aF ?aO ?aB ?aS ?aL ?_
        (case aP=>exact k63_mkM _ _ _ (⟨t628,t629,t630,t631,t632⟩:S63))
        (case aB=>exact (bs HB))
        (case aF=>exact (fun _ _=>trivial))
        (case aO=>exact (rs HO_606005))
        (case aS=>exact (below_size (bs HB)))
        (case aL=>have:=LMc53.out;omega)
        intro v634 w62 ho hb hg hat
        rw [← Ny633.out] at ho
        have n0_:=am (Kd.R_over' (rs HO_606004) (Kd.R_typed (rs HO_606005)) (by decide) hg);have n1_:=am (blk_grown (ks BK88) hg (Kd.R_ne HO_606005.out BK88.out (by decide)));have n2_:=am (blk_grown (ks BK86) hg (Kd.R_ne HO_606005.out BK86.out (by decide)));have n3_:=am (blk_grown (ks BK90) hg (Kd.R_ne HO_606005.out BK90.out (by decide)));have n4_:=am (blk_grown (ks BK87) hg (Kd.R_ne HO_606005.out BK87.out (by decide)));have n5_:=am (hb);have n6_:=am (ho);clear HO_606004;clear BK88;clear BK86;clear BK90;clear BK87;clear HB;clear HO_606005;have HO_606004:=n0_;have BK88:=n1_;have BK86:=n2_;have BK90:=n3_;have BK87:=n4_;have HB:=n5_;have HO635:=n6_;clear n0_ n1_ n2_ n3_ n4_ n5_ n6_;clear ho hb hg hat;obtain ⟨Ao63,co63,eo63⟩:=Kd.R_slice HO635.out
        (first|subst eo63|(injection eo63 with f1_ f2_ f3_;have f4_:=f1_.symm;have f5_:=f3_.symm;clear f1_ f2_ f3_;subst f4_;subst f5_))
        refine hK.out _ _ (hb6a BK86 (hb2 BK87)).out (fun hHeld=>?_);clear hK K;refine nA 84 ?_;refine pz1 7 ?_;refine last_ (i:=8) (N:=none) #[true,true,true,true,true,true,true,true,true] rfl rfl (one_of HT_.out (by kernel_rfl)) (by decide) (fun K hK=>?_);have hs64:w62.cell? ⟨gb86,5,none⟩=some (u606005):=(blk_cell BK86.out 5).trans rfl;have hfs64:=blk_frozen BK86.out 5;have hns64_0:=NB88_86.out;have hns64_2:=NB90_86.out;have hns64_3:=NB87_86.out;have hms64_0:=NB86_88.out;have hms64_2:=NB86_90.out;have hms64_3:=NB86_87.out;refine skip_ (w1:=?_) (by rfl) rfl ?_ ?_
        rotate_left
        ·go_simp
         rfl
        refine hK.out _ _ ?_;clear hK K;refine done_ (done_of HT_.out (by kernel_rfl)) ?_
        try go_wp2
        go_roundg k2
        case measure=>have:=HJ10.out;have:=HK2.out;omega
        case rel=>exact ⟨(wrap64 (x59_2+1)),(x106_2),(y633),(u606004),(.slice Ao63 y633.length co63),fg,H',⟨by have:=HJ10.out;have:=HK2.out;omega⟩,⟨Kd.R_mono (rf (Kd.R_types HO_606004.out BK86.out (by decide))) (fun _ hk=>trivial)⟩,⟨Kd.R_mono (rf (Kd.R_types HO635.out BK86.out (by decide))) (fun _ hk=>trivial)⟩,⟨ks BK88⟩,⟨kp BK86⟩,⟨ks BK90⟩,⟨bs HB⟩⟩
      ·intro c35b0 H;replace H:=sj6 H;obtain ⟨rfl,rfl,rfl,rfl,rfl,rfl⟩:=H;have hnb65:=NB86_88.out;have hnc65:=NB88_86.out;have hnb66:=NB86_90.out;have hnc66:=NB90_86.out;have hcz67:=cf6 BK86;have hnb68:=NB88_90.out;have hnc68:=NB90_88.out;have hcz69:=cf6 BK88;obtain ⟨Ao70,co70,eo70⟩:=Kd.R_slice HO_606004.out;subst eo70;obtain ⟨Ao71,co71,eo71⟩:=Kd.R_slice HO_606005.out;subst eo71
       go_wp2
       refine bodyPost_ret (results_cell_row rfl _ _ gb88 31 #[.int .i64 a0,.string (rdOf ByteArray.empty ((rd_T77 ((rd_T46 l1 0).f1) 0).f0) 0),.string x104_10,.int .i64 t615,.slice Ao70 x106_2.length co70,.slice Ao71 x107_2.length co71] (0,0) _ rfl (kp BK88) Tryz.underlying31 rfl (by kernel_rfl)) rfl ?_
       exact ⟨_,_,by first|rfl|(simp [errW_none,errW_some] <;> rfl)|(simp only [← hji18];first|rfl|(simp [errW_none,errW_some] <;> rfl))|(simp [*,errW_none,errW_some] <;> rfl),Kd.R_mono (rf (Kd.R_types HO_606004.out BK88.out (by decide))) (fun _ hk=>trivial),Kd.R_mono (rf (Kd.R_types HO_606005.out BK88.out (by decide))) (fun _ hk=>trivial),bs HB⟩
 ·rw [if_neg c3] at H
  exact absurd H (by simp)
end Go.Proofs.YtaememmnhmebcaaGreatDoor.QB
namespace Go.Proofs.YtaememmnhmebcaaGreatDoor.QB
open Go.RowKit Go.Proofs.YtaememmnhmebcaaGreatDoorW.PrintWords Go.Proofs.YtaememmnhmebcaaGreatDoorW.PrintLast Go.Proofs.YtaememmnhmebcaaGreatDoorW.PrintMore
attribute [local go_sem] max2_int min2_int max_two min_two max_three min_three max_four min_four   -- for this text's walks alone
attribute [local go_sem high] eqA63
theorem slices_Equal_string_string.calls (k:Nat) (A0:Option Addr) (c0:Nat) (l0:List ByteArray) (A1:Option Addr) (c1:Nat) (l1:List ByteArray) (r:Bool) (w:World) (hr0:Kd.C Kd.string w A0 l0.length l0) (hc0:l0.length≤c0) (hr1:Kd.C Kd.string w A1 l1.length l1) (hc1:l1.length≤c1) (H:slices_Equal_string_string.f k l0 l1=some r) :
  Calls Tryz.prog 64 #[.slice A0 l0.length c0,.slice A1 l1.length c1] w fun e w'=>e=.returned (.bool r)∧Drawn0 w w':=by
 have HR0:=am hr0;have HC0:=am hc0;clear hr0 hc0;have HR1:=am hr1;have HC1:=am hc1;clear hr1 hc1;unfold slices_Equal_string_string.f at H
 revert H;refine ie2k ?_ ?_
 ·intro c3 c3b0 c3b1 H
  have c3b2:(l0.length == l1.length)=true:=by first|simpa using c3|(simp at c3 ⊢;omega)
  clear c3;have H':=am H;clear H
  go_in
  go_wp2
  repeat (go_quiet (fail);try go_wp2)
  go_loopg [13] k (fun kq v13 w'=>∃ (x13_1:Int),v13=.int .i64 x13_1∧Aside0 (slices_Equal_string_string.l0 kq l0 l1 (l0.length:Int) x13_1=some r)∧Aside0 (kq≤k)∧Drawn0 w w')
  case atStart=>exact ⟨(0),fg,H',⟨Nat.le_refl _⟩,by repeat (first|exact Drawn0.refl _|apply Drawn0.step)⟩
  case round =>
   clear H'
   try clear c1
   try clear c3
   try clear c3b0
   try clear c3b1
   try clear c3b2
   obtain ⟨x13_1,rfl,HA,HK1,⟨m1,rfl⟩⟩:=hrel
   cases gk with
   | zero=>exact absurd HA.out (by simp [slices_Equal_string_string.l0])
   | succ k1 =>
    have H:=HA.out;clear HA;simp only [slices_Equal_string_string.l0] at H
    revert H;refine id2 ?_ ?_
    ·intro c4b0 H
     revert H;refine id1 ?_
     intro c5b0 H
     revert H;refine id1 ?_
     intro c6b0 H
     revert H;refine id1 ?_
     intro c7b0 H
     revert H;refine ie2 ?_ ?_
     ·intro c8b0 c8b1 H;have H':=am H;clear H;have p9:0≤(x13_1:Int):=oa;have q9:x13_1<(l0.length:Int):=oa;obtain ⟨ad9,e9,hx9_0⟩:=Kd.at_string HR0.out x13_1 p9 q9
      cases e9
      replace p9:=eq_true p9;replace q9:=eq_true q9;have p10:0≤(x13_1:Int):=oa;have q10:x13_1<(l1.length:Int):=oa;obtain ⟨ad10,e10,hx10_0⟩:=Kd.at_string HR1.out x13_1 p10 q10
      cases e10
      replace p10:=eq_true p10;replace q10:=eq_true q10
      go_wp2
      repeat (go_quiet (fail);try go_wp2)
      go_roundg k1
      case measure=>have:=HK1.out;omega
      case rel=>exact ⟨(wrap64 (x13_1+1)),fg,H',⟨by have:=HK1.out;omega⟩,by repeat (first|exact Drawn0.refl _|apply Drawn0.step)⟩
     ·intro c8 c8b0 c8b1 H;obtain rfl:=si H;have p9:0≤(x13_1:Int):=oa;have q9:x13_1<(l0.length:Int):=oa;obtain ⟨ad9,e9,hx9_0⟩:=Kd.at_string HR0.out x13_1 p9 q9
      cases e9
      replace p9:=eq_true p9;replace q9:=eq_true q9;have p10:0≤(x13_1:Int):=oa;have q10:x13_1<(l1.length:Int):=oa;obtain ⟨ad10,e10,hx10_0⟩:=Kd.at_string HR1.out x13_1 p10 q10
      cases e10
      replace p10:=eq_true p10;replace q10:=eq_true q10
      go_wp2
      repeat (go_quiet (fail);try go_wp2)
      go_ret
      exact ⟨fg,dr⟩
    ·intro c4b0 H;obtain rfl:=si H
     go_wp2
     repeat (go_quiet (fail);try go_wp2)
     go_ret
     exact ⟨fg,dr⟩
 ·intro c3 c3b0 c3b1 H
  have c3b2:(l0.length == l1.length)=false:=by first|simpa using c3|(simp at c3 ⊢;omega)
  obtain rfl:=si H
  go_in
  go_wp2
  repeat (go_quiet (fail);try go_wp2)
  go_ret
  exact ⟨fg,dr⟩
theorem impl_Line.calls (k:Nat) (A0:Option Addr) (c0:Nat) (l0:List (S63)) (A1:Option Addr) (c1:Nat) (l1:List (S63)) (r:Bool) (w:World) (hr0:Kd.C k63 w A0 l0.length l0) (hc0:l0.length≤c0) (hr1:Kd.C k63 w A1 l1.length l1) (hc1:l1.length≤c1) (H:impl_Line.f k l0 l1=some r) :
  Calls Tryz.prog 65 #[.slice A0 l0.length c0,.slice A1 l1.length c1] w fun e w'=>e=.returned (.bool r)∧Drawn0 w w':=by
 have hu63:=Tryz.underlying63;have HR0:=am hr0;have HC0:=am hc0;clear hr0 hc0;have HR1:=am hr1;have HC1:=am hc1;clear hr1 hc1;unfold impl_Line.f at H
 revert H;refine ie2k ?_ ?_
 ·intro c3 c3b0 c3b1 H
  have c3b2:(l0.length == l1.length)=true:=by first|simpa using c3|(simp at c3 ⊢;omega)
  clear c3;have H':=am H;clear H
  go_in
  go_wp2
  repeat (go_quiet (fail);try go_wp2)
  go_loopg [13] k (fun kq v13 w'=>∃ (x13_1:Int),v13=.int .i64 x13_1∧Aside0 (impl_Line.l0 kq l0 l1 (l0.length:Int) x13_1=some r)∧Aside0 (kq≤k)∧Drawn0 w w')
  case atStart=>exact ⟨(0),fg,H',⟨Nat.le_refl _⟩,by repeat (first|exact Drawn0.refl _|apply Drawn0.step)⟩
  case round =>
   clear H'
   try clear c1
   try clear c3
   try clear c3b0
   try clear c3b1
   try clear c3b2
   obtain ⟨x13_1,rfl,HA,HK1,⟨m1,rfl⟩⟩:=hrel
   cases gk with
   | zero=>exact absurd HA.out (by simp [impl_Line.l0])
   | succ k1 =>
    have H:=HA.out;clear HA;simp only [impl_Line.l0] at H
    revert H;refine id2 ?_ ?_
    ·intro c4b0 H
     revert H;refine id1 ?_
     intro c5b0 H
     revert H;refine id1 ?_
     intro c6b0 H
     revert H;refine id1 ?_
     intro c7b0 H
     revert H;refine ip2 ?_ ?_
     ·intro c8 H;have c8b0:(!(((rd_T63 l0 x13_1).f0) == ((rd_T63 l1 x13_1).f0)) || (!((((rd_T63 l0 x13_1).f1).toList) == (((rd_T63 l1 x13_1).f1).toList)) || (!(((rd_T63 l0 x13_1).f2) == ((rd_T63 l1 x13_1).f2)) || (!(((rd_T63 l0 x13_1).f3) == ((rd_T63 l1 x13_1).f3)) || (!((((rd_T63 l0 x13_1).f4).toList) == (((rd_T63 l1 x13_1).f4).toList)))))))=true:=c8;clear c8;obtain rfl:=si H;have p9:0≤(x13_1:Int):=oa;have q9:x13_1<(l0.length:Int):=oa;obtain ⟨ad9,e9,hx9_0,hx9_1,hx9_2,hx9_3,hx9_4⟩:=at_T63 HR0.out x13_1 p9 q9
      cases e9
      replace p9:=eq_true p9;replace q9:=eq_true q9;have p10:0≤(x13_1:Int):=oa;have q10:x13_1<(l1.length:Int):=oa;obtain ⟨ad10,e10,hx10_0,hx10_1,hx10_2,hx10_3,hx10_4⟩:=at_T63 HR1.out x13_1 p10 q10
      cases e10
      replace p10:=eq_true p10;replace q10:=eq_true q10
      go_wp2
      repeat (go_quiet (fail);try go_wp2)
      go_ret
      exact ⟨fg,dr⟩
     ·intro c8 H
      have c8b0:(!(((rd_T63 l0 x13_1).f0) == ((rd_T63 l1 x13_1).f0)) || (!((((rd_T63 l0 x13_1).f1).toList) == (((rd_T63 l1 x13_1).f1).toList)) || (!(((rd_T63 l0 x13_1).f2) == ((rd_T63 l1 x13_1).f2)) || (!(((rd_T63 l0 x13_1).f3) == ((rd_T63 l1 x13_1).f3)) || (!((((rd_T63 l0 x13_1).f4).toList) == (((rd_T63 l1 x13_1).f4).toList)))))))=false:=by simpa using c8
      clear c8;have H':=am H;clear H;have p9:0≤(x13_1:Int):=oa;have q9:x13_1<(l0.length:Int):=oa;obtain ⟨ad9,e9,hx9_0,hx9_1,hx9_2,hx9_3,hx9_4⟩:=at_T63 HR0.out x13_1 p9 q9
      cases e9
      replace p9:=eq_true p9;replace q9:=eq_true q9;have p10:0≤(x13_1:Int):=oa;have q10:x13_1<(l1.length:Int):=oa;obtain ⟨ad10,e10,hx10_0,hx10_1,hx10_2,hx10_3,hx10_4⟩:=at_T63 HR1.out x13_1 p10 q10
      cases e10
      replace p10:=eq_true p10;replace q10:=eq_true q10
      go_wp2
      repeat (go_quiet (fail);try go_wp2)
      go_roundg k1
      case measure=>have:=HK1.out;omega
      case rel=>exact ⟨(wrap64 (x13_1+1)),fg,H',⟨by have:=HK1.out;omega⟩,by repeat (first|exact Drawn0.refl _|apply Drawn0.step)⟩
    ·intro c4b0 H;obtain rfl:=si H
     go_wp2
     repeat (go_quiet (fail);try go_wp2)
     go_ret
     exact ⟨fg,dr⟩
 ·intro c3 c3b0 c3b1 H
  have c3b2:(l0.length == l1.length)=false:=by first|simpa using c3|(simp at c3 ⊢;omega)
  obtain rfl:=si H
  go_in
  go_wp2
  repeat (go_quiet (fail);try go_wp2)
  go_ret
  exact ⟨fg,dr⟩
end Go.Proofs.YtaememmnhmebcaaGreatDoor.QB
namespace Go.Proofs.YtaememmnhmebcaaGreatDoor.QB
open Go.RowKit Go.Proofs.YtaememmnhmebcaaGreatDoorW.PrintWords Go.Proofs.YtaememmnhmebcaaGreatDoorW.PrintLast Go.Proofs.YtaememmnhmebcaaGreatDoorW.PrintMore
attribute [local go_sem] max2_int min2_int max_two min_two max_three min_three max_four min_four   -- for this text's walks alone
theorem impl_same.calls (k:Nat) (a0_0:Int) (a0_1:ByteArray) (a0_2:ByteArray) (a0_3:Int) (A0_4:Option Addr) (c0_4:Nat) (l0_4:List ByteArray) (A0_5:Option Addr) (c0_5:Nat) (l0_5:List (S63)) (a1_0:Int) (a1_1:ByteArray) (a1_2:ByteArray) (a1_3:Int) (A1_4:Option Addr) (c1_4:Nat) (l1_4:List ByteArray) (A1_5:Option Addr) (c1_5:Nat) (l1_5:List (S63)) (r:Bool) (w:World) (hr0_4:Kd.C Kd.string w A0_4 l0_4.length l0_4) (hc0_4:l0_4.length≤c0_4) (hr0_5:Kd.C k63 w A0_5 l0_5.length l0_5) (hc0_5:l0_5.length≤c0_5) (hr1_4:Kd.C Kd.string w A1_4 l1_4.length l1_4) (hc1_4:l1_4.length≤c1_4) (hr1_5:Kd.C k63 w A1_5 l1_5.length l1_5) (hc1_5:l1_5.length≤c1_5) (H:impl_same.f k a0_0 a0_1 a0_2 a0_3 l0_4 l0_5 a1_0 a1_1 a1_2 a1_3 l1_4 l1_5=some r) :
  Calls Tryz.prog 40 #[.agg #[.int .i64 a0_0,.string a0_1,.string a0_2,.int .i64 a0_3,.slice A0_4 l0_4.length c0_4,.slice A0_5 l0_5.length c0_5],.agg #[.int .i64 a1_0,.string a1_1,.string a1_2,.int .i64 a1_3,.slice A1_4 l1_4.length c1_4,.slice A1_5 l1_5.length c1_5]] w fun e w'=>e=.returned (.bool r)∧Below w.heap.size w w':=by
 have hu31:=Tryz.underlying31;have HR0_4:=am hr0_4;have HC0_4:=am hc0_4;clear hr0_4 hc0_4;have HR0_5:=am hr0_5;have HC0_5:=am hc0_5;clear hr0_5 hc0_5;have HR1_4:=am hr1_4;have HC1_4:=am hc1_4;clear hr1_4 hc1_4;have HR1_5:=am hr1_5;have HC1_5:=am hc1_5;clear hr1_5 hc1_5;have HB:=am (Below.refl w.heap.size w);unfold impl_same.f at H
 revert H;refine ie2 ?_ ?_
 ·intro c3b0 c3b1 H
  revert H;refine ie2 ?_ ?_
  ·intro c4b0 c4b1 H
   revert H;refine ie2 ?_ ?_
   ·intro c5b0 c5b1 H
    revert H;refine ie2 ?_ ?_
    ·intro c6b0 c6b1 H;replace H:=bo H;obtain ⟨t39,A7,H⟩:=H
     go_in
     try go_wp2_with (first|((with_reducible refine gate_dst (N:=2) rfl ?_);refine bz 2 (cs:=#[.int .i64 a0_0,.string a0_1,.string a0_2,.int .i64 a0_3,.slice A0_4 l0_4.length c0_4,.slice A0_5 l0_5.length c0_5]) (t:=31) HB ?_;clear HB;intro gb13 hg w8 BK13 GW13 hb HB;clear hb hg)|((with_reducible refine gate_dst (N:=3) rfl ?_);refine bz 3 (cs:=#[.int .i64 a1_0,.string a1_1,.string a1_2,.int .i64 a1_3,.slice A1_4 l1_4.length c1_4,.slice A1_5 l1_5.length c1_5]) (t:=31) HB ?_;clear HB;intro gb38 hg w9 BK38 GW38 hb HB;have NB13_38:=na hg BK13;have NB38_13:=nc hg BK13;replace BK13:=bb BK13 hb;clear hb hg;have hnb10:=NB13_38.out;have hnc10:=NB38_13.out;have hcz11:=cf6 BK13;have hcz12:=cf6 BK38))
     go_at_call 64;(with_reducible refine (slices_Equal_string_string.calls k _ _ l0_4 _ _ l1_4 t39 _ (Kd.C_below HR0_4.out (bs HB)) HC0_4.out (Kd.C_below HR1_4.out (bs HB)) HC1_4.out A7.out).mono ?_);rintro e w' ⟨rfl,⟨nd,rfl⟩⟩
     obtain rfl|rfl:=bt t39
     ·replace H:=itT H;replace H:=bo H;obtain ⟨t41,A14,H⟩:=H;obtain rfl:=si H;have hnb15:=NB13_38.out;have hnc15:=NB38_13.out;have hcz16:=cf6 BK13;have hcz17:=cf6 BK38
      go_wp2_with (first|(go_at_call 65;(with_reducible refine (impl_Line.calls k _ _ l0_5 _ _ l1_5 t41 _ ?side1 HC0_5.out ?side3 HC1_5.out A14.out).mono ?_);(case side1=>repeat (first|exact (Kd.C_below HR0_5.out (bs HB))|(with_reducible refine Kd.C_alloc ?_ _)|(with_reducible refine Kd.C_drewN ?_ _)|(with_reducible refine Kd.C_drew ?_)));(case side3=>repeat (first|exact (Kd.C_below HR1_5.out (bs HB))|(with_reducible refine Kd.C_alloc ?_ _)|(with_reducible refine Kd.C_drewN ?_ _)|(with_reducible refine Kd.C_drew ?_)));rintro e w' ⟨rfl,⟨nd,rfl⟩⟩))
      go_ret
      exact ⟨ff,bs HB⟩
     ·replace H:=itF H;obtain rfl:=si H
      go_wp2
      go_ret
      exact ⟨ff,bs HB⟩
    ·intro c6 c6b0 c6b1 H;obtain rfl:=si H
     go_in
     go_wp2_with (first|((with_reducible refine gate_dst (N:=2) rfl ?_);refine bz 2 (cs:=#[.int .i64 a0_0,.string a0_1,.string a0_2,.int .i64 a0_3,.slice A0_4 l0_4.length c0_4,.slice A0_5 l0_5.length c0_5]) (t:=31) HB ?_;clear HB;intro gb13 hg w18 BK13 GW13 hb HB;clear hb hg)|((with_reducible refine gate_dst (N:=3) rfl ?_);refine bz 3 (cs:=#[.int .i64 a1_0,.string a1_1,.string a1_2,.int .i64 a1_3,.slice A1_4 l1_4.length c1_4,.slice A1_5 l1_5.length c1_5]) (t:=31) HB ?_;clear HB;intro gb38 hg w19 BK38 GW38 hb HB;have NB13_38:=na hg BK13;have NB38_13:=nc hg BK13;replace BK13:=bb BK13 hb;clear hb hg;have hnb20:=NB13_38.out;have hnc20:=NB38_13.out;have hcz21:=cf6 BK13;have hcz22:=cf6 BK38))
     go_ret
     exact ⟨ff,bs HB⟩
   ·intro c5 c5b0 c5b1 H;obtain rfl:=si H
    go_in
    go_wp2_with (first|((with_reducible refine gate_dst (N:=2) rfl ?_);refine bz 2 (cs:=#[.int .i64 a0_0,.string a0_1,.string a0_2,.int .i64 a0_3,.slice A0_4 l0_4.length c0_4,.slice A0_5 l0_5.length c0_5]) (t:=31) HB ?_;clear HB;intro gb13 hg w23 BK13 GW13 hb HB;clear hb hg)|((with_reducible refine gate_dst (N:=3) rfl ?_);refine bz 3 (cs:=#[.int .i64 a1_0,.string a1_1,.string a1_2,.int .i64 a1_3,.slice A1_4 l1_4.length c1_4,.slice A1_5 l1_5.length c1_5]) (t:=31) HB ?_;clear HB;intro gb38 hg w24 BK38 GW38 hb HB;have NB13_38:=na hg BK13;have NB38_13:=nc hg BK13;replace BK13:=bb BK13 hb;clear hb hg;have hnb25:=NB13_38.out;have hnc25:=NB38_13.out;have hcz26:=cf6 BK13;have hcz27:=cf6 BK38))
    go_ret
    exact ⟨ff,bs HB⟩
  ·intro c4 c4b0 c4b1 H;obtain rfl:=si H
   go_in
   go_wp2_with (first|((with_reducible refine gate_dst (N:=2) rfl ?_);refine bz 2 (cs:=#[.int .i64 a0_0,.string a0_1,.string a0_2,.int .i64 a0_3,.slice A0_4 l0_4.length c0_4,.slice A0_5 l0_5.length c0_5]) (t:=31) HB ?_;clear HB;intro gb13 hg w28 BK13 GW13 hb HB;clear hb hg)|((with_reducible refine gate_dst (N:=3) rfl ?_);refine bz 3 (cs:=#[.int .i64 a1_0,.string a1_1,.string a1_2,.int .i64 a1_3,.slice A1_4 l1_4.length c1_4,.slice A1_5 l1_5.length c1_5]) (t:=31) HB ?_;clear HB;intro gb38 hg w29 BK38 GW38 hb HB;have NB13_38:=na hg BK13;have NB38_13:=nc hg BK13;replace BK13:=bb BK13 hb;clear hb hg;have hnb30:=NB13_38.out;have hnc30:=NB38_13.out;have hcz31:=cf6 BK13;have hcz32:=cf6 BK38))
   go_ret
   exact ⟨ff,bs HB⟩
 ·intro c3 c3b0 c3b1 H;obtain rfl:=si H
  go_in
  go_wp2_with (first|((with_reducible refine gate_dst (N:=2) rfl ?_);refine bz 2 (cs:=#[.int .i64 a0_0,.string a0_1,.string a0_2,.int .i64 a0_3,.slice A0_4 l0_4.length c0_4,.slice A0_5 l0_5.length c0_5]) (t:=31) HB ?_;clear HB;intro gb13 hg w33 BK13 GW13 hb HB;clear hb hg)|((with_reducible refine gate_dst (N:=3) rfl ?_);refine bz 3 (cs:=#[.int .i64 a1_0,.string a1_1,.string a1_2,.int .i64 a1_3,.slice A1_4 l1_4.length c1_4,.slice A1_5 l1_5.length c1_5]) (t:=31) HB ?_;clear HB;intro gb38 hg w34 BK38 GW38 hb HB;have NB13_38:=na hg BK13;have NB38_13:=nc hg BK13;replace BK13:=bb BK13 hb;clear hb hg;have hnb35:=NB13_38.out;have hnc35:=NB38_13.out;have hcz36:=cf6 BK13;have hcz37:=cf6 BK38))
  go_ret
  exact ⟨ff,bs HB⟩
theorem impl_counts.calls (a0:Int) (r:Bool) (w:World) (H:impl_counts.f a0=some r) :
  Calls Tryz.prog 68 #[.int .i64 a0] w fun e w'=>e=.returned (.bool r)∧Drawn0 w w':=by
 unfold impl_counts.f at H;replace H:=bo H;obtain ⟨t3,A2,H⟩:=H;obtain rfl:=si H
 go_in
 go_wp2_with (first|((first|((with_reducible refine gate_callee (f:=38) rfl ?_);refine goesL_ (some 4) rfl rfl Tryz.func38 (by kernel_rfl) rfl #[.int .i64 a0,.int .i64 1,.int .i64 4] rfl (by (try simp only [List.map_toArray,List.map_cons,List.map_nil]);first|done|rfl|(simp only [List.length_drop,List.length_take];rfl)) ?_;(with_reducible refine (impl_within.calls a0 1 4 t3 _ A2.out).mono ?_);rintro e w' ⟨rfl,⟨nd,rfl⟩⟩;refine ⟨_,rfl,?_⟩)|(go_at_call 38;(with_reducible refine (impl_within.calls a0 1 4 t3 _ A2.out).mono ?_);rintro e w' ⟨rfl,⟨nd,rfl⟩⟩))))
 go_ret
 exact ⟨fg,dr⟩
theorem impl_namesItems.calls (a0:Int) (r:Bool) (w:World) (H:impl_namesItems.f a0=some r) :
  Calls Tryz.prog 69 #[.int .i64 a0] w fun e w'=>e=.returned (.bool r)∧Drawn0 w w':=by
 unfold impl_namesItems.f at H
 revert H;refine ie2 ?_ ?_
 ·intro c2b0 c2b1 H;obtain rfl:=si H
  go_in
  go_wp2
  go_ret
  exact ⟨fg,dr⟩
 ·intro c2 c2b0 c2b1 H
  revert H;refine ie2 ?_ ?_
  ·intro c3b0 c3b1 H;obtain rfl:=si H
   go_in
   go_wp2
   go_ret
   exact ⟨fg,dr⟩
  ·intro c3 c3b0 c3b1 H;obtain rfl:=si H
   go_in
   go_wp2
   go_ret
   exact ⟨fg,dr⟩
end Go.Proofs.YtaememmnhmebcaaGreatDoor.QB
