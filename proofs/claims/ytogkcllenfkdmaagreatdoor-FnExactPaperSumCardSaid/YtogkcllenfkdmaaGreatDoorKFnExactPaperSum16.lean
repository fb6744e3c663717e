-- Merged by a program of this session (wip/tool/pack.py) out of its own texts for this claim.
import Derived.Test.YtogkcllenfkdmaaGreatDoorKFnExactPaperSum0
import Derived.Test.YtogkcllenfkdmaaGreatDoorKFnExactPaperSum1
import Derived.Test.YtogkcllenfkdmaaGreatDoorKFnExactPaperSum2
import Derived.Test.YtogkcllenfkdmaaGreatDoorKFnExactPaperSum3
import Derived.Test.YtogkcllenfkdmaaGreatDoorKFnExactPaperSum4
import Derived.Test.YtogkcllenfkdmaaGreatDoorKFnExactPaperSum5
import Derived.Test.YtogkcllenfkdmaaGreatDoorKFnExactPaperSum6
import Derived.Test.YtogkcllenfkdmaaGreatDoorKFnExactPaperSum7
import Derived.Test.YtogkcllenfkdmaaGreatDoorKFnExactPaperSum9
import Derived.Test.YtogkcllenfkdmaaGreatDoorKFnExactPaperSum11
import Derived.Test.YtogkcllenfkdmaaGreatDoorKFnExactPaperSum12
import Derived.Test.YtogkcllenfkdmaaGreatDoorKFnExactPaperSum14
import Derived.Test.YtogkcllenfkdmaaGreatDoorKFnExactPaperSum15
namespace Go.Proofs.YtogkcllenfkdmaaGreatDoor.QP
open Go.RowKit Go.Proofs.YtogkcllenfkdmaaGreatDoorW.PrintWords Go.Proofs.YtogkcllenfkdmaaGreatDoorW.PrintLast Go.Proofs.YtogkcllenfkdmaaGreatDoorW.PrintMore
attribute [local go_sem] max2_int min2_int max_two min_two max_three min_three max_four min_four   -- for this text's walks alone
set_option linter.unusedVariables false
set_option linter.unusedSimpArgs false
def impl_paperOf.T4:Bool × List (List Nat × List Nat):=(true,[([],[]),([0],[0]),([1],[1]),([2],[2]),([],[]),([4],[4]),([5],[5]),([6],[6]),([7],[7]),([8],[8]),([3,9],[3,9]),([10],[10]),([],[]),([12,11,0,1,2,3,4,5,6,7,8,9,10,11,12],[11,12])])
def impl_paperOf.B4:List Nat:=[0,1,3,7,0,16,48,112,240,496,1023,2047,0,8191]
theorem impl_paperOf.tab4:rtab .any (opsOf Tryz.f43 4)=impl_paperOf.T4:=by kernel_rfl
theorem impl_paperOf.bits4:waitsOk impl_paperOf.T4.2 impl_paperOf.B4=true:=by kernel_rfl
def impl_paperOf.T11:Bool × List (List Nat × List Nat):=(true,[([],[]),([0],[0]),([],[]),([2],[2]),([3],[3]),([4],[4]),([5],[5]),([6],[6]),([7],[7]),([8],[8]),([1,9],[1,9]),([0,1,2,3,4,5,6,7,8,9,10],[]),([11,10,10,0,1,2,3,4,5,6,7,8,9,10],[10,11])])
def impl_paperOf.B11:List Nat:=[0,1,0,4,12,28,60,124,252,508,1023,2047,4095]
theorem impl_paperOf.tab11:rtab .any (opsOf Tryz.f43 11)=impl_paperOf.T11:=by kernel_rfl
theorem impl_paperOf.bits11:waitsOk impl_paperOf.T11.2 impl_paperOf.B11=true:=by kernel_rfl
def impl_paperOf.T12:Bool × List (List Nat × List Nat):=(true,[([],[]),([0],[0]),([],[]),([],[]),([2,3],[2,3]),([4],[4]),([1,5,4],[1,5]),([0,1,2,3,4,5,6],[]),([7,6,6,0,1,2,3,4,5,6],[6,7])])
def impl_paperOf.B12:List Nat:=[0,1,0,0,12,28,63,127,255]
theorem impl_paperOf.tab12:rtab .any (opsOf Tryz.f43 12)=impl_paperOf.T12:=by kernel_rfl
theorem impl_paperOf.bits12:waitsOk impl_paperOf.T12.2 impl_paperOf.B12=true:=by kernel_rfl
set_option maxHeartbeats 8000000 in
set_option maxRecDepth 100000 in
theorem impl_paperOf.calls (k:Nat) (a0:Int) (A1:Option Addr) (c1:Nat) (l1:List (S62)) (r1:Int) (r2:ByteArray) (r3:ByteArray) (r4:Int) (r5:List ByteArray) (r6:List (S71)) (w:World) (hr1:Kd.C k62 w A1 l1.length l1) (hc1:l1.length≤c1) (hTP:TbP w) (H:impl_paperOf.f k a0 l1=some (r1,r2,r3,r4,r5,r6)) :
  Calls Tryz.prog 43 #[.int .i64 a0,.slice A1 l1.length c1] w fun e w'=>∃ v4_ v5_:Value,e=.returned (.agg #[.int .i64 r1,.string r2,.string r3,.int .i64 r4,v4_,v5_])∧Kd.R Kd.string 9 w' w.heap.size (fun _=>True) v4_ r5∧Kd.R k71 71 w' w.heap.size (fun _=>True) v5_ r6∧Below w.heap.size w w':=by
 have HTP:=am hTP;clear hTP
 have hu30:=Tryz.underlying30;have hu103:=Tryz.underlying103;have hu62:=Tryz.underlying62;have HR1:=am hr1;have HC1:=am hc1;clear hr1 hc1;have HB:=am (Below.refl w.heap.size w);unfold impl_paperOf.f at H
 by_cases c3:0<(l1.length:Int)
 ·rw [if_pos c3] at H;have c3b0:decide (0<(l1.length:Int))=true:=decide_eq_true c3;have c3b1:decide (0<l1.length)=true:=decide_eq_true (by omega);clear c3
  revert H;refine id1k ?_
  intro c4 c4b0 H;have c4b1:decide (0<((rd_T62 l1 0).f1).length)=true:=decide_eq_true (by omega);clear c4
  revert H;refine id1k ?_
  intro c5 c5b0 H;have c5b1:decide (0<((rd_T103 ((rd_T62 l1 0).f1) 0).f0).length)=true:=decide_eq_true (by omega);clear c5;replace H:=bo H;obtain ⟨t611,A6,H⟩:=H
  go_in
  try go_wp2_with (first|((with_reducible refine gate_dst (N:=4) rfl ?_);refine bx 4 (cs:=#[.int .i64 0,.string (⟨#[]⟩:ByteArray),.string (⟨#[]⟩:ByteArray),.int .i64 0,.slice none 0 0,.slice none 0 0]) (t:=30) ?_;intro gb606 hg w7 hbox hb;have BK606:=am (hbox);have GW606:=am ((gs hg (bs HB)));have GE606:=am ((gs hg (bs HB)));replace HB:=am (below_step (bs HB) hb);clear hb hbox hg;have p607:0≤(0:Int):=(by omega);have q607:0<(l1.length:Int):=oa;obtain ⟨ad607,A607_1,c607_1,e607,hx607_0,hx607_1,hl607_1,hi607_1⟩:=at_T62 HR1.out 0 p607 q607;cases e607;have qi607:(0<l1.length)=True:=eq_true (by omega);(try rw [show ((0:Int)).toNat=0 from rfl] at hx607_0);(try rw [show 0 * 2=0 from rfl] at hx607_0);(try rw [Addr.add_zero'] at hx607_0);(try rw [show ((0:Int)).toNat=0 from rfl] at hx607_1);(try rw [show 0 * 2=0 from rfl] at hx607_1);(try rw [Addr.add_zero'] at hx607_1);replace hx607_0:=cb HB hx607_0;replace hx607_1:=cb HB hx607_1;have HR607_1:=am hi607_1;have HC607_1:=am hl607_1;clear hi607_1 hl607_1;replace p607:=eq_true p607;replace q607:=eq_true q607;have p608:0≤(0:Int):=(by omega);have q608:0<(((rd_T62 l1 0).f1).length:Int):=oa;obtain ⟨ad608,A608_0,c608_0,e608,hx608_0,hl608_0,hi608_0⟩:=at_T103 HR607_1.out 0 p608 q608;cases e608;have qi608:(0<((rd_T62 l1 0).f1).length)=True:=eq_true (by omega);(try rw [show ((0:Int)).toNat=0 from rfl] at hx608_0);(try rw [Addr.add_zero'] at hx608_0);replace hx608_0:=cb HB hx608_0;have HR608_0:=am hi608_0;have HC608_0:=am hl608_0;clear hi608_0 hl608_0;replace p608:=eq_true p608;replace q608:=eq_true q608;have p609:0≤(0:Int):=(by omega);have q609:0<(((rd_T103 ((rd_T62 l1 0).f1) 0).f0).length:Int):=oa;obtain ⟨ad609,e609,hx609_0⟩:=Kd.at_string HR608_0.out 0 p609 q609;cases e609;have qi609:(0<((rd_T103 ((rd_T62 l1 0).f1) 0).f0).length)=True:=eq_true (by omega);(try rw [show ((0:Int)).toNat=0 from rfl] at hx609_0);(try rw [Addr.add_zero'] at hx609_0);replace hx609_0:=cb HB hx609_0;replace p609:=eq_true p609;replace q609:=eq_true q609)|((with_reducible refine gate_dst (N:=5) rfl ?_);refine bx 5 (cs:=#[.int .i64 0,.string (⟨#[]⟩:ByteArray),.string (⟨#[]⟩:ByteArray),.int .i64 0,.slice none 0 0,.slice none 0 0]) (t:=30) ?_;intro gb610 hg w8 hbox hb;have BK610:=am (hbox);have GW610:=am ((gs hg (bs HB)));have GE610:=am ((gs hg (bs HB)));replace HB:=am (below_step (bs HB) hb);have NB606_610:=am ((gn hg (ks BK606)));have NB610_606:=am ((gm hg (ks BK606)));replace BK606:=am (blk_below (ks BK606) hb);clear hb hbox hg;have hnb9:=NB610_606.out;have hnc9:=NB606_610.out;have hcz10:=cf6 BK610))
  go_at_call 81;(with_reducible refine (impl_hasTwo.calls a0 t611 _ A6.out).mono ?_);rintro e w' ⟨rfl,⟨nd,rfl⟩⟩;have HC11:=am H;clear H
  go_upto_if 23 with (fail)
  go_cut [] (fun wc=>∃ (kq:Nat) (x611002_10:ByteArray),Aside0 (impl_paperOf.j0 kq a0 l1 a0 (rdOf ByteArray.empty ((rd_T103 ((rd_T62 l1 0).f1) 0).f0) 0) x611002_10 0=some (r1,r2,r3,r4,r5,r6))∧Aside0 (kq≤k)∧Aside0 (wc.heap[gb606]? = some (.cells #[.int .i64 0,.string (⟨#[]⟩:ByteArray),.string (⟨#[]⟩:ByteArray),.int .i64 0,(.slice none 0 0),(.slice none 0 0)] 30 (0,0)))∧Aside0 (wc.heap[gb610]? = some (.cells #[.int .i64 a0,.string (rdOf ByteArray.empty ((rd_T103 ((rd_T62 l1 0).f1) 0).f0) 0),.string x611002_10,.int .i64 0,(.slice none 0 0),(.slice none 0 0)] 30 (0,0)))∧Aside0 (Below w.heap.size w wc))
  case first =>
   have H:=HC11.out;clear HC11
   obtain rfl|rfl:=bt t611
   ·replace H:=itT H
    revert H;refine id1k ?_
    intro c13 c13b0 H;have c13b1:decide (1<((rd_T62 l1 0).f1).length)=true:=decide_eq_true (by omega);clear c13
    (first|rw [c13b0]|(simp only [i64_w,i32_w];rw [c13b0])|rw [c13b1]|skip)
    revert H;refine id1k ?_
    intro c14 c14b0 H;have c14b1:decide (0<((rd_T103 ((rd_T62 l1 0).f1) 1).f0).length)=true:=decide_eq_true (by omega);clear c14;have H':=am H;clear H;have p612:0≤(0:Int):=(by omega);have q612:0<(l1.length:Int):=oa;obtain ⟨ad612,A612_1,c612_1,e612,hx612_0,hx612_1,hl612_1,hi612_1⟩:=at_T62 HR1.out 0 p612 q612;obtain rfl:ad607=ad612:=(by injection e612);have qi612:(0<l1.length)=True:=eq_true (by omega)
    (try rw [show ((0:Int)).toNat=0 from rfl] at hx612_0)
    (try rw [show 0 * 2=0 from rfl] at hx612_0)
    (try rw [Addr.add_zero'] at hx612_0)
    (try rw [show ((0:Int)).toNat=0 from rfl] at hx612_1)
    (try rw [show 0 * 2=0 from rfl] at hx612_1)
    (try rw [Addr.add_zero'] at hx612_1)
    have hn612_0:ad607.block≠gb610:=Nat.ne_of_lt (Nat.lt_of_lt_of_le (by have:=World.block_lt_of_cell? _ _ hx612_0;first|rwa [add_block] at this|exact this) GW610.out);have hn612_1:ad607.block≠gb610:=Nat.ne_of_lt (Nat.lt_of_lt_of_le (by have:=World.block_lt_of_cell? _ _ hx612_0;first|rwa [add_block] at this|exact this) GW610.out);have hn612_2:ad607.block≠gb610:=Nat.ne_of_lt (Nat.lt_of_lt_of_le (by have:=World.block_lt_of_cell? _ _ hx612_0;first|rwa [add_block] at this|exact this) GW610.out);have hn612_3:ad607.block≠gb610:=Nat.ne_of_lt (Nat.lt_of_lt_of_le (by have:=World.block_lt_of_cell? _ _ hx612_0;first|rwa [add_block] at this|exact this) GW610.out);have hn612_4:ad607.block≠gb610:=Nat.ne_of_lt (Nat.lt_of_lt_of_le (by have:=World.block_lt_of_cell? _ _ hx612_0;first|rwa [add_block] at this|exact this) GW610.out);have hn612_5:ad607.block≠gb610:=Nat.ne_of_lt (Nat.lt_of_lt_of_le (by have:=World.block_lt_of_cell? _ _ hx612_0;first|rwa [add_block] at this|exact this) GW610.out);replace hx612_0:=cb HB hx612_0;replace hx612_1:=cb HB hx612_1;have HR612_1:=am hi612_1;have HC612_1:=am hl612_1;clear hi612_1 hl612_1;replace hx612_0:=(cell_far (p:=⟨gb610,0,none⟩) (by first|(rw [add_block];exact hn612_0)|(show (Addr.add _ _).block≠_;rw [add_block];exact hn612_0)|exact hn612_0) (.int .i64 a0)).trans hx612_0;replace hx612_1:=(cell_far (p:=⟨gb610,0,none⟩) (by first|(rw [add_block];exact hn612_0)|(show (Addr.add _ _).block≠_;rw [add_block];exact hn612_0)|exact hn612_0) (.int .i64 a0)).trans hx612_1;replace hx612_0:=(cell_far (p:=⟨gb610,1,none⟩) (by first|(rw [add_block];exact hn612_1)|(show (Addr.add _ _).block≠_;rw [add_block];exact hn612_1)|exact hn612_1) (.string (rdOf ByteArray.empty ((rd_T103 ((rd_T62 l1 0).f1) 0).f0) 0))).trans hx612_0;replace hx612_1:=(cell_far (p:=⟨gb610,1,none⟩) (by first|(rw [add_block];exact hn612_1)|(show (Addr.add _ _).block≠_;rw [add_block];exact hn612_1)|exact hn612_1) (.string (rdOf ByteArray.empty ((rd_T103 ((rd_T62 l1 0).f1) 0).f0) 0))).trans hx612_1;replace hx612_0:=(cell_far (p:=⟨gb610,2,none⟩) (by first|(rw [add_block];exact hn612_2)|(show (Addr.add _ _).block≠_;rw [add_block];exact hn612_2)|exact hn612_2) (.string (⟨#[]⟩:ByteArray))).trans hx612_0;replace hx612_1:=(cell_far (p:=⟨gb610,2,none⟩) (by first|(rw [add_block];exact hn612_2)|(show (Addr.add _ _).block≠_;rw [add_block];exact hn612_2)|exact hn612_2) (.string (⟨#[]⟩:ByteArray))).trans hx612_1;replace hx612_0:=(cell_far (p:=⟨gb610,3,none⟩) (by first|(rw [add_block];exact hn612_3)|(show (Addr.add _ _).block≠_;rw [add_block];exact hn612_3)|exact hn612_3) (.int .i64 0)).trans hx612_0;replace hx612_1:=(cell_far (p:=⟨gb610,3,none⟩) (by first|(rw [add_block];exact hn612_3)|(show (Addr.add _ _).block≠_;rw [add_block];exact hn612_3)|exact hn612_3) (.int .i64 0)).trans hx612_1;replace hx612_0:=(cell_far (p:=⟨gb610,4,none⟩) (by first|(rw [add_block];exact hn612_4)|(show (Addr.add _ _).block≠_;rw [add_block];exact hn612_4)|exact hn612_4) (.slice none 0 0)).trans hx612_0;replace hx612_1:=(cell_far (p:=⟨gb610,4,none⟩) (by first|(rw [add_block];exact hn612_4)|(show (Addr.add _ _).block≠_;rw [add_block];exact hn612_4)|exact hn612_4) (.slice none 0 0)).trans hx612_1;replace hx612_0:=(cell_far (p:=⟨gb610,5,none⟩) (by first|(rw [add_block];exact hn612_5)|(show (Addr.add _ _).block≠_;rw [add_block];exact hn612_5)|exact hn612_5) (.slice none 0 0)).trans hx612_0;replace hx612_1:=(cell_far (p:=⟨gb610,5,none⟩) (by first|(rw [add_block];exact hn612_5)|(show (Addr.add _ _).block≠_;rw [add_block];exact hn612_5)|exact hn612_5) (.slice none 0 0)).trans hx612_1;clear hn612_0;clear hn612_1;clear hn612_2;clear hn612_3;clear hn612_4;clear hn612_5;replace p612:=eq_true p612;replace q612:=eq_true q612;have p613:0≤(1:Int):=(by omega);have q613:1<(((rd_T62 l1 0).f1).length:Int):=oa;obtain ⟨ad613,A613_0,c613_0,e613,hx613_0,hl613_0,hi613_0⟩:=at_T103 HR612_1.out 1 p613 q613
    cases e613
    (try simp only [show (1:Int).toNat=1 from rfl,Nat.reduceMul,Nat.reduceEqDiff,Go.Addr.add,↓reduceIte] at hx613_0)
    have qi613:(1<((rd_T62 l1 0).f1).length)=True:=eq_true (by omega)
    (try rw [show ((1:Int)).toNat=1 from rfl] at hx613_0)
    have hn613_0:ad613.block≠gb610:=Nat.ne_of_lt (Nat.lt_of_lt_of_le (by have:=World.block_lt_of_cell? _ _ hx613_0;first|rwa [add_block] at this|exact this) GW610.out);have hn613_1:ad613.block≠gb610:=Nat.ne_of_lt (Nat.lt_of_lt_of_le (by have:=World.block_lt_of_cell? _ _ hx613_0;first|rwa [add_block] at this|exact this) GW610.out);have hn613_2:ad613.block≠gb610:=Nat.ne_of_lt (Nat.lt_of_lt_of_le (by have:=World.block_lt_of_cell? _ _ hx613_0;first|rwa [add_block] at this|exact this) GW610.out);have hn613_3:ad613.block≠gb610:=Nat.ne_of_lt (Nat.lt_of_lt_of_le (by have:=World.block_lt_of_cell? _ _ hx613_0;first|rwa [add_block] at this|exact this) GW610.out);have hn613_4:ad613.block≠gb610:=Nat.ne_of_lt (Nat.lt_of_lt_of_le (by have:=World.block_lt_of_cell? _ _ hx613_0;first|rwa [add_block] at this|exact this) GW610.out);have hn613_5:ad613.block≠gb610:=Nat.ne_of_lt (Nat.lt_of_lt_of_le (by have:=World.block_lt_of_cell? _ _ hx613_0;first|rwa [add_block] at this|exact this) GW610.out);replace hx613_0:=cb HB hx613_0;have HR613_0:=am hi613_0;have HC613_0:=am hl613_0;clear hi613_0 hl613_0;replace hx613_0:=(cell_far (p:=⟨gb610,0,none⟩) (by first|(rw [add_block];exact hn613_0)|(show (Addr.add _ _).block≠_;rw [add_block];exact hn613_0)|exact hn613_0) (.int .i64 a0)).trans hx613_0;replace hx613_0:=(cell_far (p:=⟨gb610,1,none⟩) (by first|(rw [add_block];exact hn613_1)|(show (Addr.add _ _).block≠_;rw [add_block];exact hn613_1)|exact hn613_1) (.string (rdOf ByteArray.empty ((rd_T103 ((rd_T62 l1 0).f1) 0).f0) 0))).trans hx613_0;replace hx613_0:=(cell_far (p:=⟨gb610,2,none⟩) (by first|(rw [add_block];exact hn613_2)|(show (Addr.add _ _).block≠_;rw [add_block];exact hn613_2)|exact hn613_2) (.string (⟨#[]⟩:ByteArray))).trans hx613_0;replace hx613_0:=(cell_far (p:=⟨gb610,3,none⟩) (by first|(rw [add_block];exact hn613_3)|(show (Addr.add _ _).block≠_;rw [add_block];exact hn613_3)|exact hn613_3) (.int .i64 0)).trans hx613_0;replace hx613_0:=(cell_far (p:=⟨gb610,4,none⟩) (by first|(rw [add_block];exact hn613_4)|(show (Addr.add _ _).block≠_;rw [add_block];exact hn613_4)|exact hn613_4) (.slice none 0 0)).trans hx613_0;replace hx613_0:=(cell_far (p:=⟨gb610,5,none⟩) (by first|(rw [add_block];exact hn613_5)|(show (Addr.add _ _).block≠_;rw [add_block];exact hn613_5)|exact hn613_5) (.slice none 0 0)).trans hx613_0;clear hn613_0;clear hn613_1;clear hn613_2;clear hn613_3;clear hn613_4;clear hn613_5;replace p613:=eq_true p613;replace q613:=eq_true q613;have p614:0≤(0:Int):=(by omega);have q614:0<(((rd_T103 ((rd_T62 l1 0).f1) 1).f0).length:Int):=oa;obtain ⟨ad614,e614,hx614_0⟩:=Kd.at_string HR613_0.out 0 p614 q614
    cases e614
    have qi614:(0<((rd_T103 ((rd_T62 l1 0).f1) 1).f0).length)=True:=eq_true (by omega)
    (try rw [show ((0:Int)).toNat=0 from rfl] at hx614_0)
    (try rw [Addr.add_zero'] at hx614_0)
    have hn614_0:ad614.block≠gb610:=Nat.ne_of_lt (Nat.lt_of_lt_of_le (by have:=World.block_lt_of_cell? _ _ hx614_0;first|rwa [add_block] at this|exact this) GW610.out);have hn614_1:ad614.block≠gb610:=Nat.ne_of_lt (Nat.lt_of_lt_of_le (by have:=World.block_lt_of_cell? _ _ hx614_0;first|rwa [add_block] at this|exact this) GW610.out);have hn614_2:ad614.block≠gb610:=Nat.ne_of_lt (Nat.lt_of_lt_of_le (by have:=World.block_lt_of_cell? _ _ hx614_0;first|rwa [add_block] at this|exact this) GW610.out);have hn614_3:ad614.block≠gb610:=Nat.ne_of_lt (Nat.lt_of_lt_of_le (by have:=World.block_lt_of_cell? _ _ hx614_0;first|rwa [add_block] at this|exact this) GW610.out);have hn614_4:ad614.block≠gb610:=Nat.ne_of_lt (Nat.lt_of_lt_of_le (by have:=World.block_lt_of_cell? _ _ hx614_0;first|rwa [add_block] at this|exact this) GW610.out);have hn614_5:ad614.block≠gb610:=Nat.ne_of_lt (Nat.lt_of_lt_of_le (by have:=World.block_lt_of_cell? _ _ hx614_0;first|rwa [add_block] at this|exact this) GW610.out);replace hx614_0:=cb HB hx614_0;replace hx614_0:=(cell_far (p:=⟨gb610,0,none⟩) (by first|(rw [add_block];exact hn614_0)|(show (Addr.add _ _).block≠_;rw [add_block];exact hn614_0)|exact hn614_0) (.int .i64 a0)).trans hx614_0;replace hx614_0:=(cell_far (p:=⟨gb610,1,none⟩) (by first|(rw [add_block];exact hn614_1)|(show (Addr.add _ _).block≠_;rw [add_block];exact hn614_1)|exact hn614_1) (.string (rdOf ByteArray.empty ((rd_T103 ((rd_T62 l1 0).f1) 0).f0) 0))).trans hx614_0;replace hx614_0:=(cell_far (p:=⟨gb610,2,none⟩) (by first|(rw [add_block];exact hn614_2)|(show (Addr.add _ _).block≠_;rw [add_block];exact hn614_2)|exact hn614_2) (.string (⟨#[]⟩:ByteArray))).trans hx614_0;replace hx614_0:=(cell_far (p:=⟨gb610,3,none⟩) (by first|(rw [add_block];exact hn614_3)|(show (Addr.add _ _).block≠_;rw [add_block];exact hn614_3)|exact hn614_3) (.int .i64 0)).trans hx614_0;replace hx614_0:=(cell_far (p:=⟨gb610,4,none⟩) (by first|(rw [add_block];exact hn614_4)|(show (Addr.add _ _).block≠_;rw [add_block];exact hn614_4)|exact hn614_4) (.slice none 0 0)).trans hx614_0;replace hx614_0:=(cell_far (p:=⟨gb610,5,none⟩) (by first|(rw [add_block];exact hn614_5)|(show (Addr.add _ _).block≠_;rw [add_block];exact hn614_5)|exact hn614_5) (.slice none 0 0)).trans hx614_0;clear hn614_0;clear hn614_1;clear hn614_2;clear hn614_3;clear hn614_4;clear hn614_5;replace p614:=eq_true p614;replace q614:=eq_true q614;have hnb15:=NB610_606.out;have hnc15:=NB606_610.out;have hcz16:=cf6 BK610
    go_wp2
    go_meet
    case rel=>exact ⟨_,(rdOf ByteArray.empty ((rd_T103 ((rd_T62 l1 0).f1) 1).f0) 0),H',⟨fl⟩,⟨ks BK606⟩,⟨kp BK610⟩,⟨bs HB⟩⟩
   ·replace H:=itF H;have H':=am H;clear H
    go_wp2
    go_meet
    case rel=>exact ⟨_,((⟨#[]⟩:ByteArray)),H',⟨fl⟩,⟨ks BK606⟩,⟨kp BK610⟩,⟨bs HB⟩⟩
  case rest =>
   clear HC11
   try clear c1
   try clear c3
   try clear c3b0
   try clear c3b1
   try clear c4
   try clear c4b0
   try clear c4b1
   try clear c5
   try clear c5b0
   try clear c5b1
   try clear hcz10
   try clear hx607_0
   try clear hx607_1
   try clear hx608_0
   try clear hx609_0
   try clear p607
   try clear p608
   try clear p609
   try clear q607
   try clear q608
   try clear q609
   obtain ⟨kq,x611002_10,HA,HJ10,BK606,BK610,HB⟩:=hcut
   cases kq with
   | zero=>exact absurd HA.out (by simp [impl_paperOf.j0])
   | succ kj10 =>
    have H:=HA.out;clear HA;simp only [impl_paperOf.j0] at H
    revert H;refine id1k ?_
    intro c17 c17b0 H;have c17b1:decide (0<l1.length)=true:=decide_eq_true (by omega);clear c17;obtain ⟨ji18,hji18⟩:∃ j_:Int,(wrap64 ((((rd_T62 l1 0).f1).length:Int) - 1))=j_:=⟨_,rfl⟩
    replace H:(if 0≤(ji18) then (if (ji18)<(((rd_T62 l1 0).f1).length:Int) then (if 0<(((rd_T103 ((rd_T62 l1 0).f1) (ji18)).f0).length:Int) then ((impl_numberIn.f kj10 (rdOf ByteArray.empty ((rd_T103 ((rd_T62 l1 0).f1) (ji18)).f0) 0) 0 100000).bind fun bt620=>(if 1≤(l1.length:Int) then ((some (l1.drop 1:List (S62))).bind fun y622=>(impl_paperOf.l0 kj10 a0 y622 (y622.length:Int) 0 a0 (rdOf ByteArray.empty ((rd_T103 ((rd_T62 l1 0).f1) 0).f0) 0) x611002_10 bt620.1 ([]:List ByteArray) ([]:List (S71)))) else (none))) else (none)) else (none)) else (none))=some (r1,r2,r3,r4,r5,r6):=by first|(rw [hji18] at H;exact H)|(simp only [hji18] at H ⊢;exact H)
    have hji18w:(IntKind.i64.wrap ((((rd_T62 l1 0).f1).length:Int) - 1))=ji18:=(i64_w _).trans hji18
    revert H;refine id1 ?_
    intro c19b0 H
    revert H;refine id1 ?_
    intro c20b0 H
    revert H;refine id1k ?_
    intro c21 c21b0 H;have c21b1:decide (0<((rd_T103 ((rd_T62 l1 0).f1) (ji18)).f0).length)=true:=decide_eq_true (by omega);clear c21;replace H:=bo H;obtain ⟨⟨t620,t621⟩,A22,H⟩:=H;(try dsimp only at H)
    revert H;refine ip1 ?_
    intro c23 H;have c23b0:=eq_true c23;have c23b1:decide (1≤(l1.length:Int))=true:=decide_eq_true c23;clear c23;obtain ⟨y622,hy622⟩:∃ y_:List (S62),y_=(l1.drop 1):=⟨_,rfl⟩
    replace H:(impl_paperOf.l0 kj10 a0 y622 (y622.length:Int) 0 a0 (rdOf ByteArray.empty ((rd_T103 ((rd_T62 l1 0).f1) 0).f0) 0) x611002_10 t620 ([]:List ByteArray) ([]:List (S71)))=some (r1,r2,r3,r4,r5,r6):=ye hy622 H
    have Ny622:=am hy622;clear hy622;have H':=am H;clear H
    try go_wp2
    replace BK606:=am (blk_drew BK606.out);replace BK610:=am (blk_drew BK610.out);replace HB:=am (below_drew1 HB.out);have p615:0≤(0:Int):=(by omega);have q615:0<(l1.length:Int):=oa;obtain ⟨ad615,A615_1,c615_1,e615,hx615_0,hx615_1,hl615_1,hi615_1⟩:=at_T62 HR1.out 0 p615 q615;have hw615_1:=hx615_1
    (try rw [show ((0:Int)).toNat=0 from rfl] at hw615_1)
    (try rw [show 0 * 2=0 from rfl] at hw615_1)
    (try rw [Addr.add_zero'] at hw615_1)
    have hw615_0:=hx615_0
    (try rw [show ((0:Int)).toNat=0 from rfl] at hw615_0)
    (try rw [show 0 * 2=0 from rfl] at hw615_0)
    (try rw [Addr.add_zero'] at hw615_0)
    obtain rfl:ad607=ad615:=(by injection e615);have qi615:(0<l1.length)=True:=eq_true (by omega)
    (try rw [show ((0:Int)).toNat=0 from rfl] at hx615_0)
    (try rw [show 0 * 2=0 from rfl] at hx615_0)
    (try rw [Addr.add_zero'] at hx615_0)
    (try rw [show ((0:Int)).toNat=0 from rfl] at hx615_1)
    (try rw [show 0 * 2=0 from rfl] at hx615_1)
    (try rw [Addr.add_zero'] at hx615_1)
    replace hx615_0:=cb HB hx615_0;replace hx615_1:=cb HB hx615_1;have HR615_1:=am hi615_1;have HC615_1:=am hl615_1;clear hi615_1 hl615_1;replace p615:=eq_true p615;replace q615:=eq_true q615;have p616:0≤(0:Int):=(by omega);have q616:0<(l1.length:Int):=oa;obtain ⟨ad616,A616_1,c616_1,e616,hx616_0,hx616_1,hl616_1,hi616_1⟩:=at_T62 HR1.out 0 p616 q616;have hw616_1:=hx616_1
    (try rw [show ((0:Int)).toNat=0 from rfl] at hw616_1)
    (try rw [show 0 * 2=0 from rfl] at hw616_1)
    (try rw [Addr.add_zero'] at hw616_1)
    have hw616_0:=hx616_0
    (try rw [show ((0:Int)).toNat=0 from rfl] at hw616_0)
    (try rw [show 0 * 2=0 from rfl] at hw616_0)
    (try rw [Addr.add_zero'] at hw616_0)
    obtain rfl:ad607=ad616:=(by injection e616);have qi616:(0<l1.length)=True:=eq_true (by omega)
    (try rw [show ((0:Int)).toNat=0 from rfl] at hx616_0)
    (try rw [show 0 * 2=0 from rfl] at hx616_0)
    (try rw [Addr.add_zero'] at hx616_0)
    (try rw [show ((0:Int)).toNat=0 from rfl] at hx616_1)
    (try rw [show 0 * 2=0 from rfl] at hx616_1)
    (try rw [Addr.add_zero'] at hx616_1)
    replace hx616_0:=cb HB hx616_0;replace hx616_1:=cb HB hx616_1;have HR616_1:=am hi616_1;have HC616_1:=am hl616_1;clear hi616_1 hl616_1;replace p616:=eq_true p616;replace q616:=eq_true q616;(try (have ea_:=Option.some.inj (hx615_1.symm.trans hx616_1);injection ea_ with ea_ en_ ec_;subst ea_;subst ec_;clear en_));have p617:0≤((ji18):Int):=oa;have q617:(ji18)<(((rd_T62 l1 0).f1).length:Int):=oa;obtain ⟨ad617,A617_0,c617_0,e617,hx617_0,hl617_0,hi617_0⟩:=at_T103 HR615_1.out (ji18) p617 q617;have hw617_0:=hx617_0
    cases e617
    replace hx617_0:=cb HB hx617_0;have HR617_0:=am hi617_0;have HC617_0:=am hl617_0;clear hi617_0 hl617_0;replace p617:=eq_true p617;replace q617:=eq_true q617;refine sta 14 (hca (cb HB hw615_0) (hca (cb HB hw615_1) (hca (cb HB hw616_0) (hca (cb HB hw616_1) (hc (cb HB hw617_0)))))) (fun hHeld=>?_);refine with_tabW impl_paperOf.tab4 impl_paperOf.bits4 (fun HT_ HW_=>?_)
    generalize wc.drew=w24 at BK606 BK610 HB HR615_1 HR616_1 HR617_0 hx615_0 hx615_1 hx616_0 hx616_1 hx617_0 hHeld ⊢
    refine pA 0 34 HT_ ?_;refine pA 1 35 HT_ ?_;refine pA 2 36 HT_ ?_;refine pA 4 38 HT_ ?_;refine pA 5 39 HT_ ?_;refine pA 6 40 HT_ ?_;refine tA 3 37 HT_ HW_ hHeld ?_;refine tA 7 41 HT_ HW_ hHeld ?_;refine pA 8 42 HT_ ?_;refine pA 9 43 HT_ ?_;refine pA 10 44 HT_ ?_;refine tA 11 45 HT_ HW_ hHeld ?_;refine oA 12 6 HT_ (fun K hK=>?_);refine box_step ?hg (N:=6) ?hd (cs:=#[.slice none 0 0]) (t:=103) ?hr ?_;(case hd=>rfl);(case hg=>rfl);(case hr=>first|(go_simp;done)|(go_simp;rfl));intro gb618 hg w25 hbox hb;have BK618:=am (hbox);have GW618:=am ((gs hg (bs HB)));have GE618:=am ((gs hg (bs HB)));replace HB:=am (below_step (bs HB) hb);have NB606_618:=am ((gn hg (ks BK606)));have NB618_606:=am ((gm hg (ks BK606)));replace BK606:=am (blk_below (ks BK606) hb);have NB610_618:=am ((gn hg (ks BK610)));have NB618_610:=am ((gm hg (ks BK610)));replace BK610:=am (blk_below (ks BK610) hb);clear hb hbox hg;refine hK.out _ _ (hca (cb HB hw615_0) (hca (cb HB hw615_1) (hca (cb HB hw616_0) (hca (cb HB hw616_1) (hc (cb HB hw617_0)))))).out (fun hHeld=>?_);clear hK K;refine nA 6 ?_;refine one_ (i:=13) (N:=none) #[true,true,true,true,true,true,true,true,true,true,true,true,true,true] rfl rfl (one_of HT_.out (by kernel_rfl)) (by decide) (fun K hK=>?_);have hs26:w25.cell? ⟨gb618,0,none⟩=some (.slice none 0 0):=(blk_cell BK618.out 0).trans rfl;have hfs26:=blk_frozen BK618.out 0;have hns26_0:=NB606_618.out;have hns26_1:=NB610_618.out;have hms26_0:=NB618_606.out;have hms26_1:=NB618_610.out;refine skip_ (w1:=?_) (by rfl) rfl ?_ ?_
    rotate_left
    ·go_simp
     rfl
    refine hK.out _ _ ⟨((cell_far (p:=⟨gb618,_,none⟩) (by first|exact Nat.ne_of_lt (Nat.lt_of_lt_of_le (by have:=World.block_lt_of_cell? _ _ hw615_0;first|rwa [add_block] at this|exact this) GW618.out)|(rw [add_block];exact Nat.ne_of_lt (Nat.lt_of_lt_of_le (by have:=World.block_lt_of_cell? _ _ hw615_0;first|rwa [add_block] at this|exact this) GW618.out))|(show (Addr.add _ _).block≠_;rw [add_block];exact Nat.ne_of_lt (Nat.lt_of_lt_of_le (by have:=World.block_lt_of_cell? _ _ hw615_0;first|rwa [add_block] at this|exact this) GW618.out))|(dsimp only;exact Nat.ne_of_lt (Nat.lt_of_lt_of_le (by have:=World.block_lt_of_cell? _ _ hw615_0;first|rwa [add_block] at this|exact this) GW618.out))) _).trans (hHeld.1)),((cell_far (p:=⟨gb618,_,none⟩) (by first|exact Nat.ne_of_lt (Nat.lt_of_lt_of_le (by have:=World.block_lt_of_cell? _ _ hw615_1;first|rwa [add_block] at this|exact this) GW618.out)|(rw [add_block];exact Nat.ne_of_lt (Nat.lt_of_lt_of_le (by have:=World.block_lt_of_cell? _ _ hw615_1;first|rwa [add_block] at this|exact this) GW618.out))|(show (Addr.add _ _).block≠_;rw [add_block];exact Nat.ne_of_lt (Nat.lt_of_lt_of_le (by have:=World.block_lt_of_cell? _ _ hw615_1;first|rwa [add_block] at this|exact this) GW618.out))|(dsimp only;exact Nat.ne_of_lt (Nat.lt_of_lt_of_le (by have:=World.block_lt_of_cell? _ _ hw615_1;first|rwa [add_block] at this|exact this) GW618.out))) _).trans (hHeld.2.1)),((cell_far (p:=⟨gb618,_,none⟩) (by first|exact Nat.ne_of_lt (Nat.lt_of_lt_of_le (by have:=World.block_lt_of_cell? _ _ hw616_0;first|rwa [add_block] at this|exact this) GW618.out)|(rw [add_block];exact Nat.ne_of_lt (Nat.lt_of_lt_of_le (by have:=World.block_lt_of_cell? _ _ hw616_0;first|rwa [add_block] at this|exact this) GW618.out))|(show (Addr.add _ _).block≠_;rw [add_block];exact Nat.ne_of_lt (Nat.lt_of_lt_of_le (by have:=World.block_lt_of_cell? _ _ hw616_0;first|rwa [add_block] at this|exact this) GW618.out))|(dsimp only;exact Nat.ne_of_lt (Nat.lt_of_lt_of_le (by have:=World.block_lt_of_cell? _ _ hw616_0;first|rwa [add_block] at this|exact this) GW618.out))) _).trans (hHeld.2.2.1)),((cell_far (p:=⟨gb618,_,none⟩) (by first|exact Nat.ne_of_lt (Nat.lt_of_lt_of_le (by have:=World.block_lt_of_cell? _ _ hw616_1;first|rwa [add_block] at this|exact this) GW618.out)|(rw [add_block];exact Nat.ne_of_lt (Nat.lt_of_lt_of_le (by have:=World.block_lt_of_cell? _ _ hw616_1;first|rwa [add_block] at this|exact this) GW618.out))|(show (Addr.add _ _).block≠_;rw [add_block];exact Nat.ne_of_lt (Nat.lt_of_lt_of_le (by have:=World.block_lt_of_cell? _ _ hw616_1;first|rwa [add_block] at this|exact this) GW618.out))|(dsimp only;exact Nat.ne_of_lt (Nat.lt_of_lt_of_le (by have:=World.block_lt_of_cell? _ _ hw616_1;first|rwa [add_block] at this|exact this) GW618.out))) _).trans (hHeld.2.2.2.1)),((cell_far (p:=⟨gb618,_,none⟩) (by first|exact Nat.ne_of_lt (Nat.lt_of_lt_of_le (by have:=World.block_lt_of_cell? _ _ hw617_0;first|rwa [add_block] at this|exact this) GW618.out)|(rw [add_block];exact Nat.ne_of_lt (Nat.lt_of_lt_of_le (by have:=World.block_lt_of_cell? _ _ hw617_0;first|rwa [add_block] at this|exact this) GW618.out))|(show (Addr.add _ _).block≠_;rw [add_block];exact Nat.ne_of_lt (Nat.lt_of_lt_of_le (by have:=World.block_lt_of_cell? _ _ hw617_0;first|rwa [add_block] at this|exact this) GW618.out))|(dsimp only;exact Nat.ne_of_lt (Nat.lt_of_lt_of_le (by have:=World.block_lt_of_cell? _ _ hw617_0;first|rwa [add_block] at this|exact this) GW618.out))) _).trans (hHeld.2.2.2.2))⟩ (fun hHeld=>?_);clear hK K;refine done_ (done_of HT_.out (by kernel_rfl)) ?_;have hnb27:=NB618_606.out;have hnc27:=NB606_618.out;have hnb28:=NB618_610.out;have hnc28:=NB610_618.out;have hcz29:=cf1 BK618;have p619:0≤(0:Int):=(by omega);have q619:0<(((rd_T103 ((rd_T62 l1 0).f1) (ji18)).f0).length:Int):=oa;obtain ⟨ad619,e619,hx619_0⟩:=Kd.at_string HR617_0.out 0 p619 q619
    cases e619
    have qi619:(0<((rd_T103 ((rd_T62 l1 0).f1) (ji18)).f0).length)=True:=eq_true (by omega)
    (try rw [show ((0:Int)).toNat=0 from rfl] at hx619_0)
    (try rw [Addr.add_zero'] at hx619_0)
    have hn619_0:ad619.block≠gb618:=Nat.ne_of_lt (Nat.lt_of_lt_of_le (by have:=World.block_lt_of_cell? _ _ hx619_0;first|rwa [add_block] at this|exact this) GW618.out);replace hx619_0:=cb HB hx619_0;replace hx619_0:=(cell_far (p:=⟨gb618,0,none⟩) (by first|(rw [add_block];exact hn619_0)|(show (Addr.add _ _).block≠_;rw [add_block];exact hn619_0)|exact hn619_0) (.slice (some ad619) ((rd_T103 ((rd_T62 l1 0).f1) (ji18)).f0).length c617_0)).trans hx619_0;clear hn619_0;replace p619:=eq_true p619;replace q619:=eq_true q619
    try go_wp2_with (first|((first|((with_reducible refine gate_callee (f:=87) rfl ?_);refine goesL_ (some 51) rfl rfl Tryz.func87 (by kernel_rfl) rfl #[.string (rdOf ByteArray.empty ((rd_T103 ((rd_T62 l1 0).f1) (ji18)).f0) 0),.int .i64 0,.int .i64 100000] rfl (by (try simp only [List.map_toArray,List.map_cons,List.map_nil]);first|done|(simp only [hji18];rfl)|rfl|(simp only [List.length_drop,List.length_take];rfl)) ?_;(with_reducible refine (impl_numberIn.calls kj10 (rdOf ByteArray.empty ((rd_T103 ((rd_T62 l1 0).f1) (ji18)).f0) 0) 0 100000 t620 t621 _ (tbP HTP (bs HB)) A22.out).mono ?_);rintro e w30 ⟨rfl,hb⟩;refine ⟨_,rfl,?_⟩)|(go_at_call 87;(with_reducible refine (impl_numberIn.calls kj10 (rdOf ByteArray.empty ((rd_T103 ((rd_T62 l1 0).f1) (ji18)).f0) 0) 0 100000 t620 t621 _ (tbP HTP (bs HB)) A22.out).mono ?_);rintro e w30 ⟨rfl,hb⟩));replace BK606:=am (blk_below (ks BK606) hb);replace BK610:=am (blk_below (ks BK610) hb);replace BK618:=am (blk_below (g:=gb618) (o:=.cells #[.slice (some ad619) ((rd_T103 ((rd_T62 l1 0).f1) (ji18)).f0).length c617_0] 103 (0,0)) (kp BK618) hb);replace HB:=am (below_step (bs HB) hb);(try clear hb);(try clear hb2);(try clear hk);(try clear hi);have hnb31:=NB610_606.out;have hnc31:=NB606_610.out;have hcz32_0:w30.cell? ⟨gb610,0,none⟩=some (.int .i64 a0):=(blk_cell BK610.out 0).trans rfl;have hcz32_1:w30.cell? ⟨gb610,1,none⟩=some (.string (rdOf ByteArray.empty ((rd_T103 ((rd_T62 l1 0).f1) 0).f0) 0)):=(blk_cell BK610.out 1).trans rfl;have hcz32_2:w30.cell? ⟨gb610,2,none⟩=some (.string x611002_10):=(blk_cell BK610.out 2).trans rfl;have hcz32_3:w30.cell? ⟨gb610,3,none⟩=some (.int .i64 0):=(blk_cell BK610.out 3).trans rfl;have hcz32_4:w30.cell? ⟨gb610,4,none⟩=some (.slice none 0 0):=(blk_cell BK610.out 4).trans rfl;have hcz32_5:w30.cell? ⟨gb610,5,none⟩=some (.slice none 0 0):=(blk_cell BK610.out 5).trans rfl;have hfz32_0:=blk_frozen BK610.out 0;have hfz32_1:=blk_frozen BK610.out 1;have hfz32_2:=blk_frozen BK610.out 2;have hfz32_3:=blk_frozen BK610.out 3;have hfz32_4:=blk_frozen BK610.out 4;have hfz32_5:=blk_frozen BK610.out 5)|((with_reducible refine gate_store (t:=2) (p:=55) rfl ?_);refine store_event (t:=2) (p:=55) (v:=?vo_w33) (w1:=(w30.setCell ⟨gb610,3,none⟩ (.int .i64 t620))) ?hg ?ho ?hn ?hr ?_;(case ho=>rfl);(case hg=>rfl);(case hn=>rfl);(case hr=>first|(go_simp;done)|(go_simp;rfl));intro w33 hw;have n0_:Aside0 (w33.heap[gb606]? = some (.cells #[.int .i64 0,.string (⟨#[]⟩:ByteArray),.string (⟨#[]⟩:ByteArray),.int .i64 0,.slice none 0 0,.slice none 0 0] 30 (0,0))):=⟨(by rw [hw];exact (ks BK606))⟩;have n1_:Aside0 (w33.heap[gb610]? = some (.cells #[.int .i64 a0,.string (rdOf ByteArray.empty ((rd_T103 ((rd_T62 l1 0).f1) 0).f0) 0),.string x611002_10,.int .i64 t620,.slice none 0 0,.slice none 0 0] 30 (0,0))):=⟨(by rw [hw];exact (kp BK610))⟩;have n2_:Aside0 (w33.heap[gb618]? = some (.cells #[.slice (some ad619) ((rd_T103 ((rd_T62 l1 0).f1) (ji18)).f0).length c617_0] 103 (0,0))):=⟨(by rw [hw];exact (ks BK618))⟩;have n3_:Aside0 (Below w.heap.size w w33):=⟨(by rw [hw];exact (bs HB))⟩;clear hw;clear BK606;clear BK610;clear BK618;clear HB;have BK606:=n0_;have BK610:=n1_;have BK618:=n2_;have HB:=n3_;clear n0_ n1_ n2_ n3_;have q34:(1:Int)≤((l1.length:Int):Int):=oa;obtain ⟨i034,hi034,_,hsz34,_⟩:=info_parts info62;have hroom34:l1.length≤c1:=HC1.out;have hC34:Kd.C k62 _ (some ad607) l1.length l1:=HR1.out;have hcut34:=cut_from (P:=Tryz.prog) 40 62 .i64 Tryz.underlying40 hi034 2 hsz34 (some ad607) l1.length c1 1 (by omega) q34;have hr34:=Kd.C_drop (m:=(1:Int).toNat) (c:=c1) hC34 (by omega) hroom34;obtain ⟨A34,hA34⟩:∃ Aq_,Aq_=(if c1=(1:Int).toNat then (some ad607) else ((some ad607):Option Addr).map (·.add ((1:Int).toNat * 2))):=⟨_,rfl⟩;obtain ⟨c34,hc34⟩:∃ cq_,cq_=c1 - (1:Int).toNat:=⟨_,rfl⟩;have hy34:y622.length=l1.length - (1:Int).toNat:=(by rw [Ny622.out,List.length_drop] <;> omega);rw [show (l1).drop (1:Int).toNat=y622 from Ny622.out.symm] at hr34;replace hr34:Kd.C k62 _ A34 y622.length y622:=(by rw [hA34];exact hr34);rw [← hy34,← hA34,← hc34] at hcut34;have HR625:=am hr34;have HC625:=am (show y622.length≤c34 from by rw [hy34,hc34];exact Nat.sub_le_sub_right hroom34 _);clear hr34 hC34 hroom34 hi034 hsz34 hc34;have KY34:=am hy34;have KA34:=am hA34;clear hy34 hA34;replace q34:=eq_true q34))
    go_loopg [59] kj10 (fun kq v59 w'=>∃ (x59_2:Int) (x611004_2:List ByteArray) (x611005_2:List (S71)) (u611004:Value) (u611005:Value),v59=.int .i64 x59_2∧Aside0 (impl_paperOf.l0 kq a0 y622 (y622.length:Int) x59_2 a0 (rdOf ByteArray.empty ((rd_T103 ((rd_T62 l1 0).f1) 0).f0) 0) x611002_10 t620 x611004_2 x611005_2=some (r1,r2,r3,r4,r5,r6))∧Aside0 (kq≤kj10)∧Aside0 (Kd.R Kd.string 9 w' w.heap.size (fun _=>True) u611004 x611004_2)∧Aside0 (Kd.R k71 71 w' w.heap.size (fun _=>True) u611005 x611005_2)∧Aside0 (w'.heap[gb606]? = some (.cells #[.int .i64 0,.string (⟨#[]⟩:ByteArray),.string (⟨#[]⟩:ByteArray),.int .i64 0,(.slice none 0 0),(.slice none 0 0)] 30 (0,0)))∧Aside0 (w'.heap[gb610]? = some (.cells #[.int .i64 a0,.string (rdOf ByteArray.empty ((rd_T103 ((rd_T62 l1 0).f1) 0).f0) 0),.string x611002_10,.int .i64 t620,u611004,u611005] 30 (0,0)))∧Aside0 (w'.heap[gb618]? = some (.cells #[(.slice (some ad619) ((rd_T103 ((rd_T62 l1 0).f1) (ji18)).f0).length c617_0)] 103 (0,0)))∧Aside0 (Below w.heap.size w w'))
    case atStart=>exact ⟨(0),(([]:List ByteArray)),(([]:List (S71))),(.slice none 0 0),(.slice none 0 0),fg,H',⟨Nat.le_refl _⟩,⟨by first|exact Kd.R_nil _ _ _ _ _|exact Kd.N_nil _ _ _ _ _|exact Kd.V_nil _ _ _ _ _|exact Kd.Q_nil _ _ _ _ _|exact Kd.S_nil _ _ _ _ _⟩,⟨by first|exact Kd.R_nil _ _ _ _ _|exact Kd.N_nil _ _ _ _ _|exact Kd.V_nil _ _ _ _ _|exact Kd.Q_nil _ _ _ _ _|exact Kd.S_nil _ _ _ _ _⟩,⟨ks BK606⟩,⟨ks BK610⟩,⟨ks BK618⟩,⟨bs HB⟩⟩
    case round =>
     clear H'
     try clear c1
     try clear c3
     try clear c3b0
     try clear c3b1
     try clear c4
     try clear c4b0
     try clear c4b1
     try clear c5
     try clear c5b0
     try clear c5b1
     try clear c17
     try clear c17b0
     try clear c17b1
     try clear c19b0
     try clear c20b0
     try clear c21
     try clear c21b0
     try clear c21b1
     try clear c23
     try clear c23b0
     try clear c23b1
     try clear c34
     try clear q34
     try clear hcz10
     try clear hcz29
     try clear hx607_0
     try clear hx607_1
     try clear hx608_0
     try clear hx609_0
     try clear hx615_0
     try clear hx615_1
     try clear hx616_0
     try clear hx616_1
     try clear hx617_0
     try clear hx619_0
     try clear p607
     try clear p608
     try clear p609
     try clear p615
     try clear p616
     try clear p617
     try clear p619
     try clear q34
     try clear q607
     try clear q608
     try clear q609
     try clear q615
     try clear q616
     try clear q617
     try clear q619
     obtain ⟨x59_2,x611004_2,x611005_2,u611004,u611005,rfl,HA,HK2,HO_611004,HO_611005,BK606,BK610,BK618,HB⟩:=hrel
     cases gk with
     | zero=>exact absurd HA.out (by simp [impl_paperOf.l0])
     | succ k2 =>
      have H:=HA.out;clear HA;simp only [impl_paperOf.l0] at H
      revert H;refine id2 ?_ ?_
      ·intro c35b0 H
       revert H;refine id1 ?_
       intro c36b0 H
       revert H;refine id1 ?_
       intro c37b0 H
       revert H;refine ie2 ?_ ?_
       ·intro c38b0 c38b1 H
        revert H;refine id1k ?_
        intro c39 c39b0 H;have c39b1:decide (0<((rd_T62 y622 x59_2).f1).length)=true:=decide_eq_true (by omega);clear c39
        revert H;refine id1k ?_
        intro c40 c40b0 H;have c40b1:decide (0<((rd_T103 ((rd_T62 y622 x59_2).f1) 0).f0).length)=true:=decide_eq_true (by omega);clear c40
        revert H;refine ip1 ?_
        intro c41 H;have LMc41:=am c41;clear c41;obtain ⟨y630,hy630⟩:∃ y_:List ByteArray,y_=(x611004_2++[rdOf ByteArray.empty ((rd_T103 ((rd_T62 y622 x59_2).f1) 0).f0) 0]):=⟨_,rfl⟩
        replace H:(impl_paperOf.l0 k2 a0 y622 (y622.length:Int) (wrap64 (x59_2+1)) a0 (rdOf ByteArray.empty ((rd_T103 ((rd_T62 l1 0).f1) 0).f0) 0) x611002_10 t620 y630 x611005_2)=some (r1,r2,r3,r4,r5,r6):=ye hy630 H
        have Ny630:=am hy630;clear hy630;have H':=am H;clear H;have p626:0≤(x59_2:Int):=oa;have q626:x59_2<(y622.length:Int):=oa;obtain ⟨ad626,A626_1,c626_1,e626,hx626_0,hx626_1,hl626_1,hi626_1⟩:=at_T62 HR625.out x59_2 p626 q626
        cases e626
        replace hx626_0:=cb HB hx626_0;replace hx626_1:=cb HB hx626_1;have HR626_1:=am hi626_1;have HC626_1:=am hl626_1;clear hi626_1 hl626_1;replace p626:=eq_true p626;replace q626:=eq_true q626
        try go_wp2_with (first|((with_reducible refine gate_dst (N:=10) rfl ?_);refine bx 10 (cs:=#[.string (⟨#[]⟩:ByteArray),.slice none 0 0]) (t:=62) ?_;intro gb627 hg w42 hbox hb;replace HO_611004:=am (Kd.R_below (rs HO_611004) hb);replace HO_611005:=am (Kd.R_below (rs HO_611005) hb);have BK627:=am (hbox);have GW627:=am ((gs hg (bs HB)));have GE627:=am ((gs hg (bs HB)));replace HB:=am (below_step (bs HB) hb);have NB606_627:=am ((gn hg (ks BK606)));have NB627_606:=am ((gm hg (ks BK606)));replace BK606:=am (blk_below (ks BK606) hb);have NB610_627:=am ((gn hg (ks BK610)));have NB627_610:=am ((gm hg (ks BK610)));replace BK610:=am (blk_below (ks BK610) hb);have NB618_627:=am ((gn hg (ks BK618)));have NB627_618:=am ((gm hg (ks BK618)));replace BK618:=am (blk_below (ks BK618) hb);clear hb hbox hg;have hnb43:=NB627_606.out;have hnc43:=NB606_627.out;have hnb44:=NB627_610.out;have hnc44:=NB610_627.out;have hnb45:=NB627_618.out;have hnc45:=NB618_627.out;have hcz46:=cf2 BK627))
        have n0_:Aside0 (Kd.R Kd.string 9 ((w42.setCell ⟨gb627,0,none⟩ (.string ((rd_T62 y622 x59_2).f0))).setCell ⟨gb627,1,none⟩ (.slice A626_1 ((rd_T62 y622 x59_2).f1).length c626_1)) w.heap.size (fun _=>True) u611004 x611004_2):=⟨Kd.R_mono (rf (Kd.R_types HO_611004.out BK627.out (by decide))) (fun _ hk=>trivial)⟩;have n1_:Aside0 (Kd.R k71 71 ((w42.setCell ⟨gb627,0,none⟩ (.string ((rd_T62 y622 x59_2).f0))).setCell ⟨gb627,1,none⟩ (.slice A626_1 ((rd_T62 y622 x59_2).f1).length c626_1)) w.heap.size (fun _=>True) u611005 x611005_2):=⟨Kd.R_mono (rf (Kd.R_types HO_611005.out BK627.out (by decide))) (fun _ hk=>trivial)⟩;have n2_:=kz ((w42.setCell ⟨gb627,0,none⟩ (.string ((rd_T62 y622 x59_2).f0))).setCell ⟨gb627,1,none⟩ (.slice A626_1 ((rd_T62 y622 x59_2).f1).length c626_1)) BK606;have n3_:=kz ((w42.setCell ⟨gb627,0,none⟩ (.string ((rd_T62 y622 x59_2).f0))).setCell ⟨gb627,1,none⟩ (.slice A626_1 ((rd_T62 y622 x59_2).f1).length c626_1)) BK610;have n4_:=kz ((w42.setCell ⟨gb627,0,none⟩ (.string ((rd_T62 y622 x59_2).f0))).setCell ⟨gb627,1,none⟩ (.slice A626_1 ((rd_T62 y622 x59_2).f1).length c626_1)) BK618;have n5_:Aside0 (((w42.setCell ⟨gb627,0,none⟩ (.string ((rd_T62 y622 x59_2).f0))).setCell ⟨gb627,1,none⟩ (.slice A626_1 ((rd_T62 y622 x59_2).f1).length c626_1)).heap[gb627]? = some (.cells #[.string ((rd_T62 y622 x59_2).f0),.slice A626_1 ((rd_T62 y622 x59_2).f1).length c626_1] 62 (0,0))):=⟨kp BK627⟩;have n6_:Aside0 (Below w.heap.size w ((w42.setCell ⟨gb627,0,none⟩ (.string ((rd_T62 y622 x59_2).f0))).setCell ⟨gb627,1,none⟩ (.slice A626_1 ((rd_T62 y622 x59_2).f1).length c626_1))):=⟨bs HB⟩;(try clear HO_611004);(try clear HO_611005);(try clear BK606);(try clear BK610);(try clear BK618);(try clear BK627);(try clear HB)
        generalize ((w42.setCell ⟨gb627,0,none⟩ (.string ((rd_T62 y622 x59_2).f0))).setCell ⟨gb627,1,none⟩ (.slice A626_1 ((rd_T62 y622 x59_2).f1).length c626_1))=w47 at n0_ n1_ n2_ n3_ n4_ n5_ n6_ ⊢
        have HO_611004:=n0_;have HO_611005:=n1_;have BK606:=n2_;have BK610:=n3_;have BK618:=n4_;have BK627:=n5_;have HB:=n6_;clear n0_ n1_ n2_ n3_ n4_ n5_ n6_;replace HO_611004:=am (Kd.R_drew HO_611004.out);replace HO_611005:=am (Kd.R_drew HO_611005.out);replace BK606:=am (blk_drew BK606.out);replace BK610:=am (blk_drew BK610.out);replace BK618:=am (blk_drew BK618.out);replace BK627:=am (blk_drew BK627.out);replace HB:=am (below_drew1 HB.out);have p628:0≤(0:Int):=(by omega);have q628:0<(((rd_T62 y622 x59_2).f1).length:Int):=oa;obtain ⟨ad628,A628_0,c628_0,e628,hx628_0,hl628_0,hi628_0⟩:=at_T103 HR626_1.out 0 p628 q628;have hw628_0:=hx628_0
        (try rw [show ((0:Int)).toNat=0 from rfl] at hw628_0)
        (try rw [show 0 * 1=0 from rfl] at hw628_0)
        (try rw [Addr.add_zero'] at hw628_0)
        cases e628
        have qi628:(0<((rd_T62 y622 x59_2).f1).length)=True:=eq_true (by omega)
        (try rw [show ((0:Int)).toNat=0 from rfl] at hx628_0)
        (try rw [Addr.add_zero'] at hx628_0)
        replace hx628_0:=cb HB hx628_0;have HR628_0:=am hi628_0;have HC628_0:=am hl628_0;clear hi628_0 hl628_0;replace p628:=eq_true p628;replace q628:=eq_true q628;have p629:0≤(0:Int):=(by omega);have q629:0<(((rd_T103 ((rd_T62 y622 x59_2).f1) 0).f0).length:Int):=oa;obtain ⟨ad629,e629,hx629_0⟩:=Kd.at_string HR628_0.out 0 p629 q629;have hw629_0:=hx629_0
        (try rw [show ((0:Int)).toNat=0 from rfl] at hw629_0)
        (try rw [show 0 * 1=0 from rfl] at hw629_0)
        (try rw [Addr.add_zero'] at hw629_0)
        cases e629
        have qi629:(0<((rd_T103 ((rd_T62 y622 x59_2).f1) 0).f0).length)=True:=eq_true (by omega)
        (try rw [show ((0:Int)).toNat=0 from rfl] at hx629_0)
        (try rw [Addr.add_zero'] at hx629_0)
        replace hx629_0:=cb HB hx629_0;replace p629:=eq_true p629;replace q629:=eq_true q629;refine stad 13 [12] (hb6a BK610 (hb2a BK627 (hca (cb HB hw628_0) (hc (cb HB hw629_0))))) (fun hHeld=>?_);refine with_tabW impl_paperOf.tab11 impl_paperOf.bits11 (fun HT_ HW_=>?_)
        generalize w47.drew=w48 at HO_611004 HO_611005 BK606 BK610 BK618 BK627 HB HR628_0 hx628_0 hx629_0 hHeld ⊢
        refine pA 0 66 HT_ ?_;refine pA 2 68 HT_ ?_;refine tA 1 67 HT_ HW_ hHeld ?_;refine tA 3 69 HT_ HW_ hHeld ?_;refine pA 4 70 HT_ ?_;refine pA 5 71 HT_ ?_;refine tA 6 72 HT_ HW_ hHeld ?_;refine pA 7 73 HT_ ?_;refine tA 8 74 HT_ HW_ hHeld ?_;refine oA 9 75 HT_ (fun K hK=>?_);refine value_ (w1:=?_) (v:=?_) (by rfl) rfl ?_ ?_
        rotate_left 2
        ·go_simp
         constructor
         ·rfl
         ·rfl
        refine hK.out _ _ ⟨(blk_cell (blk_alloc BK610.out _) 0).trans rfl,(blk_cell (blk_alloc BK610.out _) 1).trans rfl,(blk_cell (blk_alloc BK610.out _) 2).trans rfl,(blk_cell (blk_alloc BK610.out _) 3).trans rfl,(blk_cell (blk_alloc BK610.out _) 4).trans rfl,(blk_cell (blk_alloc BK610.out _) 5).trans rfl,(blk_cell (blk_alloc BK627.out _) 0).trans rfl,(blk_cell (blk_alloc BK627.out _) 1).trans rfl,(World.cell?_alloc_lt _ _ _ (World.block_lt_of_cell? _ _ (((cb HB hw628_0).trans rfl)))).trans (((cb HB hw628_0).trans rfl)),(World.cell?_alloc_lt _ _ _ (World.block_lt_of_cell? _ _ (((cb HB hw629_0).trans rfl)))).trans (((cb HB hw629_0).trans rfl))⟩ (fun hHeld=>?_);clear hK K;refine nA 75 ?_;refine oA 10 76 HT_ (fun K hK=>?_);refine Kd.R_append_step Kd.string (w0:=w) w.heap.size (by rfl) (.tmp 67) (.tmp 75) 22 9 (.string ⟨#[]⟩) 16 rfl Tryz.underlying22 info9 rfl (by decide) (by omega) u611004 x611004_2 (rdOf ByteArray.empty ((rd_T103 ((rd_T62 y622 x59_2).f1) 0).f0) 0) [.string (rdOf ByteArray.empty ((rd_T103 ((rd_T62 y622 x59_2).f1) 0).f0) 0)] (fun _=>True) (fun _=>False) rfl rfl ?aP (fun _ hk=>hk.elim) ?aF ?aO ?aB ?aS ?aL ?_
        (case aP=>exact rfl)
        (case aB=>exact (bs HB))
        (case aF=>exact (fun _ _=>trivial))
        (case aO=>exact (rs HO_611004))
        (case aS=>exact (below_size (bs HB)))
        (case aL=>have:=LMc41.out;omega)
        intro v631 w49 ho hb hg hat
        rw [← Ny630.out] at ho
        have n0_:=am (Kd.R_over' (rs HO_611005) (Kd.R_typed (rs HO_611004)) (by decide) hg);have n1_:=am (blk_grown (ks BK606) hg (Kd.R_ne HO_611004.out BK606.out (by decide)));have n2_:=am (blk_grown (ks BK610) hg (Kd.R_ne HO_611004.out BK610.out (by decide)));have n3_:=am (blk_grown (ks BK618) hg (Kd.R_ne HO_611004.out BK618.out (by decide)));have n4_:=am (blk_grown (ks BK627) hg (Kd.R_ne HO_611004.out BK627.out (by decide)));have n5_:=am (hb);have n6_:=am (ho);clear HO_611005;clear BK606;clear BK610;clear BK618;clear BK627;clear HB;clear HO_611004;have HO_611005:=n0_;have BK606:=n1_;have BK610:=n2_;have BK618:=n3_;have BK627:=n4_;have HB:=n5_;have HO632:=n6_;clear n0_ n1_ n2_ n3_ n4_ n5_ n6_;clear ho hb hg hat;obtain ⟨Ao50,co50,eo50⟩:=Kd.R_slice HO632.out
        (first|subst eo50|(injection eo50 with f1_ f2_ f3_;have f4_:=f1_.symm;have f5_:=f3_.symm;clear f1_ f2_ f3_;subst f4_;subst f5_))
        refine hK.out _ _ (hb6a BK610 (hb2a BK627 (hca (cb HB hw628_0) (hc (cb HB hw629_0))))).out (fun hHeld=>?_);clear hK K;refine nA 76 ?_;refine pA 11 77 HT_ ?_;refine last_ (i:=12) (N:=none) #[true,true,true,true,true,true,true,true,true,true,true,true,true] rfl rfl (one_of HT_.out (by kernel_rfl)) (by decide) (fun K hK=>?_);have hs51:w49.cell? ⟨gb610,4,none⟩=some (u611004):=(blk_cell BK610.out 4).trans rfl;have hfs51:=blk_frozen BK610.out 4;have hns51_0:=NB606_610.out;have hns51_2:=NB618_610.out;have hns51_3:=NB627_610.out;have hms51_0:=NB610_606.out;have hms51_2:=NB610_618.out;have hms51_3:=NB610_627.out;refine skip_ (w1:=?_) (by rfl) rfl ?_ ?_
        rotate_left
        ·go_simp
         rfl
        refine hK.out _ _ ?_;clear hK K;refine done_ (done_of HT_.out (by kernel_rfl)) ?_
        try go_wp2
        go_roundg k2
        case measure=>have:=HJ10.out;have:=HK2.out;omega
        case rel=>exact ⟨(wrap64 (x59_2+1)),(y630),(x611005_2),(.slice Ao50 y630.length co50),(u611005),fg,H',⟨by have:=HJ10.out;have:=HK2.out;omega⟩,⟨Kd.R_mono (rf (Kd.R_types HO632.out BK610.out (by decide))) (fun _ hk=>trivial)⟩,⟨Kd.R_mono (rf (Kd.R_types HO_611005.out BK610.out (by decide))) (fun _ hk=>trivial)⟩,⟨ks BK606⟩,⟨kp BK610⟩,⟨ks BK618⟩,⟨bs HB⟩⟩
       ·intro c38 c38b0 c38b1 H;replace H:=bo H;obtain ⟨⟨t633,t634,t635,t636,t637⟩,A52,H⟩:=H;(try dsimp only at H)
        revert H;refine ip1 ?_
        intro c53 H;have LMc53:=am c53;clear c53;obtain ⟨y638,hy638⟩:∃ y_:List (S71),y_=(x611005_2++[(⟨t633,t634,t635,t636,t637⟩:S71)]):=⟨_,rfl⟩
        replace H:(impl_paperOf.l0 k2 a0 y622 (y622.length:Int) (wrap64 (x59_2+1)) a0 (rdOf ByteArray.empty ((rd_T103 ((rd_T62 l1 0).f1) 0).f0) 0) x611002_10 t620 x611004_2 y638)=some (r1,r2,r3,r4,r5,r6):=ye hy638 H
        have Ny638:=am hy638;clear hy638;have H':=am H;clear H;have p626:0≤(x59_2:Int):=oa;have q626:x59_2<(y622.length:Int):=oa;obtain ⟨ad626,A626_1,c626_1,e626,hx626_0,hx626_1,hl626_1,hi626_1⟩:=at_T62 HR625.out x59_2 p626 q626
        cases e626
        replace hx626_0:=cb HB hx626_0;replace hx626_1:=cb HB hx626_1;have HR626_1:=am hi626_1;have HC626_1:=am hl626_1;clear hi626_1 hl626_1;replace p626:=eq_true p626;replace q626:=eq_true q626
        try go_wp2_with (first|((with_reducible refine gate_dst (N:=10) rfl ?_);refine bx 10 (cs:=#[.string (⟨#[]⟩:ByteArray),.slice none 0 0]) (t:=62) ?_;intro gb627 hg w54 hbox hb;replace HO_611004:=am (Kd.R_below (rs HO_611004) hb);replace HO_611005:=am (Kd.R_below (rs HO_611005) hb);have BK627:=am (hbox);have GW627:=am ((gs hg (bs HB)));have GE627:=am ((gs hg (bs HB)));replace HB:=am (below_step (bs HB) hb);have NB606_627:=am ((gn hg (ks BK606)));have NB627_606:=am ((gm hg (ks BK606)));replace BK606:=am (blk_below (ks BK606) hb);have NB610_627:=am ((gn hg (ks BK610)));have NB627_610:=am ((gm hg (ks BK610)));replace BK610:=am (blk_below (ks BK610) hb);have NB618_627:=am ((gn hg (ks BK618)));have NB627_618:=am ((gm hg (ks BK618)));replace BK618:=am (blk_below (ks BK618) hb);clear hb hbox hg;have hnb55:=NB627_606.out;have hnc55:=NB606_627.out;have hnb56:=NB627_610.out;have hnc56:=NB610_627.out;have hnb57:=NB627_618.out;have hnc57:=NB618_627.out;have hcz58:=cf2 BK627))
        have n0_:Aside0 (Kd.R Kd.string 9 ((w54.setCell ⟨gb627,0,none⟩ (.string ((rd_T62 y622 x59_2).f0))).setCell ⟨gb627,1,none⟩ (.slice A626_1 ((rd_T62 y622 x59_2).f1).length c626_1)) w.heap.size (fun _=>True) u611004 x611004_2):=⟨Kd.R_mono (rf (Kd.R_types HO_611004.out BK627.out (by decide))) (fun _ hk=>trivial)⟩;have n1_:Aside0 (Kd.R k71 71 ((w54.setCell ⟨gb627,0,none⟩ (.string ((rd_T62 y622 x59_2).f0))).setCell ⟨gb627,1,none⟩ (.slice A626_1 ((rd_T62 y622 x59_2).f1).length c626_1)) w.heap.size (fun _=>True) u611005 x611005_2):=⟨Kd.R_mono (rf (Kd.R_types HO_611005.out BK627.out (by decide))) (fun _ hk=>trivial)⟩;have n2_:=kz ((w54.setCell ⟨gb627,0,none⟩ (.string ((rd_T62 y622 x59_2).f0))).setCell ⟨gb627,1,none⟩ (.slice A626_1 ((rd_T62 y622 x59_2).f1).length c626_1)) BK606;have n3_:=kz ((w54.setCell ⟨gb627,0,none⟩ (.string ((rd_T62 y622 x59_2).f0))).setCell ⟨gb627,1,none⟩ (.slice A626_1 ((rd_T62 y622 x59_2).f1).length c626_1)) BK610;have n4_:=kz ((w54.setCell ⟨gb627,0,none⟩ (.string ((rd_T62 y622 x59_2).f0))).setCell ⟨gb627,1,none⟩ (.slice A626_1 ((rd_T62 y622 x59_2).f1).length c626_1)) BK618;have n5_:Aside0 (((w54.setCell ⟨gb627,0,none⟩ (.string ((rd_T62 y622 x59_2).f0))).setCell ⟨gb627,1,none⟩ (.slice A626_1 ((rd_T62 y622 x59_2).f1).length c626_1)).heap[gb627]? = some (.cells #[.string ((rd_T62 y622 x59_2).f0),.slice A626_1 ((rd_T62 y622 x59_2).f1).length c626_1] 62 (0,0))):=⟨kp BK627⟩;have n6_:Aside0 (Below w.heap.size w ((w54.setCell ⟨gb627,0,none⟩ (.string ((rd_T62 y622 x59_2).f0))).setCell ⟨gb627,1,none⟩ (.slice A626_1 ((rd_T62 y622 x59_2).f1).length c626_1))):=⟨bs HB⟩;(try clear HO_611004);(try clear HO_611005);(try clear BK606);(try clear BK610);(try clear BK618);(try clear BK627);(try clear HB)
        generalize ((w54.setCell ⟨gb627,0,none⟩ (.string ((rd_T62 y622 x59_2).f0))).setCell ⟨gb627,1,none⟩ (.slice A626_1 ((rd_T62 y622 x59_2).f1).length c626_1))=w59 at n0_ n1_ n2_ n3_ n4_ n5_ n6_ ⊢
        have HO_611004:=n0_;have HO_611005:=n1_;have BK606:=n2_;have BK610:=n3_;have BK618:=n4_;have BK627:=n5_;have HB:=n6_;clear n0_ n1_ n2_ n3_ n4_ n5_ n6_;replace HO_611004:=am (Kd.R_drew HO_611004.out);replace HO_611005:=am (Kd.R_drew HO_611005.out);replace BK606:=am (blk_drew BK606.out);replace BK610:=am (blk_drew BK610.out);replace BK618:=am (blk_drew BK618.out);replace BK627:=am (blk_drew BK627.out);replace HB:=am (below_drew1 HB.out);refine stad 9 [8] (hb6a BK610 (hb2 BK627)) (fun hHeld=>?_);refine with_tabW impl_paperOf.tab12 impl_paperOf.bits12 (fun HT_ HW_=>?_)
        generalize w59.drew=w60 at HO_611004 HO_611005 BK606 BK610 BK618 BK627 HB hHeld ⊢
        refine pA 0 78 HT_ ?_;refine pA 2 80 HT_ ?_;refine tA 1 79 HT_ HW_ hHeld ?_;refine tA 3 81 HT_ HW_ hHeld ?_;refine oA 4 82 HT_ (fun K hK=>?_);refine gA Tryz.func88 #[.int .i64 a0,.agg #[.string ((rd_T62 y622 x59_2).f0),.slice A626_1 ((rd_T62 y622 x59_2).f1).length c626_1]] ?_;(with_reducible refine (impl_lineOf.calls k2 a0 ((rd_T62 y622 x59_2).f0) _ _ ((rd_T62 y622 x59_2).f1) t633 t634 t635 t636 t637 _ ?side1 ?side2 (tbP HTP (bs HB)) A52.out).mono ?_)
        (case side1=>repeat (first|exact (Kd.C_below HR626_1.out HB.out)|(with_reducible refine Kd.C_alloc ?_ _)|(with_reducible refine Kd.C_drewN ?_ _)|(with_reducible refine Kd.C_drew ?_)))
        (case side2=>exact HC626_1.out)
        rintro e w61 ⟨rfl,hb⟩;refine ⟨_,rfl,?_⟩;replace HO_611004:=am (Kd.R_below (rs HO_611004) hb);replace HO_611005:=am (Kd.R_below (rs HO_611005) hb);replace BK606:=am (blk_below (ks BK606) hb);replace BK610:=am (blk_below (ks BK610) hb);replace BK618:=am (blk_below (ks BK618) hb);replace BK627:=am (blk_below (ks BK627) hb);replace HB:=am (below_step (bs HB) hb);(try clear hb);(try clear hb2);(try clear hk);(try clear hi);refine hK.out _ _ (hb6a BK610 (hb2 BK627)).out (fun hHeld=>?_);clear hK K;refine nA 82 ?_;refine oA 5 83 HT_ (fun K hK=>?_);refine value_ (w1:=?_) (v:=?_) (by rfl) rfl ?_ ?_
        rotate_left 2
        ·go_simp
         constructor
         ·rfl
         ·rfl
        refine hK.out _ _ ⟨(blk_cell (blk_alloc BK610.out _) 0).trans rfl,(blk_cell (blk_alloc BK610.out _) 1).trans rfl,(blk_cell (blk_alloc BK610.out _) 2).trans rfl,(blk_cell (blk_alloc BK610.out _) 3).trans rfl,(blk_cell (blk_alloc BK610.out _) 4).trans rfl,(blk_cell (blk_alloc BK610.out _) 5).trans rfl,(blk_cell (blk_alloc BK627.out _) 0).trans rfl,(blk_cell (blk_alloc BK627.out _) 1).trans rfl⟩ (fun hHeld=>?_);clear hK K;refine nA 83 ?_;refine oA 6 84 HT_ (fun K hK=>?_);refine Kd.R_append_step k71 (w0:=w) w.heap.size (by rfl) (.tmp 79) (.tmp 83) 28 71 (.agg #[(.int .i64 0),(.string ⟨#[]⟩),(.int .i64 0),(.int .i64 0),(.string ⟨#[]⟩)]) 56 rfl Tryz.underlying28 info71 rfl (by decide) (by omega) u611005 x611005_2 (⟨t633,t634,t635,t636,t637⟩:S71) [.int .i64 t633,.string t634,.int .i64 t635,.int .i64 t636,.string t637] (fun _=>True) (fun _=>False) rfl rfl ?aP (fun _ hk=>hk.elim) ?aF ?aO ?aB ?aS ?aL ?_
        (case aP=>exact k71_mkM _ _ _ (⟨t633,t634,t635,t636,t637⟩:S71))
        (case aB=>exact (bs HB))
        (case aF=>exact (fun _ _=>trivial))
        (case aO=>exact (rs HO_611005))
        (case aS=>exact (below_size (bs HB)))
        (case aL=>have:=LMc53.out;omega)
        intro v639 w62 ho hb hg hat
        rw [← Ny638.out] at ho
        have n0_:=am (Kd.R_over' (rs HO_611004) (Kd.R_typed (rs HO_611005)) (by decide) hg);have n1_:=am (blk_grown (ks BK606) hg (Kd.R_ne HO_611005.out BK606.out (by decide)));have n2_:=am (blk_grown (ks BK610) hg (Kd.R_ne HO_611005.out BK610.out (by decide)));have n3_:=am (blk_grown (ks BK618) hg (Kd.R_ne HO_611005.out BK618.out (by decide)));have n4_:=am (blk_grown (ks BK627) hg (Kd.R_ne HO_611005.out BK627.out (by decide)));have n5_:=am (hb);have n6_:=am (ho);clear HO_611004;clear BK606;clear BK610;clear BK618;clear BK627;clear HB;clear HO_611005;have HO_611004:=n0_;have BK606:=n1_;have BK610:=n2_;have BK618:=n3_;have BK627:=n4_;have HB:=n5_;have HO640:=n6_;clear n0_ n1_ n2_ n3_ n4_ n5_ n6_;clear ho hb hg hat;obtain ⟨Ao63,co63,eo63⟩:=Kd.R_slice HO640.out
        (first|subst eo63|(injection eo63 with f1_ f2_ f3_;have f4_:=f1_.symm;have f5_:=f3_.symm;clear f1_ f2_ f3_;subst f4_;subst f5_))
        refine hK.out _ _ (hb6a BK610 (hb2 BK627)).out (fun hHeld=>?_);clear hK K;refine nA 84 ?_;refine pA 7 85 HT_ ?_;refine last_ (i:=8) (N:=none) #[true,true,true,true,true,true,true,true,true] rfl rfl (one_of HT_.out (by kernel_rfl)) (by decide) (fun K hK=>?_);have hs64:w62.cell? ⟨gb610,5,none⟩=some (u611005):=(blk_cell BK610.out 5).trans rfl;have hfs64:=blk_frozen BK610.out 5;have hns64_0:=NB606_610.out;have hns64_2:=NB618_610.out;have hns64_3:=NB627_610.out;have hms64_0:=NB610_606.out;have hms64_2:=NB610_618.out;have hms64_3:=NB610_627.out;refine skip_ (w1:=?_) (by rfl) rfl ?_ ?_
        rotate_left
        ·go_simp
         rfl
        refine hK.out _ _ ?_;clear hK K;refine done_ (done_of HT_.out (by kernel_rfl)) ?_
        try go_wp2
        go_roundg k2
        case measure=>have:=HJ10.out;have:=HK2.out;omega
        case rel=>exact ⟨(wrap64 (x59_2+1)),(x611004_2),(y638),(u611004),(.slice Ao63 y638.length co63),fg,H',⟨by have:=HJ10.out;have:=HK2.out;omega⟩,⟨Kd.R_mono (rf (Kd.R_types HO_611004.out BK610.out (by decide))) (fun _ hk=>trivial)⟩,⟨Kd.R_mono (rf (Kd.R_types HO640.out BK610.out (by decide))) (fun _ hk=>trivial)⟩,⟨ks BK606⟩,⟨kp BK610⟩,⟨ks BK618⟩,⟨bs HB⟩⟩
      ·intro c35b0 H;replace H:=sj6 H;obtain ⟨rfl,rfl,rfl,rfl,rfl,rfl⟩:=H;have hnb65:=NB610_606.out;have hnc65:=NB606_610.out;have hnb66:=NB610_618.out;have hnc66:=NB618_610.out;have hcz67:=cf6 BK610;have hnb68:=NB606_618.out;have hnc68:=NB618_606.out;have hcz69:=cf6 BK606;obtain ⟨Ao70,co70,eo70⟩:=Kd.R_slice HO_611004.out;subst eo70;obtain ⟨Ao71,co71,eo71⟩:=Kd.R_slice HO_611005.out;subst eo71
       go_wp2
       refine bodyPost_ret (results_cell_row rfl _ _ gb606 30 #[.int .i64 a0,.string (rdOf ByteArray.empty ((rd_T103 ((rd_T62 l1 0).f1) 0).f0) 0),.string x611002_10,.int .i64 t620,.slice Ao70 x611004_2.length co70,.slice Ao71 x611005_2.length co71] (0,0) _ rfl (kp BK606) Tryz.underlying30 rfl (by kernel_rfl)) rfl ?_
       exact ⟨_,_,by first|rfl|(simp [errW_none,errW_some] <;> rfl)|(simp only [← hji18];first|rfl|(simp [errW_none,errW_some] <;> rfl))|(simp [*,errW_none,errW_some] <;> rfl),Kd.R_mono (rf (Kd.R_types HO_611004.out BK606.out (by decide))) (fun _ hk=>trivial),Kd.R_mono (rf (Kd.R_types HO_611005.out BK606.out (by decide))) (fun _ hk=>trivial),bs HB⟩
 ·rw [if_neg c3] at H
  exact absurd H (by simp)
end Go.Proofs.YtogkcllenfkdmaaGreatDoor.QP
namespace Go.Proofs.YtogkcllenfkdmaaGreatDoor.QP
open Go.RowKit Go.Proofs.YtogkcllenfkdmaaGreatDoorW.PrintWords Go.Proofs.YtogkcllenfkdmaaGreatDoorW.PrintLast Go.Proofs.YtogkcllenfkdmaaGreatDoorW.PrintMore
attribute [local go_sem] max2_int min2_int max_two min_two max_three min_three max_four min_four   -- for this text's walks alone
set_option linter.unusedVariables false
set_option linter.unusedSimpArgs false
attribute [local go_sem high] eqA71
set_option maxHeartbeats 8000000 in
set_option maxRecDepth 100000 in
theorem slices_Equal_string_string.calls (k:Nat) (A0:Option Addr) (c0:Nat) (l0:List ByteArray) (A1:Option Addr) (c1:Nat) (l1:List ByteArray) (r:Bool) (w:World) (hr0:Kd.C Kd.string w A0 l0.length l0) (hc0:l0.length≤c0) (hr1:Kd.C Kd.string w A1 l1.length l1) (hc1:l1.length≤c1) (H:slices_Equal_string_string.f k l0 l1=some r) :
  Calls Tryz.prog 85 #[.slice A0 l0.length c0,.slice A1 l1.length c1] w fun e w'=>e=.returned (.bool r)∧Drawn0 w w':=by
 have HR0:=am hr0;have HC0:=am hc0;clear hr0 hc0;have HR1:=am hr1;have HC1:=am hc1;clear hr1 hc1;unfold slices_Equal_string_string.f at H
 revert H;refine ie2k ?_ ?_
 ·intro c3 c3b0 c3b1 H
  have c3b2:(l0.length == l1.length)=true:=by first|simpa using c3|(simp at c3 ⊢;omega)
  clear c3;have H':=am H;clear H
  go_in
  go_wp2
  repeat (go_quiet (fail);try go_wp2)
  go_loopg [13] k (fun kq v13 w'=>∃ (x13_1:Int),v13=.int .i64 x13_1∧Aside0 (slices_Equal_string_string.l0 kq l0 l1 (l0.length:Int) x13_1=some r)∧Aside0 (kq≤k)∧Drawn0 w w')
  case atStart=>exact ⟨(0),fg,H',⟨Nat.le_refl _⟩,by repeat (first|exact Drawn0.refl _|apply Drawn0.step)⟩
  case round =>
   clear H'
   try clear c1
   try clear c3
   try clear c3b0
   try clear c3b1
   try clear c3b2
   obtain ⟨x13_1,rfl,HA,HK1,⟨m1,rfl⟩⟩:=hrel
   cases gk with
   | zero=>exact absurd HA.out (by simp [slices_Equal_string_string.l0])
   | succ k1 =>
    have H:=HA.out;clear HA;simp only [slices_Equal_string_string.l0] at H
    revert H;refine id2 ?_ ?_
    ·intro c4b0 H
     revert H;refine id1 ?_
     intro c5b0 H
     revert H;refine id1 ?_
     intro c6b0 H
     revert H;refine id1 ?_
     intro c7b0 H
     revert H;refine ie2 ?_ ?_
     ·intro c8b0 c8b1 H;have H':=am H;clear H;have p641:0≤(x13_1:Int):=oa;have q641:x13_1<(l0.length:Int):=oa;obtain ⟨ad641,e641,hx641_0⟩:=Kd.at_string HR0.out x13_1 p641 q641
      cases e641
      replace p641:=eq_true p641;replace q641:=eq_true q641;have p642:0≤(x13_1:Int):=oa;have q642:x13_1<(l1.length:Int):=oa;obtain ⟨ad642,e642,hx642_0⟩:=Kd.at_string HR1.out x13_1 p642 q642
      cases e642
      replace p642:=eq_true p642;replace q642:=eq_true q642
      go_wp2
      repeat (go_quiet (fail);try go_wp2)
      go_roundg k1
      case measure=>have:=HK1.out;omega
      case rel=>exact ⟨(wrap64 (x13_1+1)),fg,H',⟨by have:=HK1.out;omega⟩,by repeat (first|exact Drawn0.refl _|apply Drawn0.step)⟩
     ·intro c8 c8b0 c8b1 H;obtain rfl:=si H;have p641:0≤(x13_1:Int):=oa;have q641:x13_1<(l0.length:Int):=oa;obtain ⟨ad641,e641,hx641_0⟩:=Kd.at_string HR0.out x13_1 p641 q641
      cases e641
      replace p641:=eq_true p641;replace q641:=eq_true q641;have p642:0≤(x13_1:Int):=oa;have q642:x13_1<(l1.length:Int):=oa;obtain ⟨ad642,e642,hx642_0⟩:=Kd.at_string HR1.out x13_1 p642 q642
      cases e642
      replace p642:=eq_true p642;replace q642:=eq_true q642
      go_wp2
      repeat (go_quiet (fail);try go_wp2)
      go_ret
      exact ⟨fg,by repeat (first|exact Drawn0.refl _|apply Drawn0.step)⟩
    ·intro c4b0 H;obtain rfl:=si H
     go_wp2
     repeat (go_quiet (fail);try go_wp2)
     go_ret
     exact ⟨fg,by repeat (first|exact Drawn0.refl _|apply Drawn0.step)⟩
 ·intro c3 c3b0 c3b1 H
  have c3b2:(l0.length == l1.length)=false:=by first|simpa using c3|(simp at c3 ⊢;omega)
  obtain rfl:=si H
  go_in
  go_wp2
  repeat (go_quiet (fail);try go_wp2)
  go_ret
  exact ⟨fg,by repeat (first|exact Drawn0.refl _|apply Drawn0.step)⟩
set_option maxHeartbeats 8000000 in
set_option maxRecDepth 100000 in
theorem impl_Line.calls (k:Nat) (A0:Option Addr) (c0:Nat) (l0:List (S71)) (A1:Option Addr) (c1:Nat) (l1:List (S71)) (r:Bool) (w:World) (hr0:Kd.C k71 w A0 l0.length l0) (hc0:l0.length≤c0) (hr1:Kd.C k71 w A1 l1.length l1) (hc1:l1.length≤c1) (H:impl_Line.f k l0 l1=some r) :
  Calls Tryz.prog 86 #[.slice A0 l0.length c0,.slice A1 l1.length c1] w fun e w'=>e=.returned (.bool r)∧Drawn0 w w':=by
 have hu71:=Tryz.underlying71;have HR0:=am hr0;have HC0:=am hc0;clear hr0 hc0;have HR1:=am hr1;have HC1:=am hc1;clear hr1 hc1;unfold impl_Line.f at H
 revert H;refine ie2k ?_ ?_
 ·intro c3 c3b0 c3b1 H
  have c3b2:(l0.length == l1.length)=true:=by first|simpa using c3|(simp at c3 ⊢;omega)
  clear c3;have H':=am H;clear H
  go_in
  go_wp2
  repeat (go_quiet (fail);try go_wp2)
  go_loopg [13] k (fun kq v13 w'=>∃ (x13_1:Int),v13=.int .i64 x13_1∧Aside0 (impl_Line.l0 kq l0 l1 (l0.length:Int) x13_1=some r)∧Aside0 (kq≤k)∧Drawn0 w w')
  case atStart=>exact ⟨(0),fg,H',⟨Nat.le_refl _⟩,by repeat (first|exact Drawn0.refl _|apply Drawn0.step)⟩
  case round =>
   clear H'
   try clear c1
   try clear c3
   try clear c3b0
   try clear c3b1
   try clear c3b2
   obtain ⟨x13_1,rfl,HA,HK1,⟨m1,rfl⟩⟩:=hrel
   cases gk with
   | zero=>exact absurd HA.out (by simp [impl_Line.l0])
   | succ k1 =>
    have H:=HA.out;clear HA;simp only [impl_Line.l0] at H
    revert H;refine id2 ?_ ?_
    ·intro c4b0 H
     revert H;refine id1 ?_
     intro c5b0 H
     revert H;refine id1 ?_
     intro c6b0 H
     revert H;refine id1 ?_
     intro c7b0 H
     revert H;refine ip2 ?_ ?_
     ·intro c8 H;have c8b0:(!(((rd_T71 l0 x13_1).f0) == ((rd_T71 l1 x13_1).f0)) || (!((((rd_T71 l0 x13_1).f1).toList) == (((rd_T71 l1 x13_1).f1).toList)) || (!(((rd_T71 l0 x13_1).f2) == ((rd_T71 l1 x13_1).f2)) || (!(((rd_T71 l0 x13_1).f3) == ((rd_T71 l1 x13_1).f3)) || (!((((rd_T71 l0 x13_1).f4).toList) == (((rd_T71 l1 x13_1).f4).toList)))))))=true:=c8;clear c8;obtain rfl:=si H;have p643:0≤(x13_1:Int):=oa;have q643:x13_1<(l0.length:Int):=oa;obtain ⟨ad643,e643,hx643_0,hx643_1,hx643_2,hx643_3,hx643_4⟩:=at_T71 HR0.out x13_1 p643 q643
      cases e643
      replace p643:=eq_true p643;replace q643:=eq_true q643;have p644:0≤(x13_1:Int):=oa;have q644:x13_1<(l1.length:Int):=oa;obtain ⟨ad644,e644,hx644_0,hx644_1,hx644_2,hx644_3,hx644_4⟩:=at_T71 HR1.out x13_1 p644 q644
      cases e644
      replace p644:=eq_true p644;replace q644:=eq_true q644
      go_wp2
      repeat (go_quiet (fail);try go_wp2)
      go_ret
      exact ⟨fg,by repeat (first|exact Drawn0.refl _|apply Drawn0.step)⟩
     ·intro c8 H
      have c8b0:(!(((rd_T71 l0 x13_1).f0) == ((rd_T71 l1 x13_1).f0)) || (!((((rd_T71 l0 x13_1).f1).toList) == (((rd_T71 l1 x13_1).f1).toList)) || (!(((rd_T71 l0 x13_1).f2) == ((rd_T71 l1 x13_1).f2)) || (!(((rd_T71 l0 x13_1).f3) == ((rd_T71 l1 x13_1).f3)) || (!((((rd_T71 l0 x13_1).f4).toList) == (((rd_T71 l1 x13_1).f4).toList)))))))=false:=by simpa using c8
      clear c8;have H':=am H;clear H;have p643:0≤(x13_1:Int):=oa;have q643:x13_1<(l0.length:Int):=oa;obtain ⟨ad643,e643,hx643_0,hx643_1,hx643_2,hx643_3,hx643_4⟩:=at_T71 HR0.out x13_1 p643 q643
      cases e643
      replace p643:=eq_true p643;replace q643:=eq_true q643;have p644:0≤(x13_1:Int):=oa;have q644:x13_1<(l1.length:Int):=oa;obtain ⟨ad644,e644,hx644_0,hx644_1,hx644_2,hx644_3,hx644_4⟩:=at_T71 HR1.out x13_1 p644 q644
      cases e644
      replace p644:=eq_true p644;replace q644:=eq_true q644
      go_wp2
      repeat (go_quiet (fail);try go_wp2)
      go_roundg k1
      case measure=>have:=HK1.out;omega
      case rel=>exact ⟨(wrap64 (x13_1+1)),fg,H',⟨by have:=HK1.out;omega⟩,by repeat (first|exact Drawn0.refl _|apply Drawn0.step)⟩
    ·intro c4b0 H;obtain rfl:=si H
     go_wp2
     repeat (go_quiet (fail);try go_wp2)
     go_ret
     exact ⟨fg,by repeat (first|exact Drawn0.refl _|apply Drawn0.step)⟩
 ·intro c3 c3b0 c3b1 H
  have c3b2:(l0.length == l1.length)=false:=by first|simpa using c3|(simp at c3 ⊢;omega)
  obtain rfl:=si H
  go_in
  go_wp2
  repeat (go_quiet (fail);try go_wp2)
  go_ret
  exact ⟨fg,by repeat (first|exact Drawn0.refl _|apply Drawn0.step)⟩
end Go.Proofs.YtogkcllenfkdmaaGreatDoor.QP
