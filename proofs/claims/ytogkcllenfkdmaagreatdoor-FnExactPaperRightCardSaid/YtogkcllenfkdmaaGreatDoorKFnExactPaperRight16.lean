-- Merged by a program of this session (wip/tool/pack.py) out of its own texts for this claim.
import Derived.Test.YtogkcllenfkdmaaGreatDoorKFnExactPaperRight0
import Derived.Test.YtogkcllenfkdmaaGreatDoorKFnExactPaperRight1
import Derived.Test.YtogkcllenfkdmaaGreatDoorKFnExactPaperRight2
import Derived.Test.YtogkcllenfkdmaaGreatDoorKFnExactPaperRight3
import Derived.Test.YtogkcllenfkdmaaGreatDoorKFnExactPaperRight4
import Derived.Test.YtogkcllenfkdmaaGreatDoorKFnExactPaperRight5
import Derived.Test.YtogkcllenfkdmaaGreatDoorKFnExactPaperRight6
import Derived.Test.YtogkcllenfkdmaaGreatDoorKFnExactPaperRight7
import Derived.Test.YtogkcllenfkdmaaGreatDoorKFnExactPaperRight9
import Derived.Test.YtogkcllenfkdmaaGreatDoorKFnExactPaperRight11
import Derived.Test.YtogkcllenfkdmaaGreatDoorKFnExactPaperRight12
import Derived.Test.YtogkcllenfkdmaaGreatDoorKFnExactPaperRight14
import Derived.Test.YtogkcllenfkdmaaGreatDoorKFnExactPaperRight15
namespace Go.Proofs.YtogkcllenfkdmaaGreatDoor.QR
open Go.RowKit Go.Proofs.YtogkcllenfkdmaaGreatDoorW.PrintWords Go.Proofs.YtogkcllenfkdmaaGreatDoorW.PrintLast Go.Proofs.YtogkcllenfkdmaaGreatDoorW.PrintMore
attribute [local go_sem] max2_int min2_int max_two min_two max_three min_three max_four min_four   -- for this text's walks alone
set_option linter.unusedVariables false
set_option linter.unusedSimpArgs false
def impl_paperOf.T4:Bool × List (List Nat × List Nat):=(true,[([],[]),([0],[0]),([1],[1]),([2],[2]),([],[]),([4],[4]),([5],[5]),([6],[6]),([7],[7]),([8],[8]),([3,9],[3,9]),([10],[10]),([],[]),([12,11,0,1,2,3,4,5,6,7,8,9,10,11,12],[11,12])])
def impl_paperOf.B4:List Nat:=[0,1,3,7,0,16,48,112,240,496,1023,2047,0,8191]
theorem impl_paperOf.tab4:rtab .any (opsOf Tryz.f43 4)=impl_paperOf.T4:=by kernel_rfl
theorem impl_paperOf.bits4:waitsOk impl_paperOf.T4.2 impl_paperOf.B4=true:=by kernel_rfl
def impl_paperOf.T11:Bool × List (List Nat × List Nat):=(true,[([],[]),([0],[0]),([],[]),([2],[2]),([3],[3]),([4],[4]),([5],[5]),([6],[6]),([7],[7]),([8],[8]),([1,9],[1,9]),([0,1,2,3,4,5,6,7,8,9,10],[]),([11,10,10,0,1,2,3,4,5,6,7,8,9,10],[10,11])])
def impl_paperOf.B11:List Nat:=[0,1,0,4,12,28,60,124,252,508,1023,2047,4095]
theorem impl_paperOf.tab11:rtab .any (opsOf Tryz.f43 11)=impl_paperOf.T11:=by kernel_rfl
theorem impl_paperOf.bits11:waitsOk impl_paperOf.T11.2 impl_paperOf.B11=true:=by kernel_rfl
def impl_paperOf.T12:Bool × List (List Nat × List Nat):=(true,[([],[]),([0],[0]),([],[]),([],[]),([2,3],[2,3]),([4],[4]),([1,5,4],[1,5]),([0,1,2,3,4,5,6],[]),([7,6,6,0,1,2,3,4,5,6],[6,7])])
def impl_paperOf.B12:List Nat:=[0,1,0,0,12,28,63,127,255]
theorem impl_paperOf.tab12:rtab .any (opsOf Tryz.f43 12)=impl_paperOf.T12:=by kernel_rfl
theorem impl_paperOf.bits12:waitsOk impl_paperOf.T12.2 impl_paperOf.B12=true:=by kernel_rfl
set_option maxHeartbeats 8000000 in
set_option maxRecDepth 100000 in
theorem impl_paperOf.calls (k:Nat) (a0:Int) (A1:Option Addr) (c1:Nat) (l1:List (S62)) (r1:Int) (r2:ByteArray) (r3:ByteArray) (r4:Int) (r5:List ByteArray) (r6:List (S71)) (w:World) (hr1:Kd.C k62 w A1 l1.length l1) (hc1:l1.length≤c1) (hTP:TbP w) (H:impl_paperOf.f k a0 l1=some (r1,r2,r3,r4,r5,r6)) :
  Calls Tryz.prog 43 #[.int .i64 a0,.slice A1 l1.length c1] w fun e w'=>∃ v4_ v5_:Value,e=.returned (.agg #[.int .i64 r1,.string r2,.string r3,.int .i64 r4,v4_,v5_])∧Kd.R Kd.string 9 w' w.heap.size (fun _=>True) v4_ r5∧Kd.R k71 71 w' w.heap.size (fun _=>True) v5_ r6∧Below w.heap.size w w':=by
 have HTP:=am hTP;clear hTP
 have hu30:=Tryz.underlying30;have hu103:=Tryz.underlying103;have hu62:=Tryz.underlying62;have HR1:=am hr1;have HC1:=am hc1;clear hr1 hc1;have HB:=am (Below.refl w.heap.size w);unfold impl_paperOf.f at H
 by_cases c3:0<(l1.length:Int)
 ·rw [if_pos c3] at H;have c3b0:decide (0<(l1.length:Int))=true:=decide_eq_true c3;have c3b1:decide (0<l1.length)=true:=decide_eq_true (by omega);clear c3
  revert H;refine id1k ?_
  intro c4 c4b0 H;have c4b1:decide (0<((rd_T62 l1 0).f1).length)=true:=decide_eq_true (by omega);clear c4
  revert H;refine id1k ?_
  intro c5 c5b0 H;have c5b1:decide (0<((rd_T103 ((rd_T62 l1 0).f1) 0).f0).length)=true:=decide_eq_true (by omega);clear c5;replace H:=bo H;obtain ⟨t608,A6,H⟩:=H
  go_in
  try go_wp2_with (first|((with_reducible refine gate_dst (N:=4) rfl ?_);refine bx 4 (cs:=#[.int .i64 0,.string (⟨#[]⟩:ByteArray),.string (⟨#[]⟩:ByteArray),.int .i64 0,.slice none 0 0,.slice none 0 0]) (t:=30) ?_;intro gb603 hg w7 hbox hb;have BK603:=am (hbox);have GW603:=am ((gs hg (bs HB)));have GE603:=am ((gs hg (bs HB)));replace HB:=am (below_step (bs HB) hb);clear hb hbox hg;have p604:0≤(0:Int):=(by omega);have q604:0<(l1.length:Int):=oa;obtain ⟨ad604,A604_1,c604_1,e604,hx604_0,hx604_1,hl604_1,hi604_1⟩:=at_T62 HR1.out 0 p604 q604;cases e604;have qi604:(0<l1.length)=True:=eq_true (by omega);(try rw [show ((0:Int)).toNat=0 from rfl] at hx604_0);(try rw [show 0 * 2=0 from rfl] at hx604_0);(try rw [Addr.add_zero'] at hx604_0);(try rw [show ((0:Int)).toNat=0 from rfl] at hx604_1);(try rw [show 0 * 2=0 from rfl] at hx604_1);(try rw [Addr.add_zero'] at hx604_1);replace hx604_0:=cb HB hx604_0;replace hx604_1:=cb HB hx604_1;have HR604_1:=am hi604_1;have HC604_1:=am hl604_1;clear hi604_1 hl604_1;replace p604:=eq_true p604;replace q604:=eq_true q604;have p605:0≤(0:Int):=(by omega);have q605:0<(((rd_T62 l1 0).f1).length:Int):=oa;obtain ⟨ad605,A605_0,c605_0,e605,hx605_0,hl605_0,hi605_0⟩:=at_T103 HR604_1.out 0 p605 q605;cases e605;have qi605:(0<((rd_T62 l1 0).f1).length)=True:=eq_true (by omega);(try rw [show ((0:Int)).toNat=0 from rfl] at hx605_0);(try rw [Addr.add_zero'] at hx605_0);replace hx605_0:=cb HB hx605_0;have HR605_0:=am hi605_0;have HC605_0:=am hl605_0;clear hi605_0 hl605_0;replace p605:=eq_true p605;replace q605:=eq_true q605;have p606:0≤(0:Int):=(by omega);have q606:0<(((rd_T103 ((rd_T62 l1 0).f1) 0).f0).length:Int):=oa;obtain ⟨ad606,e606,hx606_0⟩:=Kd.at_string HR605_0.out 0 p606 q606;cases e606;have qi606:(0<((rd_T103 ((rd_T62 l1 0).f1) 0).f0).length)=True:=eq_true (by omega);(try rw [show ((0:Int)).toNat=0 from rfl] at hx606_0);(try rw [Addr.add_zero'] at hx606_0);replace hx606_0:=cb HB hx606_0;replace p606:=eq_true p606;replace q606:=eq_true q606)|((with_reducible refine gate_dst (N:=5) rfl ?_);refine bx 5 (cs:=#[.int .i64 0,.string (⟨#[]⟩:ByteArray),.string (⟨#[]⟩:ByteArray),.int .i64 0,.slice none 0 0,.slice none 0 0]) (t:=30) ?_;intro gb607 hg w8 hbox hb;have BK607:=am (hbox);have GW607:=am ((gs hg (bs HB)));have GE607:=am ((gs hg (bs HB)));replace HB:=am (below_step (bs HB) hb);have NB603_607:=am ((gn hg (ks BK603)));have NB607_603:=am ((gm hg (ks BK603)));replace BK603:=am (blk_below (ks BK603) hb);clear hb hbox hg;have hnb9:=NB607_603.out;have hnc9:=NB603_607.out;have hcz10:=cf6 BK607))
  go_at_call 81;(with_reducible refine (impl_hasTwo.calls a0 t608 _ A6.out).mono ?_);rintro e w' ⟨rfl,⟨nd,rfl⟩⟩;have HC11:=am H;clear H
  go_upto_if 23 with (fail)
  go_cut [] (fun wc=>∃ (kq:Nat) (x608002_10:ByteArray),Aside0 (impl_paperOf.j0 kq a0 l1 a0 (rdOf ByteArray.empty ((rd_T103 ((rd_T62 l1 0).f1) 0).f0) 0) x608002_10 0=some (r1,r2,r3,r4,r5,r6))∧Aside0 (kq≤k)∧Aside0 (wc.heap[gb603]? = some (.cells #[.int .i64 0,.string (⟨#[]⟩:ByteArray),.string (⟨#[]⟩:ByteArray),.int .i64 0,(.slice none 0 0),(.slice none 0 0)] 30 (0,0)))∧Aside0 (wc.heap[gb607]? = some (.cells #[.int .i64 a0,.string (rdOf ByteArray.empty ((rd_T103 ((rd_T62 l1 0).f1) 0).f0) 0),.string x608002_10,.int .i64 0,(.slice none 0 0),(.slice none 0 0)] 30 (0,0)))∧Aside0 (Below w.heap.size w wc))
  case first =>
   have H:=HC11.out;clear HC11
   obtain rfl|rfl:=bt t608
   ·replace H:=itT H
    revert H;refine id1k ?_
    intro c13 c13b0 H;have c13b1:decide (1<((rd_T62 l1 0).f1).length)=true:=decide_eq_true (by omega);clear c13
    (first|rw [c13b0]|(simp only [i64_w,i32_w];rw [c13b0])|rw [c13b1]|skip)
    revert H;refine id1k ?_
    intro c14 c14b0 H;have c14b1:decide (0<((rd_T103 ((rd_T62 l1 0).f1) 1).f0).length)=true:=decide_eq_true (by omega);clear c14;have H':=am H;clear H;have p609:0≤(0:Int):=(by omega);have q609:0<(l1.length:Int):=oa;obtain ⟨ad609,A609_1,c609_1,e609,hx609_0,hx609_1,hl609_1,hi609_1⟩:=at_T62 HR1.out 0 p609 q609;obtain rfl:ad604=ad609:=(by injection e609);have qi609:(0<l1.length)=True:=eq_true (by omega)
    (try rw [show ((0:Int)).toNat=0 from rfl] at hx609_0)
    (try rw [show 0 * 2=0 from rfl] at hx609_0)
    (try rw [Addr.add_zero'] at hx609_0)
    (try rw [show ((0:Int)).toNat=0 from rfl] at hx609_1)
    (try rw [show 0 * 2=0 from rfl] at hx609_1)
    (try rw [Addr.add_zero'] at hx609_1)
    have hn609_0:ad604.block≠gb607:=Nat.ne_of_lt (Nat.lt_of_lt_of_le (by have:=World.block_lt_of_cell? _ _ hx609_0;first|rwa [add_block] at this|exact this) GW607.out);have hn609_1:ad604.block≠gb607:=Nat.ne_of_lt (Nat.lt_of_lt_of_le (by have:=World.block_lt_of_cell? _ _ hx609_0;first|rwa [add_block] at this|exact this) GW607.out);have hn609_2:ad604.block≠gb607:=Nat.ne_of_lt (Nat.lt_of_lt_of_le (by have:=World.block_lt_of_cell? _ _ hx609_0;first|rwa [add_block] at this|exact this) GW607.out);have hn609_3:ad604.block≠gb607:=Nat.ne_of_lt (Nat.lt_of_lt_of_le (by have:=World.block_lt_of_cell? _ _ hx609_0;first|rwa [add_block] at this|exact this) GW607.out);have hn609_4:ad604.block≠gb607:=Nat.ne_of_lt (Nat.lt_of_lt_of_le (by have:=World.block_lt_of_cell? _ _ hx609_0;first|rwa [add_block] at this|exact this) GW607.out);have hn609_5:ad604.block≠gb607:=Nat.ne_of_lt (Nat.lt_of_lt_of_le (by have:=World.block_lt_of_cell? _ _ hx609_0;first|rwa [add_block] at this|exact this) GW607.out);replace hx609_0:=cb HB hx609_0;replace hx609_1:=cb HB hx609_1;have HR609_1:=am hi609_1;have HC609_1:=am hl609_1;clear hi609_1 hl609_1;replace hx609_0:=(cell_far (p:=⟨gb607,0,none⟩) (by first|(rw [add_block];exact hn609_0)|(show (Addr.add _ _).block≠_;rw [add_block];exact hn609_0)|exact hn609_0) (.int .i64 a0)).trans hx609_0;replace hx609_1:=(cell_far (p:=⟨gb607,0,none⟩) (by first|(rw [add_block];exact hn609_0)|(show (Addr.add _ _).block≠_;rw [add_block];exact hn609_0)|exact hn609_0) (.int .i64 a0)).trans hx609_1;replace hx609_0:=(cell_far (p:=⟨gb607,1,none⟩) (by first|(rw [add_block];exact hn609_1)|(show (Addr.add _ _).block≠_;rw [add_block];exact hn609_1)|exact hn609_1) (.string (rdOf ByteArray.empty ((rd_T103 ((rd_T62 l1 0).f1) 0).f0) 0))).trans hx609_0;replace hx609_1:=(cell_far (p:=⟨gb607,1,none⟩) (by first|(rw [add_block];exact hn609_1)|(show (Addr.add _ _).block≠_;rw [add_block];exact hn609_1)|exact hn609_1) (.string (rdOf ByteArray.empty ((rd_T103 ((rd_T62 l1 0).f1) 0).f0) 0))).trans hx609_1;replace hx609_0:=(cell_far (p:=⟨gb607,2,none⟩) (by first|(rw [add_block];exact hn609_2)|(show (Addr.add _ _).block≠_;rw [add_block];exact hn609_2)|exact hn609_2) (.string (⟨#[]⟩:ByteArray))).trans hx609_0;replace hx609_1:=(cell_far (p:=⟨gb607,2,none⟩) (by first|(rw [add_block];exact hn609_2)|(show (Addr.add _ _).block≠_;rw [add_block];exact hn609_2)|exact hn609_2) (.string (⟨#[]⟩:ByteArray))).trans hx609_1;replace hx609_0:=(cell_far (p:=⟨gb607,3,none⟩) (by first|(rw [add_block];exact hn609_3)|(show (Addr.add _ _).block≠_;rw [add_block];exact hn609_3)|exact hn609_3) (.int .i64 0)).trans hx609_0;replace hx609_1:=(cell_far (p:=⟨gb607,3,none⟩) (by first|(rw [add_block];exact hn609_3)|(show (Addr.add _ _).block≠_;rw [add_block];exact hn609_3)|exact hn609_3) (.int .i64 0)).trans hx609_1;replace hx609_0:=(cell_far (p:=⟨gb607,4,none⟩) (by first|(rw [add_block];exact hn609_4)|(show (Addr.add _ _).block≠_;rw [add_block];exact hn609_4)|exact hn609_4) (.slice none 0 0)).trans hx609_0;replace hx609_1:=(cell_far (p:=⟨gb607,4,none⟩) (by first|(rw [add_block];exact hn609_4)|(show (Addr.add _ _).block≠_;rw [add_block];exact hn609_4)|exact hn609_4) (.slice none 0 0)).trans hx609_1;replace hx609_0:=(cell_far (p:=⟨gb607,5,none⟩) (by first|(rw [add_block];exact hn609_5)|(show (Addr.add _ _).block≠_;rw [add_block];exact hn609_5)|exact hn609_5) (.slice none 0 0)).trans hx609_0;replace hx609_1:=(cell_far (p:=⟨gb607,5,none⟩) (by first|(rw [add_block];exact hn609_5)|(show (Addr.add _ _).block≠_;rw [add_block];exact hn609_5)|exact hn609_5) (.slice none 0 0)).trans hx609_1;clear hn609_0;clear hn609_1;clear hn609_2;clear hn609_3;clear hn609_4;clear hn609_5;replace p609:=eq_true p609;replace q609:=eq_true q609;have p610:0≤(1:Int):=(by omega);have q610:1<(((rd_T62 l1 0).f1).length:Int):=oa;obtain ⟨ad610,A610_0,c610_0,e610,hx610_0,hl610_0,hi610_0⟩:=at_T103 HR609_1.out 1 p610 q610
    cases e610
    (try simp only [show (1:Int).toNat=1 from rfl,Nat.reduceMul,Nat.reduceEqDiff,Go.Addr.add,↓reduceIte] at hx610_0)
    have qi610:(1<((rd_T62 l1 0).f1).length)=True:=eq_true (by omega)
    (try rw [show ((1:Int)).toNat=1 from rfl] at hx610_0)
    have hn610_0:ad610.block≠gb607:=Nat.ne_of_lt (Nat.lt_of_lt_of_le (by have:=World.block_lt_of_cell? _ _ hx610_0;first|rwa [add_block] at this|exact this) GW607.out);have hn610_1:ad610.block≠gb607:=Nat.ne_of_lt (Nat.lt_of_lt_of_le (by have:=World.block_lt_of_cell? _ _ hx610_0;first|rwa [add_block] at this|exact this) GW607.out);have hn610_2:ad610.block≠gb607:=Nat.ne_of_lt (Nat.lt_of_lt_of_le (by have:=World.block_lt_of_cell? _ _ hx610_0;first|rwa [add_block] at this|exact this) GW607.out);have hn610_3:ad610.block≠gb607:=Nat.ne_of_lt (Nat.lt_of_lt_of_le (by have:=World.block_lt_of_cell? _ _ hx610_0;first|rwa [add_block] at this|exact this) GW607.out);have hn610_4:ad610.block≠gb607:=Nat.ne_of_lt (Nat.lt_of_lt_of_le (by have:=World.block_lt_of_cell? _ _ hx610_0;first|rwa [add_block] at this|exact this) GW607.out);have hn610_5:ad610.block≠gb607:=Nat.ne_of_lt (Nat.lt_of_lt_of_le (by have:=World.block_lt_of_cell? _ _ hx610_0;first|rwa [add_block] at this|exact this) GW607.out);replace hx610_0:=cb HB hx610_0;have HR610_0:=am hi610_0;have HC610_0:=am hl610_0;clear hi610_0 hl610_0;replace hx610_0:=(cell_far (p:=⟨gb607,0,none⟩) (by first|(rw [add_block];exact hn610_0)|(show (Addr.add _ _).block≠_;rw [add_block];exact hn610_0)|exact hn610_0) (.int .i64 a0)).trans hx610_0;replace hx610_0:=(cell_far (p:=⟨gb607,1,none⟩) (by first|(rw [add_block];exact hn610_1)|(show (Addr.add _ _).block≠_;rw [add_block];exact hn610_1)|exact hn610_1) (.string (rdOf ByteArray.empty ((rd_T103 ((rd_T62 l1 0).f1) 0).f0) 0))).trans hx610_0;replace hx610_0:=(cell_far (p:=⟨gb607,2,none⟩) (by first|(rw [add_block];exact hn610_2)|(show (Addr.add _ _).block≠_;rw [add_block];exact hn610_2)|exact hn610_2) (.string (⟨#[]⟩:ByteArray))).trans hx610_0;replace hx610_0:=(cell_far (p:=⟨gb607,3,none⟩) (by first|(rw [add_block];exact hn610_3)|(show (Addr.add _ _).block≠_;rw [add_block];exact hn610_3)|exact hn610_3) (.int .i64 0)).trans hx610_0;replace hx610_0:=(cell_far (p:=⟨gb607,4,none⟩) (by first|(rw [add_block];exact hn610_4)|(show (Addr.add _ _).block≠_;rw [add_block];exact hn610_4)|exact hn610_4) (.slice none 0 0)).trans hx610_0;replace hx610_0:=(cell_far (p:=⟨gb607,5,none⟩) (by first|(rw [add_block];exact hn610_5)|(show (Addr.add _ _).block≠_;rw [add_block];exact hn610_5)|exact hn610_5) (.slice none 0 0)).trans hx610_0;clear hn610_0;clear hn610_1;clear hn610_2;clear hn610_3;clear hn610_4;clear hn610_5;replace p610:=eq_true p610;replace q610:=eq_true q610;have p611:0≤(0:Int):=(by omega);have q611:0<(((rd_T103 ((rd_T62 l1 0).f1) 1).f0).length:Int):=oa;obtain ⟨ad611,e611,hx611_0⟩:=Kd.at_string HR610_0.out 0 p611 q611
    cases e611
    have qi611:(0<((rd_T103 ((rd_T62 l1 0).f1) 1).f0).length)=True:=eq_true (by omega)
    (try rw [show ((0:Int)).toNat=0 from rfl] at hx611_0)
    (try rw [Addr.add_zero'] at hx611_0)
    have hn611_0:ad611.block≠gb607:=Nat.ne_of_lt (Nat.lt_of_lt_of_le (by have:=World.block_lt_of_cell? _ _ hx611_0;first|rwa [add_block] at this|exact this) GW607.out);have hn611_1:ad611.block≠gb607:=Nat.ne_of_lt (Nat.lt_of_lt_of_le (by have:=World.block_lt_of_cell? _ _ hx611_0;first|rwa [add_block] at this|exact this) GW607.out);have hn611_2:ad611.block≠gb607:=Nat.ne_of_lt (Nat.lt_of_lt_of_le (by have:=World.block_lt_of_cell? _ _ hx611_0;first|rwa [add_block] at this|exact this) GW607.out);have hn611_3:ad611.block≠gb607:=Nat.ne_of_lt (Nat.lt_of_lt_of_le (by have:=World.block_lt_of_cell? _ _ hx611_0;first|rwa [add_block] at this|exact this) GW607.out);have hn611_4:ad611.block≠gb607:=Nat.ne_of_lt (Nat.lt_of_lt_of_le (by have:=World.block_lt_of_cell? _ _ hx611_0;first|rwa [add_block] at this|exact this) GW607.out);have hn611_5:ad611.block≠gb607:=Nat.ne_of_lt (Nat.lt_of_lt_of_le (by have:=World.block_lt_of_cell? _ _ hx611_0;first|rwa [add_block] at this|exact this) GW607.out);replace hx611_0:=cb HB hx611_0;replace hx611_0:=(cell_far (p:=⟨gb607,0,none⟩) (by first|(rw [add_block];exact hn611_0)|(show (Addr.add _ _).block≠_;rw [add_block];exact hn611_0)|exact hn611_0) (.int .i64 a0)).trans hx611_0;replace hx611_0:=(cell_far (p:=⟨gb607,1,none⟩) (by first|(rw [add_block];exact hn611_1)|(show (Addr.add _ _).block≠_;rw [add_block];exact hn611_1)|exact hn611_1) (.string (rdOf ByteArray.empty ((rd_T103 ((rd_T62 l1 0).f1) 0).f0) 0))).trans hx611_0;replace hx611_0:=(cell_far (p:=⟨gb607,2,none⟩) (by first|(rw [add_block];exact hn611_2)|(show (Addr.add _ _).block≠_;rw [add_block];exact hn611_2)|exact hn611_2) (.string (⟨#[]⟩:ByteArray))).trans hx611_0;replace hx611_0:=(cell_far (p:=⟨gb607,3,none⟩) (by first|(rw [add_block];exact hn611_3)|(show (Addr.add _ _).block≠_;rw [add_block];exact hn611_3)|exact hn611_3) (.int .i64 0)).trans hx611_0;replace hx611_0:=(cell_far (p:=⟨gb607,4,none⟩) (by first|(rw [add_block];exact hn611_4)|(show (Addr.add _ _).block≠_;rw [add_block];exact hn611_4)|exact hn611_4) (.slice none 0 0)).trans hx611_0;replace hx611_0:=(cell_far (p:=⟨gb607,5,none⟩) (by first|(rw [add_block];exact hn611_5)|(show (Addr.add _ _).block≠_;rw [add_block];exact hn611_5)|exact hn611_5) (.slice none 0 0)).trans hx611_0;clear hn611_0;clear hn611_1;clear hn611_2;clear hn611_3;clear hn611_4;clear hn611_5;replace p611:=eq_true p611;replace q611:=eq_true q611;have hnb15:=NB607_603.out;have hnc15:=NB603_607.out;have hcz16:=cf6 BK607
    go_wp2
    go_meet
    case rel=>exact ⟨_,(rdOf ByteArray.empty ((rd_T103 ((rd_T62 l1 0).f1) 1).f0) 0),H',⟨fl⟩,⟨ks BK603⟩,⟨kp BK607⟩,⟨bs HB⟩⟩
   ·replace H:=itF H;have H':=am H;clear H
    go_wp2
    go_meet
    case rel=>exact ⟨_,((⟨#[]⟩:ByteArray)),H',⟨fl⟩,⟨ks BK603⟩,⟨kp BK607⟩,⟨bs HB⟩⟩
  case rest =>
   clear HC11
   try clear c1
   try clear c3
   try clear c3b0
   try clear c3b1
   try clear c4
   try clear c4b0
   try clear c4b1
   try clear c5
   try clear c5b0
   try clear c5b1
   try clear hcz10
   try clear hx604_0
   try clear hx604_1
   try clear hx605_0
   try clear hx606_0
   try clear p604
   try clear p605
   try clear p606
   try clear q604
   try clear q605
   try clear q606
   obtain ⟨kq,x608002_10,HA,HJ10,BK603,BK607,HB⟩:=hcut
   cases kq with
   | zero=>exact absurd HA.out (by simp [impl_paperOf.j0])
   | succ kj10 =>
    have H:=HA.out;clear HA;simp only [impl_paperOf.j0] at H
    revert H;refine id1k ?_
    intro c17 c17b0 H;have c17b1:decide (0<l1.length)=true:=decide_eq_true (by omega);clear c17;obtain ⟨ji18,hji18⟩:∃ j_:Int,(wrap64 ((((rd_T62 l1 0).f1).length:Int) - 1))=j_:=⟨_,rfl⟩
    replace H:(if 0≤(ji18) then (if (ji18)<(((rd_T62 l1 0).f1).length:Int) then (if 0<(((rd_T103 ((rd_T62 l1 0).f1) (ji18)).f0).length:Int) then ((impl_numberIn.f kj10 (rdOf ByteArray.empty ((rd_T103 ((rd_T62 l1 0).f1) (ji18)).f0) 0) 0 100000).bind fun bt617=>(if 1≤(l1.length:Int) then ((some (l1.drop 1:List (S62))).bind fun y619=>(impl_paperOf.l0 kj10 a0 y619 (y619.length:Int) 0 a0 (rdOf ByteArray.empty ((rd_T103 ((rd_T62 l1 0).f1) 0).f0) 0) x608002_10 bt617.1 ([]:List ByteArray) ([]:List (S71)))) else (none))) else (none)) else (none)) else (none))=some (r1,r2,r3,r4,r5,r6):=by first|(rw [hji18] at H;exact H)|(simp only [hji18] at H ⊢;exact H)
    have hji18w:(IntKind.i64.wrap ((((rd_T62 l1 0).f1).length:Int) - 1))=ji18:=(i64_w _).trans hji18
    revert H;refine id1 ?_
    intro c19b0 H
    revert H;refine id1 ?_
    intro c20b0 H
    revert H;refine id1k ?_
    intro c21 c21b0 H;have c21b1:decide (0<((rd_T103 ((rd_T62 l1 0).f1) (ji18)).f0).length)=true:=decide_eq_true (by omega);clear c21;replace H:=bo H;obtain ⟨⟨t617,t618⟩,A22,H⟩:=H;(try dsimp only at H)
    revert H;refine ip1 ?_
    intro c23 H;have c23b0:=eq_true c23;have c23b1:decide (1≤(l1.length:Int))=true:=decide_eq_true c23;clear c23;obtain ⟨y619,hy619⟩:∃ y_:List (S62),y_=(l1.drop 1):=⟨_,rfl⟩
    replace H:(impl_paperOf.l0 kj10 a0 y619 (y619.length:Int) 0 a0 (rdOf ByteArray.empty ((rd_T103 ((rd_T62 l1 0).f1) 0).f0) 0) x608002_10 t617 ([]:List ByteArray) ([]:List (S71)))=some (r1,r2,r3,r4,r5,r6):=ye hy619 H
    have Ny619:=am hy619;clear hy619;have H':=am H;clear H
    try go_wp2
    replace BK603:=am (blk_drew BK603.out);replace BK607:=am (blk_drew BK607.out);replace HB:=am (below_drew1 HB.out);have p612:0≤(0:Int):=(by omega);have q612:0<(l1.length:Int):=oa;obtain ⟨ad612,A612_1,c612_1,e612,hx612_0,hx612_1,hl612_1,hi612_1⟩:=at_T62 HR1.out 0 p612 q612;have hw612_1:=hx612_1
    (try rw [show ((0:Int)).toNat=0 from rfl] at hw612_1)
    (try rw [show 0 * 2=0 from rfl] at hw612_1)
    (try rw [Addr.add_zero'] at hw612_1)
    have hw612_0:=hx612_0
    (try rw [show ((0:Int)).toNat=0 from rfl] at hw612_0)
    (try rw [show 0 * 2=0 from rfl] at hw612_0)
    (try rw [Addr.add_zero'] at hw612_0)
    obtain rfl:ad604=ad612:=(by injection e612);have qi612:(0<l1.length)=True:=eq_true (by omega)
    (try rw [show ((0:Int)).toNat=0 from rfl] at hx612_0)
    (try rw [show 0 * 2=0 from rfl] at hx612_0)
    (try rw [Addr.add_zero'] at hx612_0)
    (try rw [show ((0:Int)).toNat=0 from rfl] at hx612_1)
    (try rw [show 0 * 2=0 from rfl] at hx612_1)
    (try rw [Addr.add_zero'] at hx612_1)
    replace hx612_0:=cb HB hx612_0;replace hx612_1:=cb HB hx612_1;have HR612_1:=am hi612_1;have HC612_1:=am hl612_1;clear hi612_1 hl612_1;replace p612:=eq_true p612;replace q612:=eq_true q612;have p613:0≤(0:Int):=(by omega);have q613:0<(l1.length:Int):=oa;obtain ⟨ad613,A613_1,c613_1,e613,hx613_0,hx613_1,hl613_1,hi613_1⟩:=at_T62 HR1.out 0 p613 q613;have hw613_1:=hx613_1
    (try rw [show ((0:Int)).toNat=0 from rfl] at hw613_1)
    (try rw [show 0 * 2=0 from rfl] at hw613_1)
    (try rw [Addr.add_zero'] at hw613_1)
    have hw613_0:=hx613_0
    (try rw [show ((0:Int)).toNat=0 from rfl] at hw613_0)
    (try rw [show 0 * 2=0 from rfl] at hw613_0)
    (try rw [Addr.add_zero'] at hw613_0)
    obtain rfl:ad604=ad613:=(by injection e613);have qi613:(0<l1.length)=True:=eq_true (by omega)
    (try rw [show ((0:Int)).toNat=0 from rfl] at hx613_0)
    (try rw [show 0 * 2=0 from rfl] at hx613_0)
    (try rw [Addr.add_zero'] at hx613_0)
    (try rw [show ((0:Int)).toNat=0 from rfl] at hx613_1)
    (try rw [show 0 * 2=0 from rfl] at hx613_1)
    (try rw [Addr.add_zero'] at hx613_1)
    replace hx613_0:=cb HB hx613_0;replace hx613_1:=cb HB hx613_1;have HR613_1:=am hi613_1;have HC613_1:=am hl613_1;clear hi613_1 hl613_1;replace p613:=eq_true p613;replace q613:=eq_true q613;(try (have ea_:=Option.some.inj (hx612_1.symm.trans hx613_1);injection ea_ with ea_ en_ ec_;subst ea_;subst ec_;clear en_));have p614:0≤((ji18):Int):=oa;have q614:(ji18)<(((rd_T62 l1 0).f1).length:Int):=oa;obtain ⟨ad614,A614_0,c614_0,e614,hx614_0,hl614_0,hi614_0⟩:=at_T103 HR612_1.out (ji18) p614 q614;have hw614_0:=hx614_0
    cases e614
    replace hx614_0:=cb HB hx614_0;have HR614_0:=am hi614_0;have HC614_0:=am hl614_0;clear hi614_0 hl614_0;replace p614:=eq_true p614;replace q614:=eq_true q614;refine sta 14 (hca (cb HB hw612_0) (hca (cb HB hw612_1) (hca (cb HB hw613_0) (hca (cb HB hw613_1) (hc (cb HB hw614_0)))))) (fun hHeld=>?_);refine with_tabW impl_paperOf.tab4 impl_paperOf.bits4 (fun HT_ HW_=>?_)
    generalize wc.drew=w24 at BK603 BK607 HB HR612_1 HR613_1 HR614_0 hx612_0 hx612_1 hx613_0 hx613_1 hx614_0 hHeld ⊢
    refine pA 0 34 HT_ ?_;refine pA 1 35 HT_ ?_;refine pA 2 36 HT_ ?_;refine pA 4 38 HT_ ?_;refine pA 5 39 HT_ ?_;refine pA 6 40 HT_ ?_;refine tA 3 37 HT_ HW_ hHeld ?_;refine tA 7 41 HT_ HW_ hHeld ?_;refine pA 8 42 HT_ ?_;refine pA 9 43 HT_ ?_;refine pA 10 44 HT_ ?_;refine tA 11 45 HT_ HW_ hHeld ?_;refine oA 12 6 HT_ (fun K hK=>?_);refine box_step ?hg (N:=6) ?hd (cs:=#[.slice none 0 0]) (t:=103) ?hr ?_;(case hd=>rfl);(case hg=>rfl);(case hr=>first|(go_simp;done)|(go_simp;rfl));intro gb615 hg w25 hbox hb;have BK615:=am (hbox);have GW615:=am ((gs hg (bs HB)));have GE615:=am ((gs hg (bs HB)));replace HB:=am (below_step (bs HB) hb);have NB603_615:=am ((gn hg (ks BK603)));have NB615_603:=am ((gm hg (ks BK603)));replace BK603:=am (blk_below (ks BK603) hb);have NB607_615:=am ((gn hg (ks BK607)));have NB615_607:=am ((gm hg (ks BK607)));replace BK607:=am (blk_below (ks BK607) hb);clear hb hbox hg;refine hK.out _ _ (hca (cb HB hw612_0) (hca (cb HB hw612_1) (hca (cb HB hw613_0) (hca (cb HB hw613_1) (hc (cb HB hw614_0)))))).out (fun hHeld=>?_);clear hK K;refine nA 6 ?_;refine one_ (i:=13) (N:=none) #[true,true,true,true,true,true,true,true,true,true,true,true,true,true] rfl rfl (one_of HT_.out (by kernel_rfl)) (by decide) (fun K hK=>?_);have hs26:w25.cell? ⟨gb615,0,none⟩=some (.slice none 0 0):=(blk_cell BK615.out 0).trans rfl;have hfs26:=blk_frozen BK615.out 0;have hns26_0:=NB603_615.out;have hns26_1:=NB607_615.out;have hms26_0:=NB615_603.out;have hms26_1:=NB615_607.out;refine skip_ (w1:=?_) (by rfl) rfl ?_ ?_
    rotate_left
    ·go_simp
     rfl
    refine hK.out _ _ ⟨((cell_far (p:=⟨gb615,_,none⟩) (by first|exact Nat.ne_of_lt (Nat.lt_of_lt_of_le (by have:=World.block_lt_of_cell? _ _ hw612_0;first|rwa [add_block] at this|exact this) GW615.out)|(rw [add_block];exact Nat.ne_of_lt (Nat.lt_of_lt_of_le (by have:=World.block_lt_of_cell? _ _ hw612_0;first|rwa [add_block] at this|exact this) GW615.out))|(show (Addr.add _ _).block≠_;rw [add_block];exact Nat.ne_of_lt (Nat.lt_of_lt_of_le (by have:=World.block_lt_of_cell? _ _ hw612_0;first|rwa [add_block] at this|exact this) GW615.out))|(dsimp only;exact Nat.ne_of_lt (Nat.lt_of_lt_of_le (by have:=World.block_lt_of_cell? _ _ hw612_0;first|rwa [add_block] at this|exact this) GW615.out))) _).trans (hHeld.1)),((cell_far (p:=⟨gb615,_,none⟩) (by first|exact Nat.ne_of_lt (Nat.lt_of_lt_of_le (by have:=World.block_lt_of_cell? _ _ hw612_1;first|rwa [add_block] at this|exact this) GW615.out)|(rw [add_block];exact Nat.ne_of_lt (Nat.lt_of_lt_of_le (by have:=World.block_lt_of_cell? _ _ hw612_1;first|rwa [add_block] at this|exact this) GW615.out))|(show (Addr.add _ _).block≠_;rw [add_block];exact Nat.ne_of_lt (Nat.lt_of_lt_of_le (by have:=World.block_lt_of_cell? _ _ hw612_1;first|rwa [add_block] at this|exact this) GW615.out))|(dsimp only;exact Nat.ne_of_lt (Nat.lt_of_lt_of_le (by have:=World.block_lt_of_cell? _ _ hw612_1;first|rwa [add_block] at this|exact this) GW615.out))) _).trans (hHeld.2.1)),((cell_far (p:=⟨gb615,_,none⟩) (by first|exact Nat.ne_of_lt (Nat.lt_of_lt_of_le (by have:=World.block_lt_of_cell? _ _ hw613_0;first|rwa [add_block] at this|exact this) GW615.out)|(rw [add_block];exact Nat.ne_of_lt (Nat.lt_of_lt_of_le (by have:=World.block_lt_of_cell? _ _ hw613_0;first|rwa [add_block] at this|exact this) GW615.out))|(show (Addr.add _ _).block≠_;rw [add_block];exact Nat.ne_of_lt (Nat.lt_of_lt_of_le (by have:=World.block_lt_of_cell? _ _ hw613_0;first|rwa [add_block] at this|exact this) GW615.out))|(dsimp only;exact Nat.ne_of_lt (Nat.lt_of_lt_of_le (by have:=World.block_lt_of_cell? _ _ hw613_0;first|rwa [add_block] at this|exact this) GW615.out))) _).trans (hHeld.2.2.1)),((cell_far (p:=⟨gb615,_,none⟩) (by first|exact Nat.ne_of_lt (Nat.lt_of_lt_of_le (by have:=World.block_lt_of_cell? _ _ hw613_1;first|rwa [add_block] at this|exact this) GW615.out)|(rw [add_block];exact Nat.ne_of_lt (Nat.lt_of_lt_of_le (by have:=World.block_lt_of_cell? _ _ hw613_1;first|rwa [add_block] at this|exact this) GW615.out))|(show (Addr.add _ _).block≠_;rw [add_block];exact Nat.ne_of_lt (Nat.lt_of_lt_of_le (by have:=World.block_lt_of_cell? _ _ hw613_1;first|rwa [add_block] at this|exact this) GW615.out))|(dsimp only;exact Nat.ne_of_lt (Nat.lt_of_lt_of_le (by have:=World.block_lt_of_cell? _ _ hw613_1;first|rwa [add_block] at this|exact this) GW615.out))) _).trans (hHeld.2.2.2.1)),((cell_far (p:=⟨gb615,_,none⟩) (by first|exact Nat.ne_of_lt (Nat.lt_of_lt_of_le (by have:=World.block_lt_of_cell? _ _ hw614_0;first|rwa [add_block] at this|exact this) GW615.out)|(rw [add_block];exact Nat.ne_of_lt (Nat.lt_of_lt_of_le (by have:=World.block_lt_of_cell? _ _ hw614_0;first|rwa [add_block] at this|exact this) GW615.out))|(show (Addr.add _ _).block≠_;rw [add_block];exact Nat.ne_of_lt (Nat.lt_of_lt_of_le (by have:=World.block_lt_of_cell? _ _ hw614_0;first|rwa [add_block] at this|exact this) GW615.out))|(dsimp only;exact Nat.ne_of_lt (Nat.lt_of_lt_of_le (by have:=World.block_lt_of_cell? _ _ hw614_0;first|rwa [add_block] at this|exact this) GW615.out))) _).trans (hHeld.2.2.2.2))⟩ (fun hHeld=>?_);clear hK K;refine done_ (done_of HT_.out (by kernel_rfl)) ?_;have hnb27:=NB615_603.out;have hnc27:=NB603_615.out;have hnb28:=NB615_607.out;have hnc28:=NB607_615.out;have hcz29:=cf1 BK615;have p616:0≤(0:Int):=(by omega);have q616:0<(((rd_T103 ((rd_T62 l1 0).f1) (ji18)).f0).length:Int):=oa;obtain ⟨ad616,e616,hx616_0⟩:=Kd.at_string HR614_0.out 0 p616 q616
    cases e616
    have qi616:(0<((rd_T103 ((rd_T62 l1 0).f1) (ji18)).f0).length)=True:=eq_true (by omega)
    (try rw [show ((0:Int)).toNat=0 from rfl] at hx616_0)
    (try rw [Addr.add_zero'] at hx616_0)
    have hn616_0:ad616.block≠gb615:=Nat.ne_of_lt (Nat.lt_of_lt_of_le (by have:=World.block_lt_of_cell? _ _ hx616_0;first|rwa [add_block] at this|exact this) GW615.out);replace hx616_0:=cb HB hx616_0;replace hx616_0:=(cell_far (p:=⟨gb615,0,none⟩) (by first|(rw [add_block];exact hn616_0)|(show (Addr.add _ _).block≠_;rw [add_block];exact hn616_0)|exact hn616_0) (.slice (some ad616) ((rd_T103 ((rd_T62 l1 0).f1) (ji18)).f0).length c614_0)).trans hx616_0;clear hn616_0;replace p616:=eq_true p616;replace q616:=eq_true q616
    try go_wp2_with (first|((first|((with_reducible refine gate_callee (f:=87) rfl ?_);refine goesL_ (some 51) rfl rfl Tryz.func87 (by kernel_rfl) rfl #[.string (rdOf ByteArray.empty ((rd_T103 ((rd_T62 l1 0).f1) (ji18)).f0) 0),.int .i64 0,.int .i64 100000] rfl (by (try simp only [List.map_toArray,List.map_cons,List.map_nil]);first|done|(simp only [hji18];rfl)|rfl|(simp only [List.length_drop,List.length_take];rfl)) ?_;(with_reducible refine (impl_numberIn.calls kj10 (rdOf ByteArray.empty ((rd_T103 ((rd_T62 l1 0).f1) (ji18)).f0) 0) 0 100000 t617 t618 _ (tbP HTP (bs HB)) A22.out).mono ?_);rintro e w30 ⟨rfl,hb⟩;refine ⟨_,rfl,?_⟩)|(go_at_call 87;(with_reducible refine (impl_numberIn.calls kj10 (rdOf ByteArray.empty ((rd_T103 ((rd_T62 l1 0).f1) (ji18)).f0) 0) 0 100000 t617 t618 _ (tbP HTP (bs HB)) A22.out).mono ?_);rintro e w30 ⟨rfl,hb⟩));replace BK603:=am (blk_below (ks BK603) hb);replace BK607:=am (blk_below (ks BK607) hb);replace BK615:=am (blk_below (g:=gb615) (o:=.cells #[.slice (some ad616) ((rd_T103 ((rd_T62 l1 0).f1) (ji18)).f0).length c614_0] 103 (0,0)) (kp BK615) hb);replace HB:=am (below_step (bs HB) hb);(try clear hb);(try clear hb2);(try clear hk);(try clear hi);have hnb31:=NB607_603.out;have hnc31:=NB603_607.out;have hcz32_0:w30.cell? ⟨gb607,0,none⟩=some (.int .i64 a0):=(blk_cell BK607.out 0).trans rfl;have hcz32_1:w30.cell? ⟨gb607,1,none⟩=some (.string (rdOf ByteArray.empty ((rd_T103 ((rd_T62 l1 0).f1) 0).f0) 0)):=(blk_cell BK607.out 1).trans rfl;have hcz32_2:w30.cell? ⟨gb607,2,none⟩=some (.string x608002_10):=(blk_cell BK607.out 2).trans rfl;have hcz32_3:w30.cell? ⟨gb607,3,none⟩=some (.int .i64 0):=(blk_cell BK607.out 3).trans rfl;have hcz32_4:w30.cell? ⟨gb607,4,none⟩=some (.slice none 0 0):=(blk_cell BK607.out 4).trans rfl;have hcz32_5:w30.cell? ⟨gb607,5,none⟩=some (.slice none 0 0):=(blk_cell BK607.out 5).trans rfl;have hfz32_0:=blk_frozen BK607.out 0;have hfz32_1:=blk_frozen BK607.out 1;have hfz32_2:=blk_frozen BK607.out 2;have hfz32_3:=blk_frozen BK607.out 3;have hfz32_4:=blk_frozen BK607.out 4;have hfz32_5:=blk_frozen BK607.out 5)|((with_reducible refine gate_store (t:=2) (p:=55) rfl ?_);refine store_event (t:=2) (p:=55) (v:=?vo_w33) (w1:=(w30.setCell ⟨gb607,3,none⟩ (.int .i64 t617))) ?hg ?ho ?hn ?hr ?_;(case ho=>rfl);(case hg=>rfl);(case hn=>rfl);(case hr=>first|(go_simp;done)|(go_simp;rfl));intro w33 hw;have n0_:Aside0 (w33.heap[gb603]? = some (.cells #[.int .i64 0,.string (⟨#[]⟩:ByteArray),.string (⟨#[]⟩:ByteArray),.int .i64 0,.slice none 0 0,.slice none 0 0] 30 (0,0))):=⟨(by rw [hw];exact (ks BK603))⟩;have n1_:Aside0 (w33.heap[gb607]? = some (.cells #[.int .i64 a0,.string (rdOf ByteArray.empty ((rd_T103 ((rd_T62 l1 0).f1) 0).f0) 0),.string x608002_10,.int .i64 t617,.slice none 0 0,.slice none 0 0] 30 (0,0))):=⟨(by rw [hw];exact (kp BK607))⟩;have n2_:Aside0 (w33.heap[gb615]? = some (.cells #[.slice (some ad616) ((rd_T103 ((rd_T62 l1 0).f1) (ji18)).f0).length c614_0] 103 (0,0))):=⟨(by rw [hw];exact (ks BK615))⟩;have n3_:Aside0 (Below w.heap.size w w33):=⟨(by rw [hw];exact (bs HB))⟩;clear hw;clear BK603;clear BK607;clear BK615;clear HB;have BK603:=n0_;have BK607:=n1_;have BK615:=n2_;have HB:=n3_;clear n0_ n1_ n2_ n3_;have q34:(1:Int)≤((l1.length:Int):Int):=oa;obtain ⟨i034,hi034,_,hsz34,_⟩:=info_parts info62;have hroom34:l1.length≤c1:=HC1.out;have hC34:Kd.C k62 _ (some ad604) l1.length l1:=HR1.out;have hcut34:=cut_from (P:=Tryz.prog) 40 62 .i64 Tryz.underlying40 hi034 2 hsz34 (some ad604) l1.length c1 1 (by omega) q34;have hr34:=Kd.C_drop (m:=(1:Int).toNat) (c:=c1) hC34 (by omega) hroom34;obtain ⟨A34,hA34⟩:∃ Aq_,Aq_=(if c1=(1:Int).toNat then (some ad604) else ((some ad604):Option Addr).map (·.add ((1:Int).toNat * 2))):=⟨_,rfl⟩;obtain ⟨c34,hc34⟩:∃ cq_,cq_=c1 - (1:Int).toNat:=⟨_,rfl⟩;have hy34:y619.length=l1.length - (1:Int).toNat:=(by rw [Ny619.out,List.length_drop] <;> omega);rw [show (l1).drop (1:Int).toNat=y619 from Ny619.out.symm] at hr34;replace hr34:Kd.C k62 _ A34 y619.length y619:=(by rw [hA34];exact hr34);rw [← hy34,← hA34,← hc34] at hcut34;have HR622:=am hr34;have HC622:=am (show y619.length≤c34 from by rw [hy34,hc34];exact Nat.sub_le_sub_right hroom34 _);clear hr34 hC34 hroom34 hi034 hsz34 hc34;have KY34:=am hy34;have KA34:=am hA34;clear hy34 hA34;replace q34:=eq_true q34))
    go_loopg [59] kj10 (fun kq v59 w'=>∃ (x59_2:Int) (x608004_2:List ByteArray) (x608005_2:List (S71)) (u608004:Value) (u608005:Value),v59=.int .i64 x59_2∧Aside0 (impl_paperOf.l0 kq a0 y619 (y619.length:Int) x59_2 a0 (rdOf ByteArray.empty ((rd_T103 ((rd_T62 l1 0).f1) 0).f0) 0) x608002_10 t617 x608004_2 x608005_2=some (r1,r2,r3,r4,r5,r6))∧Aside0 (kq≤kj10)∧Aside0 (Kd.R Kd.string 9 w' w.heap.size (fun _=>True) u608004 x608004_2)∧Aside0 (Kd.R k71 71 w' w.heap.size (fun _=>True) u608005 x608005_2)∧Aside0 (w'.heap[gb603]? = some (.cells #[.int .i64 0,.string (⟨#[]⟩:ByteArray),.string (⟨#[]⟩:ByteArray),.int .i64 0,(.slice none 0 0),(.slice none 0 0)] 30 (0,0)))∧Aside0 (w'.heap[gb607]? = some (.cells #[.int .i64 a0,.string (rdOf ByteArray.empty ((rd_T103 ((rd_T62 l1 0).f1) 0).f0) 0),.string x608002_10,.int .i64 t617,u608004,u608005] 30 (0,0)))∧Aside0 (w'.heap[gb615]? = some (.cells #[(.slice (some ad616) ((rd_T103 ((rd_T62 l1 0).f1) (ji18)).f0).length c614_0)] 103 (0,0)))∧Aside0 (Below w.heap.size w w'))
    case atStart=>exact ⟨(0),(([]:List ByteArray)),(([]:List (S71))),(.slice none 0 0),(.slice none 0 0),fg,H',⟨Nat.le_refl _⟩,⟨by first|exact Kd.R_nil _ _ _ _ _|exact Kd.N_nil _ _ _ _ _|exact Kd.V_nil _ _ _ _ _|exact Kd.Q_nil _ _ _ _ _|exact Kd.S_nil _ _ _ _ _⟩,⟨by first|exact Kd.R_nil _ _ _ _ _|exact Kd.N_nil _ _ _ _ _|exact Kd.V_nil _ _ _ _ _|exact Kd.Q_nil _ _ _ _ _|exact Kd.S_nil _ _ _ _ _⟩,⟨ks BK603⟩,⟨ks BK607⟩,⟨ks BK615⟩,⟨bs HB⟩⟩
    case round =>
     clear H'
     try clear c1
     try clear c3
     try clear c3b0
     try clear c3b1
     try clear c4
     try clear c4b0
     try clear c4b1
     try clear c5
     try clear c5b0
     try clear c5b1
     try clear c17
     try clear c17b0
     try clear c17b1
     try clear c19b0
     try clear c20b0
     try clear c21
     try clear c21b0
     try clear c21b1
     try clear c23
     try clear c23b0
     try clear c23b1
     try clear c34
     try clear q34
     try clear hcz10
     try clear hcz29
     try clear hx604_0
     try clear hx604_1
     try clear hx605_0
     try clear hx606_0
     try clear hx612_0
     try clear hx612_1
     try clear hx613_0
     try clear hx613_1
     try clear hx614_0
     try clear hx616_0
     try clear p604
     try clear p605
     try clear p606
     try clear p612
     try clear p613
     try clear p614
     try clear p616
     try clear q34
     try clear q604
     try clear q605
     try clear q606
     try clear q612
     try clear q613
     try clear q614
     try clear q616
     obtain ⟨x59_2,x608004_2,x608005_2,u608004,u608005,rfl,HA,HK2,HO_608004,HO_608005,BK603,BK607,BK615,HB⟩:=hrel
     cases gk with
     | zero=>exact absurd HA.out (by simp [impl_paperOf.l0])
     | succ k2 =>
      have H:=HA.out;clear HA;simp only [impl_paperOf.l0] at H
      revert H;refine id2 ?_ ?_
      ·intro c35b0 H
       revert H;refine id1 ?_
       intro c36b0 H
       revert H;refine id1 ?_
       intro c37b0 H
       revert H;refine ie2 ?_ ?_
       ·intro c38b0 c38b1 H
        revert H;refine id1k ?_
        intro c39 c39b0 H;have c39b1:decide (0<((rd_T62 y619 x59_2).f1).length)=true:=decide_eq_true (by omega);clear c39
        revert H;refine id1k ?_
        intro c40 c40b0 H;have c40b1:decide (0<((rd_T103 ((rd_T62 y619 x59_2).f1) 0).f0).length)=true:=decide_eq_true (by omega);clear c40
        revert H;refine ip1 ?_
        intro c41 H;have LMc41:=am c41;clear c41;obtain ⟨y627,hy627⟩:∃ y_:List ByteArray,y_=(x608004_2++[rdOf ByteArray.empty ((rd_T103 ((rd_T62 y619 x59_2).f1) 0).f0) 0]):=⟨_,rfl⟩
        replace H:(impl_paperOf.l0 k2 a0 y619 (y619.length:Int) (wrap64 (x59_2+1)) a0 (rdOf ByteArray.empty ((rd_T103 ((rd_T62 l1 0).f1) 0).f0) 0) x608002_10 t617 y627 x608005_2)=some (r1,r2,r3,r4,r5,r6):=ye hy627 H
        have Ny627:=am hy627;clear hy627;have H':=am H;clear H;have p623:0≤(x59_2:Int):=oa;have q623:x59_2<(y619.length:Int):=oa;obtain ⟨ad623,A623_1,c623_1,e623,hx623_0,hx623_1,hl623_1,hi623_1⟩:=at_T62 HR622.out x59_2 p623 q623
        cases e623
        replace hx623_0:=cb HB hx623_0;replace hx623_1:=cb HB hx623_1;have HR623_1:=am hi623_1;have HC623_1:=am hl623_1;clear hi623_1 hl623_1;replace p623:=eq_true p623;replace q623:=eq_true q623
        try go_wp2_with (first|((with_reducible refine gate_dst (N:=10) rfl ?_);refine bx 10 (cs:=#[.string (⟨#[]⟩:ByteArray),.slice none 0 0]) (t:=62) ?_;intro gb624 hg w42 hbox hb;replace HO_608004:=am (Kd.R_below (rs HO_608004) hb);replace HO_608005:=am (Kd.R_below (rs HO_608005) hb);have BK624:=am (hbox);have GW624:=am ((gs hg (bs HB)));have GE624:=am ((gs hg (bs HB)));replace HB:=am (below_step (bs HB) hb);have NB603_624:=am ((gn hg (ks BK603)));have NB624_603:=am ((gm hg (ks BK603)));replace BK603:=am (blk_below (ks BK603) hb);have NB607_624:=am ((gn hg (ks BK607)));have NB624_607:=am ((gm hg (ks BK607)));replace BK607:=am (blk_below (ks BK607) hb);have NB615_624:=am ((gn hg (ks BK615)));have NB624_615:=am ((gm hg (ks BK615)));replace BK615:=am (blk_below (ks BK615) hb);clear hb hbox hg;have hnb43:=NB624_603.out;have hnc43:=NB603_624.out;have hnb44:=NB624_607.out;have hnc44:=NB607_624.out;have hnb45:=NB624_615.out;have hnc45:=NB615_624.out;have hcz46:=cf2 BK624))
        have n0_:Aside0 (Kd.R Kd.string 9 ((w42.setCell ⟨gb624,0,none⟩ (.string ((rd_T62 y619 x59_2).f0))).setCell ⟨gb624,1,none⟩ (.slice A623_1 ((rd_T62 y619 x59_2).f1).length c623_1)) w.heap.size (fun _=>True) u608004 x608004_2):=⟨Kd.R_mono (rf (Kd.R_types HO_608004.out BK624.out (by decide))) (fun _ hk=>trivial)⟩;have n1_:Aside0 (Kd.R k71 71 ((w42.setCell ⟨gb624,0,none⟩ (.string ((rd_T62 y619 x59_2).f0))).setCell ⟨gb624,1,none⟩ (.slice A623_1 ((rd_T62 y619 x59_2).f1).length c623_1)) w.heap.size (fun _=>True) u608005 x608005_2):=⟨Kd.R_mono (rf (Kd.R_types HO_608005.out BK624.out (by decide))) (fun _ hk=>trivial)⟩;have n2_:=kz ((w42.setCell ⟨gb624,0,none⟩ (.string ((rd_T62 y619 x59_2).f0))).setCell ⟨gb624,1,none⟩ (.slice A623_1 ((rd_T62 y619 x59_2).f1).length c623_1)) BK603;have n3_:=kz ((w42.setCell ⟨gb624,0,none⟩ (.string ((rd_T62 y619 x59_2).f0))).setCell ⟨gb624,1,none⟩ (.slice A623_1 ((rd_T62 y619 x59_2).f1).length c623_1)) BK607;have n4_:=kz ((w42.setCell ⟨gb624,0,none⟩ (.string ((rd_T62 y619 x59_2).f0))).setCell ⟨gb624,1,none⟩ (.slice A623_1 ((rd_T62 y619 x59_2).f1).length c623_1)) BK615;have n5_:Aside0 (((w42.setCell ⟨gb624,0,none⟩ (.string ((rd_T62 y619 x59_2).f0))).setCell ⟨gb624,1,none⟩ (.slice A623_1 ((rd_T62 y619 x59_2).f1).length c623_1)).heap[gb624]? = some (.cells #[.string ((rd_T62 y619 x59_2).f0),.slice A623_1 ((rd_T62 y619 x59_2).f1).length c623_1] 62 (0,0))):=⟨kp BK624⟩;have n6_:Aside0 (Below w.heap.size w ((w42.setCell ⟨gb624,0,none⟩ (.string ((rd_T62 y619 x59_2).f0))).setCell ⟨gb624,1,none⟩ (.slice A623_1 ((rd_T62 y619 x59_2).f1).length c623_1))):=⟨bs HB⟩;(try clear HO_608004);(try clear HO_608005);(try clear BK603);(try clear BK607);(try clear BK615);(try clear BK624);(try clear HB)
        generalize ((w42.setCell ⟨gb624,0,none⟩ (.string ((rd_T62 y619 x59_2).f0))).setCell ⟨gb624,1,none⟩ (.slice A623_1 ((rd_T62 y619 x59_2).f1).length c623_1))=w47 at n0_ n1_ n2_ n3_ n4_ n5_ n6_ ⊢
        have HO_608004:=n0_;have HO_608005:=n1_;have BK603:=n2_;have BK607:=n3_;have BK615:=n4_;have BK624:=n5_;have HB:=n6_;clear n0_ n1_ n2_ n3_ n4_ n5_ n6_;replace HO_608004:=am (Kd.R_drew HO_608004.out);replace HO_608005:=am (Kd.R_drew HO_608005.out);replace BK603:=am (blk_drew BK603.out);replace BK607:=am (blk_drew BK607.out);replace BK615:=am (blk_drew BK615.out);replace BK624:=am (blk_drew BK624.out);replace HB:=am (below_drew1 HB.out);have p625:0≤(0:Int):=(by omega);have q625:0<(((rd_T62 y619 x59_2).f1).length:Int):=oa;obtain ⟨ad625,A625_0,c625_0,e625,hx625_0,hl625_0,hi625_0⟩:=at_T103 HR623_1.out 0 p625 q625;have hw625_0:=hx625_0
        (try rw [show ((0:Int)).toNat=0 from rfl] at hw625_0)
        (try rw [show 0 * 1=0 from rfl] at hw625_0)
        (try rw [Addr.add_zero'] at hw625_0)
        cases e625
        have qi625:(0<((rd_T62 y619 x59_2).f1).length)=True:=eq_true (by omega)
        (try rw [show ((0:Int)).toNat=0 from rfl] at hx625_0)
        (try rw [Addr.add_zero'] at hx625_0)
        replace hx625_0:=cb HB hx625_0;have HR625_0:=am hi625_0;have HC625_0:=am hl625_0;clear hi625_0 hl625_0;replace p625:=eq_true p625;replace q625:=eq_true q625;have p626:0≤(0:Int):=(by omega);have q626:0<(((rd_T103 ((rd_T62 y619 x59_2).f1) 0).f0).length:Int):=oa;obtain ⟨ad626,e626,hx626_0⟩:=Kd.at_string HR625_0.out 0 p626 q626;have hw626_0:=hx626_0
        (try rw [show ((0:Int)).toNat=0 from rfl] at hw626_0)
        (try rw [show 0 * 1=0 from rfl] at hw626_0)
        (try rw [Addr.add_zero'] at hw626_0)
        cases e626
        have qi626:(0<((rd_T103 ((rd_T62 y619 x59_2).f1) 0).f0).length)=True:=eq_true (by omega)
        (try rw [show ((0:Int)).toNat=0 from rfl] at hx626_0)
        (try rw [Addr.add_zero'] at hx626_0)
        replace hx626_0:=cb HB hx626_0;replace p626:=eq_true p626;replace q626:=eq_true q626;refine stad 13 [12] (hb6a BK607 (hb2a BK624 (hca (cb HB hw625_0) (hc (cb HB hw626_0))))) (fun hHeld=>?_);refine with_tabW impl_paperOf.tab11 impl_paperOf.bits11 (fun HT_ HW_=>?_)
        generalize w47.drew=w48 at HO_608004 HO_608005 BK603 BK607 BK615 BK624 HB HR625_0 hx625_0 hx626_0 hHeld ⊢
        refine pA 0 66 HT_ ?_;refine pA 2 68 HT_ ?_;refine tA 1 67 HT_ HW_ hHeld ?_;refine tA 3 69 HT_ HW_ hHeld ?_;refine pA 4 70 HT_ ?_;refine pA 5 71 HT_ ?_;refine tA 6 72 HT_ HW_ hHeld ?_;refine pA 7 73 HT_ ?_;refine tA 8 74 HT_ HW_ hHeld ?_;refine oA 9 75 HT_ (fun K hK=>?_);refine value_ (w1:=?_) (v:=?_) (by rfl) rfl ?_ ?_
        rotate_left 2
        ·go_simp
         constructor
         ·rfl
         ·rfl
        refine hK.out _ _ ⟨(blk_cell (blk_alloc BK607.out _) 0).trans rfl,(blk_cell (blk_alloc BK607.out _) 1).trans rfl,(blk_cell (blk_alloc BK607.out _) 2).trans rfl,(blk_cell (blk_alloc BK607.out _) 3).trans rfl,(blk_cell (blk_alloc BK607.out _) 4).trans rfl,(blk_cell (blk_alloc BK607.out _) 5).trans rfl,(blk_cell (blk_alloc BK624.out _) 0).trans rfl,(blk_cell (blk_alloc BK624.out _) 1).trans rfl,(World.cell?_alloc_lt _ _ _ (World.block_lt_of_cell? _ _ (((cb HB hw625_0).trans rfl)))).trans (((cb HB hw625_0).trans rfl)),(World.cell?_alloc_lt _ _ _ (World.block_lt_of_cell? _ _ (((cb HB hw626_0).trans rfl)))).trans (((cb HB hw626_0).trans rfl))⟩ (fun hHeld=>?_);clear hK K;refine nA 75 ?_;refine oA 10 76 HT_ (fun K hK=>?_);refine Kd.R_append_step Kd.string (w0:=w) w.heap.size (by rfl) (.tmp 67) (.tmp 75) 22 9 (.string ⟨#[]⟩) 16 rfl Tryz.underlying22 info9 rfl (by decide) (by omega) u608004 x608004_2 (rdOf ByteArray.empty ((rd_T103 ((rd_T62 y619 x59_2).f1) 0).f0) 0) [.string (rdOf ByteArray.empty ((rd_T103 ((rd_T62 y619 x59_2).f1) 0).f0) 0)] (fun _=>True) (fun _=>False) rfl rfl ?aP (fun _ hk=>hk.elim) ?aF ?aO ?aB ?aS ?aL ?_
        (case aP=>exact rfl)
        (case aB=>exact (bs HB))
        (case aF=>exact (fun _ _=>trivial))
        (case aO=>exact (rs HO_608004))
        (case aS=>exact (below_size (bs HB)))
        (case aL=>have:=LMc41.out;omega)
        intro v628 w49 ho hb hg hat
        rw [← Ny627.out] at ho
        have n0_:=am (Kd.R_over' (rs HO_608005) (Kd.R_typed (rs HO_608004)) (by decide) hg);have n1_:=am (blk_grown (ks BK603) hg (Kd.R_ne HO_608004.out BK603.out (by decide)));have n2_:=am (blk_grown (ks BK607) hg (Kd.R_ne HO_608004.out BK607.out (by decide)));have n3_:=am (blk_grown (ks BK615) hg (Kd.R_ne HO_608004.out BK615.out (by decide)));have n4_:=am (blk_grown (ks BK624) hg (Kd.R_ne HO_608004.out BK624.out (by decide)));have n5_:=am (hb);have n6_:=am (ho);clear HO_608005;clear BK603;clear BK607;clear BK615;clear BK624;clear HB;clear HO_608004;have HO_608005:=n0_;have BK603:=n1_;have BK607:=n2_;have BK615:=n3_;have BK624:=n4_;have HB:=n5_;have HO629:=n6_;clear n0_ n1_ n2_ n3_ n4_ n5_ n6_;clear ho hb hg hat;obtain ⟨Ao50,co50,eo50⟩:=Kd.R_slice HO629.out
        (first|subst eo50|(injection eo50 with f1_ f2_ f3_;have f4_:=f1_.symm;have f5_:=f3_.symm;clear f1_ f2_ f3_;subst f4_;subst f5_))
        refine hK.out _ _ (hb6a BK607 (hb2a BK624 (hca (cb HB hw625_0) (hc (cb HB hw626_0))))).out (fun hHeld=>?_);clear hK K;refine nA 76 ?_;refine pA 11 77 HT_ ?_;refine last_ (i:=12) (N:=none) #[true,true,true,true,true,true,true,true,true,true,true,true,true] rfl rfl (one_of HT_.out (by kernel_rfl)) (by decide) (fun K hK=>?_);have hs51:w49.cell? ⟨gb607,4,none⟩=some (u608004):=(blk_cell BK607.out 4).trans rfl;have hfs51:=blk_frozen BK607.out 4;have hns51_0:=NB603_607.out;have hns51_2:=NB615_607.out;have hns51_3:=NB624_607.out;have hms51_0:=NB607_603.out;have hms51_2:=NB607_615.out;have hms51_3:=NB607_624.out;refine skip_ (w1:=?_) (by rfl) rfl ?_ ?_
        rotate_left
        ·go_simp
         rfl
        refine hK.out _ _ ?_;clear hK K;refine done_ (done_of HT_.out (by kernel_rfl)) ?_
        try go_wp2
        go_roundg k2
        case measure=>have:=HJ10.out;have:=HK2.out;omega
        case rel=>exact ⟨(wrap64 (x59_2+1)),(y627),(x608005_2),(.slice Ao50 y627.length co50),(u608005),fg,H',⟨by have:=HJ10.out;have:=HK2.out;omega⟩,⟨Kd.R_mono (rf (Kd.R_types HO629.out BK607.out (by decide))) (fun _ hk=>trivial)⟩,⟨Kd.R_mono (rf (Kd.R_types HO_608005.out BK607.out (by decide))) (fun _ hk=>trivial)⟩,⟨ks BK603⟩,⟨kp BK607⟩,⟨ks BK615⟩,⟨bs HB⟩⟩
       ·intro c38 c38b0 c38b1 H;replace H:=bo H;obtain ⟨⟨t630,t631,t632,t633,t634⟩,A52,H⟩:=H;(try dsimp only at H)
        revert H;refine ip1 ?_
        intro c53 H;have LMc53:=am c53;clear c53;obtain ⟨y635,hy635⟩:∃ y_:List (S71),y_=(x608005_2++[(⟨t630,t631,t632,t633,t634⟩:S71)]):=⟨_,rfl⟩
        replace H:(impl_paperOf.l0 k2 a0 y619 (y619.length:Int) (wrap64 (x59_2+1)) a0 (rdOf ByteArray.empty ((rd_T103 ((rd_T62 l1 0).f1) 0).f0) 0) x608002_10 t617 x608004_2 y635)=some (r1,r2,r3,r4,r5,r6):=ye hy635 H
        have Ny635:=am hy635;clear hy635;have H':=am H;clear H;have p623:0≤(x59_2:Int):=oa;have q623:x59_2<(y619.length:Int):=oa;obtain ⟨ad623,A623_1,c623_1,e623,hx623_0,hx623_1,hl623_1,hi623_1⟩:=at_T62 HR622.out x59_2 p623 q623
        cases e623
        replace hx623_0:=cb HB hx623_0;replace hx623_1:=cb HB hx623_1;have HR623_1:=am hi623_1;have HC623_1:=am hl623_1;clear hi623_1 hl623_1;replace p623:=eq_true p623;replace q623:=eq_true q623
        try go_wp2_with (first|((with_reducible refine gate_dst (N:=10) rfl ?_);refine bx 10 (cs:=#[.string (⟨#[]⟩:ByteArray),.slice none 0 0]) (t:=62) ?_;intro gb624 hg w54 hbox hb;replace HO_608004:=am (Kd.R_below (rs HO_608004) hb);replace HO_608005:=am (Kd.R_below (rs HO_608005) hb);have BK624:=am (hbox);have GW624:=am ((gs hg (bs HB)));have GE624:=am ((gs hg (bs HB)));replace HB:=am (below_step (bs HB) hb);have NB603_624:=am ((gn hg (ks BK603)));have NB624_603:=am ((gm hg (ks BK603)));replace BK603:=am (blk_below (ks BK603) hb);have NB607_624:=am ((gn hg (ks BK607)));have NB624_607:=am ((gm hg (ks BK607)));replace BK607:=am (blk_below (ks BK607) hb);have NB615_624:=am ((gn hg (ks BK615)));have NB624_615:=am ((gm hg (ks BK615)));replace BK615:=am (blk_below (ks BK615) hb);clear hb hbox hg;have hnb55:=NB624_603.out;have hnc55:=NB603_624.out;have hnb56:=NB624_607.out;have hnc56:=NB607_624.out;have hnb57:=NB624_615.out;have hnc57:=NB615_624.out;have hcz58:=cf2 BK624))
        have n0_:Aside0 (Kd.R Kd.string 9 ((w54.setCell ⟨gb624,0,none⟩ (.string ((rd_T62 y619 x59_2).f0))).setCell ⟨gb624,1,none⟩ (.slice A623_1 ((rd_T62 y619 x59_2).f1).length c623_1)) w.heap.size (fun _=>True) u608004 x608004_2):=⟨Kd.R_mono (rf (Kd.R_types HO_608004.out BK624.out (by decide))) (fun _ hk=>trivial)⟩;have n1_:Aside0 (Kd.R k71 71 ((w54.setCell ⟨gb624,0,none⟩ (.string ((rd_T62 y619 x59_2).f0))).setCell ⟨gb624,1,none⟩ (.slice A623_1 ((rd_T62 y619 x59_2).f1).length c623_1)) w.heap.size (fun _=>True) u608005 x608005_2):=⟨Kd.R_mono (rf (Kd.R_types HO_608005.out BK624.out (by decide))) (fun _ hk=>trivial)⟩;have n2_:=kz ((w54.setCell ⟨gb624,0,none⟩ (.string ((rd_T62 y619 x59_2).f0))).setCell ⟨gb624,1,none⟩ (.slice A623_1 ((rd_T62 y619 x59_2).f1).length c623_1)) BK603;have n3_:=kz ((w54.setCell ⟨gb624,0,none⟩ (.string ((rd_T62 y619 x59_2).f0))).setCell ⟨gb624,1,none⟩ (.slice A623_1 ((rd_T62 y619 x59_2).f1).length c623_1)) BK607;have n4_:=kz ((w54.setCell ⟨gb624,0,none⟩ (.string ((rd_T62 y619 x59_2).f0))).setCell ⟨gb624,1,none⟩ (.slice A623_1 ((rd_T62 y619 x59_2).f1).length c623_1)) BK615;have n5_:Aside0 (((w54.setCell ⟨gb624,0,none⟩ (.string ((rd_T62 y619 x59_2).f0))).setCell ⟨gb624,1,none⟩ (.slice A623_1 ((rd_T62 y619 x59_2).f1).length c623_1)).heap[gb624]? = some (.cells #[.string ((rd_T62 y619 x59_2).f0),.slice A623_1 ((rd_T62 y619 x59_2).f1).length c623_1] 62 (0,0))):=⟨kp BK624⟩;have n6_:Aside0 (Below w.heap.size w ((w54.setCell ⟨gb624,0,none⟩ (.string ((rd_T62 y619 x59_2).f0))).setCell ⟨gb624,1,none⟩ (.slice A623_1 ((rd_T62 y619 x59_2).f1).length c623_1))):=⟨bs HB⟩;(try clear HO_608004);(try clear HO_608005);(try clear BK603);(try clear BK607);(try clear BK615);(try clear BK624);(try clear HB)
        generalize ((w54.setCell ⟨gb624,0,none⟩ (.string ((rd_T62 y619 x59_2).f0))).setCell ⟨gb624,1,none⟩ (.slice A623_1 ((rd_T62 y619 x59_2).f1).length c623_1))=w59 at n0_ n1_ n2_ n3_ n4_ n5_ n6_ ⊢
        have HO_608004:=n0_;have HO_608005:=n1_;have BK603:=n2_;have BK607:=n3_;have BK615:=n4_;have BK624:=n5_;have HB:=n6_;clear n0_ n1_ n2_ n3_ n4_ n5_ n6_;replace HO_608004:=am (Kd.R_drew HO_608004.out);replace HO_608005:=am (Kd.R_drew HO_608005.out);replace BK603:=am (blk_drew BK603.out);replace BK607:=am (blk_drew BK607.out);replace BK615:=am (blk_drew BK615.out);replace BK624:=am (blk_drew BK624.out);replace HB:=am (below_drew1 HB.out);refine stad 9 [8] (hb6a BK607 (hb2 BK624)) (fun hHeld=>?_);refine with_tabW impl_paperOf.tab12 impl_paperOf.bits12 (fun HT_ HW_=>?_)
        generalize w59.drew=w60 at HO_608004 HO_608005 BK603 BK607 BK615 BK624 HB hHeld ⊢
        refine pA 0 78 HT_ ?_;refine pA 2 80 HT_ ?_;refine tA 1 79 HT_ HW_ hHeld ?_;refine tA 3 81 HT_ HW_ hHeld ?_;refine oA 4 82 HT_ (fun K hK=>?_);refine gA Tryz.func88 #[.int .i64 a0,.agg #[.string ((rd_T62 y619 x59_2).f0),.slice A623_1 ((rd_T62 y619 x59_2).f1).length c623_1]] ?_;(with_reducible refine (impl_lineOf.calls k2 a0 ((rd_T62 y619 x59_2).f0) _ _ ((rd_T62 y619 x59_2).f1) t630 t631 t632 t633 t634 _ ?side1 ?side2 (tbP HTP (bs HB)) A52.out).mono ?_)
        (case side1=>repeat (first|exact (Kd.C_below HR623_1.out HB.out)|(with_reducible refine Kd.C_alloc ?_ _)|(with_reducible refine Kd.C_drewN ?_ _)|(with_reducible refine Kd.C_drew ?_)))
        (case side2=>exact HC623_1.out)
        rintro e w61 ⟨rfl,hb⟩;refine ⟨_,rfl,?_⟩;replace HO_608004:=am (Kd.R_below (rs HO_608004) hb);replace HO_608005:=am (Kd.R_below (rs HO_608005) hb);replace BK603:=am (blk_below (ks BK603) hb);replace BK607:=am (blk_below (ks BK607) hb);replace BK615:=am (blk_below (ks BK615) hb);replace BK624:=am (blk_below (ks BK624) hb);replace HB:=am (below_step (bs HB) hb);(try clear hb);(try clear hb2);(try clear hk);(try clear hi);refine hK.out _ _ (hb6a BK607 (hb2 BK624)).out (fun hHeld=>?_);clear hK K;refine nA 82 ?_;refine oA 5 83 HT_ (fun K hK=>?_);refine value_ (w1:=?_) (v:=?_) (by rfl) rfl ?_ ?_
        rotate_left 2
        ·go_simp
         constructor
         ·rfl
         ·rfl
        refine hK.out _ _ ⟨(blk_cell (blk_alloc BK607.out _) 0).trans rfl,(blk_cell (blk_alloc BK607.out _) 1).trans rfl,(blk_cell (blk_alloc BK607.out _) 2).trans rfl,(blk_cell (blk_alloc BK607.out _) 3).trans rfl,(blk_cell (blk_alloc BK607.out _) 4).trans rfl,(blk_cell (blk_alloc BK607.out _) 5).trans rfl,(blk_cell (blk_alloc BK624.out _) 0).trans rfl,(blk_cell (blk_alloc BK624.out _) 1).trans rfl⟩ (fun hHeld=>?_);clear hK K;refine nA 83 ?_;refine oA 6 84 HT_ (fun K hK=>?_);refine Kd.R_append_step k71 (w0:=w) w.heap.size (by rfl) (.tmp 79) (.tmp 83) 28 71 (.agg #[(.int .i64 0),(.string ⟨#[]⟩),(.int .i64 0),(.int .i64 0),(.string ⟨#[]⟩)]) 56 rfl Tryz.underlying28 info71 rfl (by decide) (by omega) u608005 x608005_2 (⟨t630,t631,t632,t633,t634⟩:S71) [.int .i64 t630,.string t631,.int .i64 t632,.int .i64 t633,.string t634] (fun _=>True) (fun _=>False) rfl rfl ?aP (fun _ hk=>hk.elim) ?aF ?aO ?aB ?aS ?aL ?_
        (case aP=>exact k71_mkM _ _ _ (⟨t630,t631,t632,t633,t634⟩:S71))
        (case aB=>exact (bs HB))
        (case aF=>exact (fun _ _=>trivial))
        (case aO=>exact (rs HO_608005))
        (case aS=>exact (below_size (bs HB)))
        (case aL=>have:=LMc53.out;omega)
        intro v636 w62 ho hb hg hat
        rw [← Ny635.out] at ho
        have n0_:=am (Kd.R_over' (rs HO_608004) (Kd.R_typed (rs HO_608005)) (by decide) hg);have n1_:=am (blk_grown (ks BK603) hg (Kd.R_ne HO_608005.out BK603.out (by decide)));have n2_:=am (blk_grown (ks BK607) hg (Kd.R_ne HO_608005.out BK607.out (by decide)));have n3_:=am (blk_grown (ks BK615) hg (Kd.R_ne HO_608005.out BK615.out (by decide)));have n4_:=am (blk_grown (ks BK624) hg (Kd.R_ne HO_608005.out BK624.out (by decide)));have n5_:=am (hb);have n6_:=am (ho);clear HO_608004;clear BK603;clear BK607;clear BK615;clear BK624;clear HB;clear HO_608005;have HO_608004:=n0_;have BK603:=n1_;have BK607:=n2_;have BK615:=n3_;have BK624:=n4_;have HB:=n5_;have HO637:=n6_;clear n0_ n1_ n2_ n3_ n4_ n5_ n6_;clear ho hb hg hat;obtain ⟨Ao63,co63,eo63⟩:=Kd.R_slice HO637.out
        (first|subst eo63|(injection eo63 with f1_ f2_ f3_;have f4_:=f1_.symm;have f5_:=f3_.symm;clear f1_ f2_ f3_;subst f4_;subst f5_))
        refine hK.out _ _ (hb6a BK607 (hb2 BK624)).out (fun hHeld=>?_);clear hK K;refine nA 84 ?_;refine pA 7 85 HT_ ?_;refine last_ (i:=8) (N:=none) #[true,true,true,true,true,true,true,true,true] rfl rfl (one_of HT_.out (by kernel_rfl)) (by decide) (fun K hK=>?_);have hs64:w62.cell? ⟨gb607,5,none⟩=some (u608005):=(blk_cell BK607.out 5).trans rfl;have hfs64:=blk_frozen BK607.out 5;have hns64_0:=NB603_607.out;have hns64_2:=NB615_607.out;have hns64_3:=NB624_607.out;have hms64_0:=NB607_603.out;have hms64_2:=NB607_615.out;have hms64_3:=NB607_624.out;refine skip_ (w1:=?_) (by rfl) rfl ?_ ?_
        rotate_left
        ·go_simp
         rfl
        refine hK.out _ _ ?_;clear hK K;refine done_ (done_of HT_.out (by kernel_rfl)) ?_
        try go_wp2
        go_roundg k2
        case measure=>have:=HJ10.out;have:=HK2.out;omega
        case rel=>exact ⟨(wrap64 (x59_2+1)),(x608004_2),(y635),(u608004),(.slice Ao63 y635.length co63),fg,H',⟨by have:=HJ10.out;have:=HK2.out;omega⟩,⟨Kd.R_mono (rf (Kd.R_types HO_608004.out BK607.out (by decide))) (fun _ hk=>trivial)⟩,⟨Kd.R_mono (rf (Kd.R_types HO637.out BK607.out (by decide))) (fun _ hk=>trivial)⟩,⟨ks BK603⟩,⟨kp BK607⟩,⟨ks BK615⟩,⟨bs HB⟩⟩
      ·intro c35b0 H;replace H:=sj6 H;obtain ⟨rfl,rfl,rfl,rfl,rfl,rfl⟩:=H;have hnb65:=NB607_603.out;have hnc65:=NB603_607.out;have hnb66:=NB607_615.out;have hnc66:=NB615_607.out;have hcz67:=cf6 BK607;have hnb68:=NB603_615.out;have hnc68:=NB615_603.out;have hcz69:=cf6 BK603;obtain ⟨Ao70,co70,eo70⟩:=Kd.R_slice HO_608004.out;subst eo70;obtain ⟨Ao71,co71,eo71⟩:=Kd.R_slice HO_608005.out;subst eo71
       go_wp2
       refine bodyPost_ret (results_cell_row rfl _ _ gb603 30 #[.int .i64 a0,.string (rdOf ByteArray.empty ((rd_T103 ((rd_T62 l1 0).f1) 0).f0) 0),.string x608002_10,.int .i64 t617,.slice Ao70 x608004_2.length co70,.slice Ao71 x608005_2.length co71] (0,0) _ rfl (kp BK603) Tryz.underlying30 rfl (by kernel_rfl)) rfl ?_
       exact ⟨_,_,by first|rfl|(simp [errW_none,errW_some] <;> rfl)|(simp only [← hji18];first|rfl|(simp [errW_none,errW_some] <;> rfl))|(simp [*,errW_none,errW_some] <;> rfl),Kd.R_mono (rf (Kd.R_types HO_608004.out BK603.out (by decide))) (fun _ hk=>trivial),Kd.R_mono (rf (Kd.R_types HO_608005.out BK603.out (by decide))) (fun _ hk=>trivial),bs HB⟩
 ·rw [if_neg c3] at H
  exact absurd H (by simp)
end Go.Proofs.YtogkcllenfkdmaaGreatDoor.QR
namespace Go.Proofs.YtogkcllenfkdmaaGreatDoor.QR
open Go.RowKit Go.Proofs.YtogkcllenfkdmaaGreatDoorW.PrintWords Go.Proofs.YtogkcllenfkdmaaGreatDoorW.PrintLast Go.Proofs.YtogkcllenfkdmaaGreatDoorW.PrintMore
attribute [local go_sem] max2_int min2_int max_two min_two max_three min_three max_four min_four   -- for this text's walks alone
set_option linter.unusedVariables false
set_option linter.unusedSimpArgs false
attribute [local go_sem high] eqA71
set_option maxHeartbeats 8000000 in
set_option maxRecDepth 100000 in
theorem slices_Equal_string_string.calls (k:Nat) (A0:Option Addr) (c0:Nat) (l0:List ByteArray) (A1:Option Addr) (c1:Nat) (l1:List ByteArray) (r:Bool) (w:World) (hr0:Kd.C Kd.string w A0 l0.length l0) (hc0:l0.length≤c0) (hr1:Kd.C Kd.string w A1 l1.length l1) (hc1:l1.length≤c1) (H:slices_Equal_string_string.f k l0 l1=some r) :
  Calls Tryz.prog 85 #[.slice A0 l0.length c0,.slice A1 l1.length c1] w fun e w'=>e=.returned (.bool r)∧Drawn0 w w':=by
 have HR0:=am hr0;have HC0:=am hc0;clear hr0 hc0;have HR1:=am hr1;have HC1:=am hc1;clear hr1 hc1;unfold slices_Equal_string_string.f at H
 revert H;refine ie2k ?_ ?_
 ·intro c3 c3b0 c3b1 H
  have c3b2:(l0.length == l1.length)=true:=by first|simpa using c3|(simp at c3 ⊢;omega)
  clear c3;have H':=am H;clear H
  go_in
  go_wp2
  repeat (go_quiet (fail);try go_wp2)
  go_loopg [13] k (fun kq v13 w'=>∃ (x13_1:Int),v13=.int .i64 x13_1∧Aside0 (slices_Equal_string_string.l0 kq l0 l1 (l0.length:Int) x13_1=some r)∧Aside0 (kq≤k)∧Drawn0 w w')
  case atStart=>exact ⟨(0),fg,H',⟨Nat.le_refl _⟩,by repeat (first|exact Drawn0.refl _|apply Drawn0.step)⟩
  case round =>
   clear H'
   try clear c1
   try clear c3
   try clear c3b0
   try clear c3b1
   try clear c3b2
   obtain ⟨x13_1,rfl,HA,HK1,⟨m1,rfl⟩⟩:=hrel
   cases gk with
   | zero=>exact absurd HA.out (by simp [slices_Equal_string_string.l0])
   | succ k1 =>
    have H:=HA.out;clear HA;simp only [slices_Equal_string_string.l0] at H
    revert H;refine id2 ?_ ?_
    ·intro c4b0 H
     revert H;refine id1 ?_
     intro c5b0 H
     revert H;refine id1 ?_
     intro c6b0 H
     revert H;refine id1 ?_
     intro c7b0 H
     revert H;refine ie2 ?_ ?_
     ·intro c8b0 c8b1 H;have H':=am H;clear H;have p638:0≤(x13_1:Int):=oa;have q638:x13_1<(l0.length:Int):=oa;obtain ⟨ad638,e638,hx638_0⟩:=Kd.at_string HR0.out x13_1 p638 q638
      cases e638
      replace p638:=eq_true p638;replace q638:=eq_true q638;have p639:0≤(x13_1:Int):=oa;have q639:x13_1<(l1.length:Int):=oa;obtain ⟨ad639,e639,hx639_0⟩:=Kd.at_string HR1.out x13_1 p639 q639
      cases e639
      replace p639:=eq_true p639;replace q639:=eq_true q639
      go_wp2
      repeat (go_quiet (fail);try go_wp2)
      go_roundg k1
      case measure=>have:=HK1.out;omega
      case rel=>exact ⟨(wrap64 (x13_1+1)),fg,H',⟨by have:=HK1.out;omega⟩,by repeat (first|exact Drawn0.refl _|apply Drawn0.step)⟩
     ·intro c8 c8b0 c8b1 H;obtain rfl:=si H;have p638:0≤(x13_1:Int):=oa;have q638:x13_1<(l0.length:Int):=oa;obtain ⟨ad638,e638,hx638_0⟩:=Kd.at_string HR0.out x13_1 p638 q638
      cases e638
      replace p638:=eq_true p638;replace q638:=eq_true q638;have p639:0≤(x13_1:Int):=oa;have q639:x13_1<(l1.length:Int):=oa;obtain ⟨ad639,e639,hx639_0⟩:=Kd.at_string HR1.out x13_1 p639 q639
      cases e639
      replace p639:=eq_true p639;replace q639:=eq_true q639
      go_wp2
      repeat (go_quiet (fail);try go_wp2)
      go_ret
      exact ⟨fg,by repeat (first|exact Drawn0.refl _|apply Drawn0.step)⟩
    ·intro c4b0 H;obtain rfl:=si H
     go_wp2
     repeat (go_quiet (fail);try go_wp2)
     go_ret
     exact ⟨fg,by repeat (first|exact Drawn0.refl _|apply Drawn0.step)⟩
 ·intro c3 c3b0 c3b1 H
  have c3b2:(l0.length == l1.length)=false:=by first|simpa using c3|(simp at c3 ⊢;omega)
  obtain rfl:=si H
  go_in
  go_wp2
  repeat (go_quiet (fail);try go_wp2)
  go_ret
  exact ⟨fg,by repeat (first|exact Drawn0.refl _|apply Drawn0.step)⟩
set_option maxHeartbeats 8000000 in
set_option maxRecDepth 100000 in
theorem impl_Line.calls (k:Nat) (A0:Option Addr) (c0:Nat) (l0:List (S71)) (A1:Option Addr) (c1:Nat) (l1:List (S71)) (r:Bool) (w:World) (hr0:Kd.C k71 w A0 l0.length l0) (hc0:l0.length≤c0) (hr1:Kd.C k71 w A1 l1.length l1) (hc1:l1.length≤c1) (H:impl_Line.f k l0 l1=some r) :
  Calls Tryz.prog 86 #[.slice A0 l0.length c0,.slice A1 l1.length c1] w fun e w'=>e=.returned (.bool r)∧Drawn0 w w':=by
 have hu71:=Tryz.underlying71;have HR0:=am hr0;have HC0:=am hc0;clear hr0 hc0;have HR1:=am hr1;have HC1:=am hc1;clear hr1 hc1;unfold impl_Line.f at H
 revert H;refine ie2k ?_ ?_
 ·intro c3 c3b0 c3b1 H
  have c3b2:(l0.length == l1.length)=true:=by first|simpa using c3|(simp at c3 ⊢;omega)
  clear c3;have H':=am H;clear H
  go_in
  go_wp2
  repeat (go_quiet (fail);try go_wp2)
  go_loopg [13] k (fun kq v13 w'=>∃ (x13_1:Int),v13=.int .i64 x13_1∧Aside0 (impl_Line.l0 kq l0 l1 (l0.length:Int) x13_1=some r)∧Aside0 (kq≤k)∧Drawn0 w w')
  case atStart=>exact ⟨(0),fg,H',⟨Nat.le_refl _⟩,by repeat (first|exact Drawn0.refl _|apply Drawn0.step)⟩
  case round =>
   clear H'
   try clear c1
   try clear c3
   try clear c3b0
   try clear c3b1
   try clear c3b2
   obtain ⟨x13_1,rfl,HA,HK1,⟨m1,rfl⟩⟩:=hrel
   cases gk with
   | zero=>exact absurd HA.out (by simp [impl_Line.l0])
   | succ k1 =>
    have H:=HA.out;clear HA;simp only [impl_Line.l0] at H
    revert H;refine id2 ?_ ?_
    ·intro c4b0 H
     revert H;refine id1 ?_
     intro c5b0 H
     revert H;refine id1 ?_
     intro c6b0 H
     revert H;refine id1 ?_
     intro c7b0 H
     revert H;refine ip2 ?_ ?_
     ·intro c8 H;have c8b0:(!(((rd_T71 l0 x13_1).f0) == ((rd_T71 l1 x13_1).f0)) || (!((((rd_T71 l0 x13_1).f1).toList) == (((rd_T71 l1 x13_1).f1).toList)) || (!(((rd_T71 l0 x13_1).f2) == ((rd_T71 l1 x13_1).f2)) || (!(((rd_T71 l0 x13_1).f3) == ((rd_T71 l1 x13_1).f3)) || (!((((rd_T71 l0 x13_1).f4).toList) == (((rd_T71 l1 x13_1).f4).toList)))))))=true:=c8;clear c8;obtain rfl:=si H;have p640:0≤(x13_1:Int):=oa;have q640:x13_1<(l0.length:Int):=oa;obtain ⟨ad640,e640,hx640_0,hx640_1,hx640_2,hx640_3,hx640_4⟩:=at_T71 HR0.out x13_1 p640 q640
      cases e640
      replace p640:=eq_true p640;replace q640:=eq_true q640;have p641:0≤(x13_1:Int):=oa;have q641:x13_1<(l1.length:Int):=oa;obtain ⟨ad641,e641,hx641_0,hx641_1,hx641_2,hx641_3,hx641_4⟩:=at_T71 HR1.out x13_1 p641 q641
      cases e641
      replace p641:=eq_true p641;replace q641:=eq_true q641
      go_wp2
      repeat (go_quiet (fail);try go_wp2)
      go_ret
      exact ⟨fg,by repeat (first|exact Drawn0.refl _|apply Drawn0.step)⟩
     ·intro c8 H
      have c8b0:(!(((rd_T71 l0 x13_1).f0) == ((rd_T71 l1 x13_1).f0)) || (!((((rd_T71 l0 x13_1).f1).toList) == (((rd_T71 l1 x13_1).f1).toList)) || (!(((rd_T71 l0 x13_1).f2) == ((rd_T71 l1 x13_1).f2)) || (!(((rd_T71 l0 x13_1).f3) == ((rd_T71 l1 x13_1).f3)) || (!((((rd_T71 l0 x13_1).f4).toList) == (((rd_T71 l1 x13_1).f4).toList)))))))=false:=by simpa using c8
      clear c8;have H':=am H;clear H;have p640:0≤(x13_1:Int):=oa;have q640:x13_1<(l0.length:Int):=oa;obtain ⟨ad640,e640,hx640_0,hx640_1,hx640_2,hx640_3,hx640_4⟩:=at_T71 HR0.out x13_1 p640 q640
      cases e640
      replace p640:=eq_true p640;replace q640:=eq_true q640;have p641:0≤(x13_1:Int):=oa;have q641:x13_1<(l1.length:Int):=oa;obtain ⟨ad641,e641,hx641_0,hx641_1,hx641_2,hx641_3,hx641_4⟩:=at_T71 HR1.out x13_1 p641 q641
      cases e641
      replace p641:=eq_true p641;replace q641:=eq_true q641
      go_wp2
      repeat (go_quiet (fail);try go_wp2)
      go_roundg k1
      case measure=>have:=HK1.out;omega
      case rel=>exact ⟨(wrap64 (x13_1+1)),fg,H',⟨by have:=HK1.out;omega⟩,by repeat (first|exact Drawn0.refl _|apply Drawn0.step)⟩
    ·intro c4b0 H;obtain rfl:=si H
     go_wp2
     repeat (go_quiet (fail);try go_wp2)
     go_ret
     exact ⟨fg,by repeat (first|exact Drawn0.refl _|apply Drawn0.step)⟩
 ·intro c3 c3b0 c3b1 H
  have c3b2:(l0.length == l1.length)=false:=by first|simpa using c3|(simp at c3 ⊢;omega)
  obtain rfl:=si H
  go_in
  go_wp2
  repeat (go_quiet (fail);try go_wp2)
  go_ret
  exact ⟨fg,by repeat (first|exact Drawn0.refl _|apply Drawn0.step)⟩
end Go.Proofs.YtogkcllenfkdmaaGreatDoor.QR
