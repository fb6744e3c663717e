-- Merged by a program of this session (wip/tool/pack.py) out of its own texts for this claim.
import Derived.Test.YtkfcahggnpecjaaGreatDoorKFnExactGateAnswer16
set_option maxHeartbeats 8000000
set_option maxRecDepth 100000
set_option linter.unusedSimpArgs false
set_option linter.unusedVariables false
namespace Go.Proofs.YtkfcahggnpecjaaGreatDoor.QW
open Go.RowKit Go.Proofs.YtkfcahggnpecjaaGreatDoorW.PrintWords Go.Proofs.YtkfcahggnpecjaaGreatDoorW.PrintLast Go.Proofs.YtkfcahggnpecjaaGreatDoorW.PrintMore
attribute [local go_sem] max2_int min2_int max_two min_two max_three min_three max_four min_four   -- for this text's walks alone
def IsS47 (w0 W:World) (g:Nat) (f0:ByteArray) (f1:Int) (f2:List (S108)) (f3:List (S111)) (f4:List (S141)) (f5:List (S147)) (f6:List (S115)) (f7:List (S117)):Prop:=∃ A2 c2,∃ A3 c3,∃ A4 c4,∃ A5 c5,∃ A6 c6,∃ A7 c7,W.heap[g]? = some (.cells #[.string f0,.int .i64 f1,.slice A2 f2.length c2,.slice A3 f3.length c3,.slice A4 f4.length c4,.slice A5 f5.length c5,.slice A6 f6.length c6,.slice A7 f7.length c7] 47 (0,0))∧w0.heap.size≤g∧(Kd.C k108 w0 A2 f2.length f2∧f2.length≤c2)∧(Kd.C k111 w0 A3 f3.length f3∧f3.length≤c3)∧(Kd.C k141 w0 A4 f4.length f4∧f4.length≤c4)∧(Kd.C k147 w0 A5 f5.length f5∧f5.length≤c5)∧(Kd.C k115 w0 A6 f6.length f6∧f6.length≤c6)∧(Kd.C k117 w0 A7 f7.length f7∧f7.length≤c7)
theorem IsS47.grown {w0 W:World} {g:Nat} {f0:ByteArray} {f1:Int} {f2:List (S108)} {f3:List (S111)} {f4:List (S141)} {f5:List (S147)} {f6:List (S115)} {f7:List (S117)} {W1:World} {row:Option Nat} (h:IsS47 w0 W g f0 f1 f2 f3 f4 f5 f6 f7) (hw:W.grownBy W1 row) (hne:some g≠row):IsS47 w0 W1 g f0 f1 f2 f3 f4 f5 f6 f7:=by
 obtain ⟨A2,c2,A3,c3,A4,c4,A5,c5,A6,c6,A7,c7,hb,hg,hr2,hr3,hr4,hr5,hr6,hr7⟩:=h
 exact ⟨A2,c2,A3,c3,A4,c4,A5,c5,A6,c6,A7,c7,blk_grown hb hw hne,hg,hr2,hr3,hr4,hr5,hr6,hr7⟩
theorem IsS47.kept {w0 W:World} {g:Nat} {f0:ByteArray} {f1:Int} {f2:List (S108)} {f3:List (S111)} {f4:List (S141)} {f5:List (S147)} {f6:List (S115)} {f7:List (S117)} {W1:World} {S:Nat→Prop} (h:IsS47 w0 W g f0 f1 f2 f3 f4 f5 f6 f7) (hk:Kept W W1 S) (hne:¬ S g):IsS47 w0 W1 g f0 f1 f2 f3 f4 f5 f6 f7:=by
 obtain ⟨A2,c2,A3,c3,A4,c4,A5,c5,A6,c6,A7,c7,hb,hg,hr2,hr3,hr4,hr5,hr6,hr7⟩:=h
 exact ⟨A2,c2,A3,c3,A4,c4,A5,c5,A6,c6,A7,c7,blk_kept hb hk hne,hg,hr2,hr3,hr4,hr5,hr6,hr7⟩
theorem IsS47.below {w0 W:World} {g:Nat} {f0:ByteArray} {f1:Int} {f2:List (S108)} {f3:List (S111)} {f4:List (S141)} {f5:List (S147)} {f6:List (S115)} {f7:List (S117)} {W1:World} (h:IsS47 w0 W g f0 f1 f2 f3 f4 f5 f6 f7) (hw:Below W.heap.size W W1):IsS47 w0 W1 g f0 f1 f2 f3 f4 f5 f6 f7:=h.grown (grown_of_below hw none) (by simp)
theorem IsS47.alloc {w0 W:World} {g:Nat} {f0:ByteArray} {f1:Int} {f2:List (S108)} {f3:List (S111)} {f4:List (S141)} {f5:List (S147)} {f6:List (S115)} {f7:List (S117)} (h:IsS47 w0 W g f0 f1 f2 f3 f4 f5 f6 f7) (o:Obj):IsS47 w0 (W.alloc o) g f0 f1 f2 f3 f4 f5 f6 f7:=h.below (below_alloc (Below.refl _ _) o)
theorem IsS47.drewN {w0 W:World} {g:Nat} {f0:ByteArray} {f1:Int} {f2:List (S108)} {f3:List (S111)} {f4:List (S141)} {f5:List (S147)} {f6:List (S115)} {f7:List (S117)} (h:IsS47 w0 W g f0 f1 f2 f3 f4 f5 f6 f7) (m:Nat):IsS47 w0 (W.drewN m) g f0 f1 f2 f3 f4 f5 f6 f7:=h
theorem IsS47.drew {w0 W:World} {g:Nat} {f0:ByteArray} {f1:Int} {f2:List (S108)} {f3:List (S111)} {f4:List (S141)} {f5:List (S147)} {f6:List (S115)} {f7:List (S117)} (h:IsS47 w0 W g f0 f1 f2 f3 f4 f5 f6 f7):IsS47 w0 W.drew g f0 f1 f2 f3 f4 f5 f6 f7:=h
theorem IsS47.at_ {w0 W:World} {g:Nat} {f0:ByteArray} {f1:Int} {f2:List (S108)} {f3:List (S111)} {f4:List (S141)} {f5:List (S147)} {f6:List (S115)} {f7:List (S117)} {w':World} {m:Nat} (hq:W.drewN m=w') (h:IsS47 w0 W g f0 f1 f2 f3 f4 f5 f6 f7):IsS47 w0 w' g f0 f1 f2 f3 f4 f5 f6 f7:=by subst hq;exact IsS47.drewN h m
theorem IsS47.apart {w0 W:World} {g:Nat} {f0:ByteArray} {f1:Int} {f2:List (S108)} {f3:List (S111)} {f4:List (S141)} {f5:List (S147)} {f6:List (S115)} {f7:List (S117)} {α:Type} {d:Kd α} {e:Nat} {base:Nat} {ok:Nat→Prop} {v:Value} {xs:List α} (h:IsS47 w0 W g f0 f1 f2 f3 f4 f5 f6 f7) (ho:d.R e W base ok v xs) (ht:∀ q,q ∈ e :: d.E→q≠47):d.R e W base (fun k=>ok k∧k≠g) v xs:=by
 obtain ⟨A2,c2,A3,c3,A4,c4,A5,c5,A6,c6,A7,c7,hb,hg,hr2,hr3,hr4,hr5,hr6,hr7⟩:=h
 exact Kd.R_types ho hb ht
theorem IsS47.own_ne {w0 W:World} {g:Nat} {f0:ByteArray} {f1:Int} {f2:List (S108)} {f3:List (S111)} {f4:List (S141)} {f5:List (S147)} {f6:List (S115)} {f7:List (S117)} {α:Type} {d:Kd α} {e:Nat} {base:Nat} {ok:Nat→Prop} {v:Value} {xs:List α} (h:IsS47 w0 W g f0 f1 f2 f3 f4 f5 f6 f7) (ho:d.R e W base ok v xs) (ht:e≠47):some g≠v.ownBlock:=by
 obtain ⟨A2,c2,A3,c3,A4,c4,A5,c5,A6,c6,A7,c7,hb,hg,hr2,hr3,hr4,hr5,hr6,hr7⟩:=h
 exact Kd.R_ne ho hb ht
theorem IsS47.lt {w0 W:World} {g:Nat} {f0:ByteArray} {f1:Int} {f2:List (S108)} {f3:List (S111)} {f4:List (S141)} {f5:List (S147)} {f6:List (S115)} {f7:List (S117)} (h:IsS47 w0 W g f0 f1 f2 f3 f4 f5 f6 f7):g<W.heap.size:=by
 obtain ⟨A2,c2,A3,c3,A4,c4,A5,c5,A6,c6,A7,c7,hb,hg,hr2,hr3,hr4,hr5,hr6,hr7⟩:=h
 exact blk_lt hb
theorem IsS47.ge {w0 W:World} {g:Nat} {f0:ByteArray} {f1:Int} {f2:List (S108)} {f3:List (S111)} {f4:List (S141)} {f5:List (S147)} {f6:List (S115)} {f7:List (S117)} (h:IsS47 w0 W g f0 f1 f2 f3 f4 f5 f6 f7):w0.heap.size≤g:=by
 obtain ⟨A2,c2,A3,c3,A4,c4,A5,c5,A6,c6,A7,c7,hb,hg,hr2,hr3,hr4,hr5,hr6,hr7⟩:=h
 exact hg
theorem IsS47.far {w0 W:World} {g:Nat} {f0:ByteArray} {f1:Int} {f2:List (S108)} {f3:List (S111)} {f4:List (S141)} {f5:List (S147)} {f6:List (S115)} {f7:List (S117)} {p:Addr} (h:IsS47 w0 W g f0 f1 f2 f3 f4 f5 f6 f7) (hne:g≠p.block) (u:Value):IsS47 w0 (W.setCell p u) g f0 f1 f2 f3 f4 f5 f6 f7:=by
 obtain ⟨A2,c2,A3,c3,A4,c4,A5,c5,A6,c6,A7,c7,hb,hg,hr2,hr3,hr4,hr5,hr6,hr7⟩:=h
 exact ⟨A2,c2,A3,c3,A4,c4,A5,c5,A6,c6,A7,c7,blk_far hb hne u,hg,hr2,hr3,hr4,hr5,hr6,hr7⟩
theorem cellS47_0 {W:World} {g:Nat} {A2:Option Addr} {c2:Nat} {A3:Option Addr} {c3:Nat} {A4:Option Addr} {c4:Nat} {A5:Option Addr} {c5:Nat} {A6:Option Addr} {c6:Nat} {A7:Option Addr} {c7:Nat} {f0:ByteArray} {f1:Int} {f2:List (S108)} {f3:List (S111)} {f4:List (S141)} {f5:List (S147)} {f6:List (S115)} {f7:List (S117)} (h:W.heap[g]? = some (.cells #[.string f0,.int .i64 f1,.slice A2 f2.length c2,.slice A3 f3.length c3,.slice A4 f4.length c4,.slice A5 f5.length c5,.slice A6 f6.length c6,.slice A7 f7.length c7] 47 (0,0))):W.cell? ⟨g,0,none⟩=some (.string f0):=(blk_cell h 0).trans rfl
theorem IsS47.set_0 {w0 W:World} {g:Nat} {f0:ByteArray} {f1:Int} {f2:List (S108)} {f3:List (S111)} {f4:List (S141)} {f5:List (S147)} {f6:List (S115)} {f7:List (S117)} (h:IsS47 w0 W g f0 f1 f2 f3 f4 f5 f6 f7) (x:ByteArray):IsS47 w0 (W.setCell ⟨g,0,none⟩ (.string x)) g x f1 f2 f3 f4 f5 f6 f7:=by
 obtain ⟨A2,c2,A3,c3,A4,c4,A5,c5,A6,c6,A7,c7,hb,hg,hr2,hr3,hr4,hr5,hr6,hr7⟩:=h
 exact ⟨A2,c2,A3,c3,A4,c4,A5,c5,A6,c6,A7,c7,by simpa using blk_set hb 0 (.string x),hg,hr2,hr3,hr4,hr5,hr6,hr7⟩
theorem cellS47_1 {W:World} {g:Nat} {A2:Option Addr} {c2:Nat} {A3:Option Addr} {c3:Nat} {A4:Option Addr} {c4:Nat} {A5:Option Addr} {c5:Nat} {A6:Option Addr} {c6:Nat} {A7:Option Addr} {c7:Nat} {f0:ByteArray} {f1:Int} {f2:List (S108)} {f3:List (S111)} {f4:List (S141)} {f5:List (S147)} {f6:List (S115)} {f7:List (S117)} (h:W.heap[g]? = some (.cells #[.string f0,.int .i64 f1,.slice A2 f2.length c2,.slice A3 f3.length c3,.slice A4 f4.length c4,.slice A5 f5.length c5,.slice A6 f6.length c6,.slice A7 f7.length c7] 47 (0,0))):W.cell? ⟨g,1,none⟩=some (.int .i64 f1):=(blk_cell h 1).trans rfl
theorem IsS47.set_1 {w0 W:World} {g:Nat} {f0:ByteArray} {f1:Int} {f2:List (S108)} {f3:List (S111)} {f4:List (S141)} {f5:List (S147)} {f6:List (S115)} {f7:List (S117)} (h:IsS47 w0 W g f0 f1 f2 f3 f4 f5 f6 f7) (x:Int):IsS47 w0 (W.setCell ⟨g,1,none⟩ (.int .i64 x)) g f0 x f2 f3 f4 f5 f6 f7:=by
 obtain ⟨A2,c2,A3,c3,A4,c4,A5,c5,A6,c6,A7,c7,hb,hg,hr2,hr3,hr4,hr5,hr6,hr7⟩:=h
 exact ⟨A2,c2,A3,c3,A4,c4,A5,c5,A6,c6,A7,c7,by simpa using blk_set hb 1 (.int .i64 x),hg,hr2,hr3,hr4,hr5,hr6,hr7⟩
theorem cellS47_2 {W:World} {g:Nat} {A2:Option Addr} {c2:Nat} {A3:Option Addr} {c3:Nat} {A4:Option Addr} {c4:Nat} {A5:Option Addr} {c5:Nat} {A6:Option Addr} {c6:Nat} {A7:Option Addr} {c7:Nat} {f0:ByteArray} {f1:Int} {f2:List (S108)} {f3:List (S111)} {f4:List (S141)} {f5:List (S147)} {f6:List (S115)} {f7:List (S117)} (h:W.heap[g]? = some (.cells #[.string f0,.int .i64 f1,.slice A2 f2.length c2,.slice A3 f3.length c3,.slice A4 f4.length c4,.slice A5 f5.length c5,.slice A6 f6.length c6,.slice A7 f7.length c7] 47 (0,0))):W.cell? ⟨g,2,none⟩=some (.slice A2 f2.length c2):=(blk_cell h 2).trans rfl
theorem cellS47_3 {W:World} {g:Nat} {A2:Option Addr} {c2:Nat} {A3:Option Addr} {c3:Nat} {A4:Option Addr} {c4:Nat} {A5:Option Addr} {c5:Nat} {A6:Option Addr} {c6:Nat} {A7:Option Addr} {c7:Nat} {f0:ByteArray} {f1:Int} {f2:List (S108)} {f3:List (S111)} {f4:List (S141)} {f5:List (S147)} {f6:List (S115)} {f7:List (S117)} (h:W.heap[g]? = some (.cells #[.string f0,.int .i64 f1,.slice A2 f2.length c2,.slice A3 f3.length c3,.slice A4 f4.length c4,.slice A5 f5.length c5,.slice A6 f6.length c6,.slice A7 f7.length c7] 47 (0,0))):W.cell? ⟨g,3,none⟩=some (.slice A3 f3.length c3):=(blk_cell h 3).trans rfl
theorem cellS47_4 {W:World} {g:Nat} {A2:Option Addr} {c2:Nat} {A3:Option Addr} {c3:Nat} {A4:Option Addr} {c4:Nat} {A5:Option Addr} {c5:Nat} {A6:Option Addr} {c6:Nat} {A7:Option Addr} {c7:Nat} {f0:ByteArray} {f1:Int} {f2:List (S108)} {f3:List (S111)} {f4:List (S141)} {f5:List (S147)} {f6:List (S115)} {f7:List (S117)} (h:W.heap[g]? = some (.cells #[.string f0,.int .i64 f1,.slice A2 f2.length c2,.slice A3 f3.length c3,.slice A4 f4.length c4,.slice A5 f5.length c5,.slice A6 f6.length c6,.slice A7 f7.length c7] 47 (0,0))):W.cell? ⟨g,4,none⟩=some (.slice A4 f4.length c4):=(blk_cell h 4).trans rfl
theorem cellS47_5 {W:World} {g:Nat} {A2:Option Addr} {c2:Nat} {A3:Option Addr} {c3:Nat} {A4:Option Addr} {c4:Nat} {A5:Option Addr} {c5:Nat} {A6:Option Addr} {c6:Nat} {A7:Option Addr} {c7:Nat} {f0:ByteArray} {f1:Int} {f2:List (S108)} {f3:List (S111)} {f4:List (S141)} {f5:List (S147)} {f6:List (S115)} {f7:List (S117)} (h:W.heap[g]? = some (.cells #[.string f0,.int .i64 f1,.slice A2 f2.length c2,.slice A3 f3.length c3,.slice A4 f4.length c4,.slice A5 f5.length c5,.slice A6 f6.length c6,.slice A7 f7.length c7] 47 (0,0))):W.cell? ⟨g,5,none⟩=some (.slice A5 f5.length c5):=(blk_cell h 5).trans rfl
theorem cellS47_6 {W:World} {g:Nat} {A2:Option Addr} {c2:Nat} {A3:Option Addr} {c3:Nat} {A4:Option Addr} {c4:Nat} {A5:Option Addr} {c5:Nat} {A6:Option Addr} {c6:Nat} {A7:Option Addr} {c7:Nat} {f0:ByteArray} {f1:Int} {f2:List (S108)} {f3:List (S111)} {f4:List (S141)} {f5:List (S147)} {f6:List (S115)} {f7:List (S117)} (h:W.heap[g]? = some (.cells #[.string f0,.int .i64 f1,.slice A2 f2.length c2,.slice A3 f3.length c3,.slice A4 f4.length c4,.slice A5 f5.length c5,.slice A6 f6.length c6,.slice A7 f7.length c7] 47 (0,0))):W.cell? ⟨g,6,none⟩=some (.slice A6 f6.length c6):=(blk_cell h 6).trans rfl
theorem cellS47_7 {W:World} {g:Nat} {A2:Option Addr} {c2:Nat} {A3:Option Addr} {c3:Nat} {A4:Option Addr} {c4:Nat} {A5:Option Addr} {c5:Nat} {A6:Option Addr} {c6:Nat} {A7:Option Addr} {c7:Nat} {f0:ByteArray} {f1:Int} {f2:List (S108)} {f3:List (S111)} {f4:List (S141)} {f5:List (S147)} {f6:List (S115)} {f7:List (S117)} (h:W.heap[g]? = some (.cells #[.string f0,.int .i64 f1,.slice A2 f2.length c2,.slice A3 f3.length c3,.slice A4 f4.length c4,.slice A5 f5.length c5,.slice A6 f6.length c6,.slice A7 f7.length c7] 47 (0,0))):W.cell? ⟨g,7,none⟩=some (.slice A7 f7.length c7):=(blk_cell h 7).trans rfl
def impl_Gate_answer.T1:Bool × List (List Nat × List Nat):=(true,[([],[]),([0],[0]),([1],[1]),([],[]),([3],[3]),([4],[4]),([5],[5]),([],[]),([],[]),([],[]),([7,8,9],[7,8,9]),([10],[10]),([2,6,11],[2,6,11]),([12,1,0,1,2,3,4,5,6,7,8,9,10,11,12],[12])])
def impl_Gate_answer.B1:List Nat:=[0,1,3,0,8,24,56,0,0,0,896,1920,4095,8191]
theorem impl_Gate_answer.tab1:rtab .any (opsOf Tryz.f33 1)=impl_Gate_answer.T1:=by kernel_rfl
theorem impl_Gate_answer.bits1:waitsOk impl_Gate_answer.T1.2 impl_Gate_answer.B1=true:=by kernel_rfl
theorem impl_Gate_answer.calls (g:Nat) (s0_0:ByteArray) (s0_1:Int) (s0_2:List (S108)) (s0_3:List (S111)) (s0_4:List (S141)) (s0_5:List (S147)) (s0_6:List (S115)) (s0_7:List (S117)) (a1:Int) (a2:Int) (a3:Int) (r1:Int) (r2:ByteArray) (r3:ByteArray) (r4:Int) (r5:List ByteArray) (r6:List (S64)) (r7:ByteArray) (r8:Int) (w0 w:World) (hI:IsS47 w0 w g s0_0 s0_1 s0_2 s0_3 s0_4 s0_5 s0_6 s0_7) (hB:Below w0.heap.size w0 w) (hTF:TbF w0) (H:impl_Gate_answer.f s0_0 s0_1 s0_2 s0_3 s0_4 s0_5 s0_6 s0_7 a1 a2 a3=some (r1,r2,r3,r4,r5,r6,r7,r8)) :
  Calls Tryz.prog 33 #[.pointer (some ⟨g,0,none⟩),.int .i64 a1,.int .i64 a2,.int .i64 a3] w fun e w'=>∃ v4_ v5_:Value,e=.returned (.agg #[.int .i64 r1,.string r2,.string r3,.int .i64 r4,v4_,v5_])∧Kd.R Kd.string 9 w' w.heap.size (fun _=>True) v4_ r5∧Kd.R k64 64 w' w.heap.size (fun _=>True) v5_ r6∧IsS47 w0 w' g r7 r8 s0_2 s0_3 s0_4 s0_5 s0_6 s0_7∧Below w0.heap.size w0 w'∧KeepBut w w' g none:=by
 have HTF:=am hTF;clear hTF
 have hu36:=Tryz.underlying36;have hu64:=Tryz.underlying64;have HI0:=am hI;have HK:=am (KeepBut.refl w g none);have HL:=am hB.size;clear hI;have HW0:=am hB.size;have HB:=am hB;clear hB;unfold impl_Gate_answer.f at H;replace H:=bo H;obtain ⟨t25,A5,H⟩:=H
 revert H;refine ip2 ?_ ?_
 ·intro c6 H;have c6b0:=eq_true c6;have c6b1:decide (1+t25.size≤9223372036854775807)=true:=decide_eq_true c6
  try have c6b2:(9223372036854775807<1+t25.size)=False:=eq_false (Nat.not_lt.2 c6)
  obtain ⟨y23,hy23⟩:∃ y_:List (S64),y_=(([(⟨a2,(⟨#[]⟩:ByteArray),a1,a3,(⟨#[]⟩:ByteArray)⟩:S64)]:List (S64))):=⟨_,rfl⟩
  replace H:(some (7,(⟨#[65]⟩:ByteArray)++t25,(⟨#[]⟩:ByteArray),s0_1,([]:List ByteArray),y23,s0_0,s0_1))=some (r1,r2,r3,r4,r5,r6,r7,r8):=ye hy23 H
  have Ny23:=am hy23;clear hy23;replace H:=sj8 H;obtain ⟨rfl,rfl,rfl,rfl,rfl,rfl,rfl,rfl⟩:=H
  go_in
  try go_wp2_with (first|((with_reducible refine gate_dst (N:=8) rfl ?_);refine bx 8 (cs:=#[.int .i64 0,.string (⟨#[]⟩:ByteArray),.string (⟨#[]⟩:ByteArray),.int .i64 0,.slice none 0 0,.slice none 0 0]) (t:=36) ?_;intro gb22 hg w7 hbox hb;have n0_:=am (IsS47.below (by repeat (first|(with_reducible first|exact HI0.out|apply IsS47.alloc|apply IsS47.drewN|apply IsS47.drew|apply IsS47.set_0|apply IsS47.set_1)|exact HI0.out)) hb);have n1_:=am (KeepBut.trans (by repeat (first|(with_reducible first|exact HK.out|apply KeepBut.set_|apply keep_drewN|apply keep_drew|apply keep_alloc)|exact HK.out)) (KeepBut.of_below hb g none) (.inl rfl));have n2_:=am (below_step (by repeat (first|(with_reducible first|exact HB.out|apply below_alloc|apply pw_below_drewN|apply below_drew1|refine below_set ?_ (IsS47.ge HI0.out))|exact HB.out)) hb);have n3_:=am (hbox);have n4_:=am ((by rw [hg];exact (keep_size (w:=w) (g:=g) (row:=none) (by repeat (first|(with_reducible first|exact HK.out|apply KeepBut.set_|apply keep_drewN|apply keep_drew|apply keep_alloc)|exact HK.out))):w.heap.size≤gb22));have n5_:=am ((Nat.le_trans HW0.out (by rw [hg];exact (keep_size (w:=w) (g:=g) (row:=none) (by repeat (first|(with_reducible first|exact HK.out|apply KeepBut.set_|apply keep_drewN|apply keep_drew|apply keep_alloc)|exact HK.out))):w.heap.size≤gb22):w0.heap.size≤gb22));have n6_:=am ((by rw [hg];exact Nat.ne_of_lt (IsS47.lt (show IsS47 w0 _ g s0_0 s0_1 s0_2 s0_3 s0_4 s0_5 s0_6 s0_7 from by repeat (first|(with_reducible first|exact HI0.out|apply IsS47.alloc|apply IsS47.drewN|apply IsS47.drew|apply IsS47.set_0|apply IsS47.set_1)|exact HI0.out))):g≠gb22));have n7_:=am ((by rw [hg];exact Nat.ne_of_gt (IsS47.lt (show IsS47 w0 _ g s0_0 s0_1 s0_2 s0_3 s0_4 s0_5 s0_6 s0_7 from by repeat (first|(with_reducible first|exact HI0.out|apply IsS47.alloc|apply IsS47.drewN|apply IsS47.drew|apply IsS47.set_0|apply IsS47.set_1)|exact HI0.out))):gb22≠g));clear HI0;clear HK;clear HB;have HI0:=n0_;have HK:=n1_;have HB:=n2_;have BK22:=n3_;have GW22:=n4_;have GE22:=n5_;have NB0_22:=n6_;have NB22_0:=n7_;clear n0_ n1_ n2_ n3_ n4_ n5_ n6_ n7_;clear hb hbox hg))
  replace BK22:=am (blk_drew BK22.out);replace HI0:=am (IsS47.drew HI0.out);replace HK:=am (keep_drew HK.out);replace HB:=am (below_drew1 HB.out);refine start_ (n:=14) (S:=fun w'=>qk2 w' g (.string s0_0) (.int .i64 s0_1)) (ds:=[]) _ (by kernel_rfl) rfl rfl ⟨(by obtain ⟨_,_,_,_,_,_,_,_,_,_,_,_,hb_,_,_,_,_,_,_,_⟩:=HI0.out;exact (cellS47_0 hb_).trans rfl),(by obtain ⟨_,_,_,_,_,_,_,_,_,_,_,_,hb_,_,_,_,_,_,_,_⟩:=HI0.out;exact (cellS47_1 hb_).trans rfl)⟩ (fun hHeld=>?_);refine with_tabW impl_Gate_answer.tab1 impl_Gate_answer.bits1 (fun HT_ HW_=>?_)
  generalize w7.drew=w8 at BK22 HI0 HK HB hHeld ⊢
  refine pA 0 9 HT_ ?_;refine pA 3 12 HT_ ?_;refine pA 4 13 HT_ ?_;refine pA 5 14 HT_ ?_;refine pA 7 16 HT_ ?_;refine pA 8 17 HT_ ?_;refine pA 9 18 HT_ ?_;refine pA 10 19 HT_ ?_;refine tA 6 15 HT_ HW_ hHeld ?_;refine join_ (σ:=Value) 2 #[true,true,true,true,true,true,true,true,true,true,true,true,false,false] (fun s_=>[(10,.string t25),(20,s_),(11,.string ((⟨#[65]⟩:ByteArray)++t25))]) (fun s_ w'=>(w'.cell? ⟨g,0,none⟩=some (.string s0_0)∧w'.cell? ⟨g,1,none⟩=some (.int .i64 s0_1))∧(Kd.R k64 64 w' w.heap.size (fun _=>True) s_ y23)∧(w'.heap[gb22]? = some (.cells #[.int .i64 0,.string (⟨#[]⟩:ByteArray),.string (⟨#[]⟩:ByteArray),.int .i64 0,.slice none 0 0,.slice none 0 0] 36 (0,0)))∧(IsS47 w0 w' g s0_0 s0_1 s0_2 s0_3 s0_4 s0_5 s0_6 s0_7)∧(KeepBut w w' g none)∧(Below w0.heap.size w0 w')) ?_ ?_
  rotate_left
  ·intro hCont;refine two_ (i:=1) (j:=11) (Ni:=some 10) (Nj:=some 20) #[true,true,false,true,true,true,true,true,true,true,true,false,false,false] #[true,false,false,true,true,true,true,true,true,true,true,true,false,false] rfl rfl rfl rfl (two_of HT_.out (by kernel_rfl)) (by decide) (by decide) (fun K hK=>?_) (fun K hK=>?_)
   ·skip
    refine gA Tryz.func76 #[.int .i64 a1] ?_;(with_reducible refine (impl_decimal.calls a1 t25 _ (tbF HTF (bs HB)) A5.out).mono ?_);rintro e w9 ⟨rfl,hb⟩;refine ⟨_,rfl,?_⟩;replace BK22:=bb BK22 hb;replace HK:=am (KeepBut.trans (by repeat (first|(with_reducible first|exact HK.out|apply KeepBut.set_|apply keep_drewN|apply keep_drew|apply keep_alloc|refine keep_far ?_ GW22.out _)|exact HK.out)) (KeepBut.of_below hb g none) (.inl rfl));replace HB:=am (below_step (by repeat (first|(with_reducible first|exact HB.out|apply below_alloc|apply pw_below_drewN|apply below_drew1|refine below_set ?_ (IsS47.ge HI0.out)|refine below_set ?_ GE22.out)|exact HB.out)) hb);replace HI0:=am (IsS47.below (by repeat (first|(with_reducible first|exact HI0.out|apply IsS47.alloc|apply IsS47.drewN|apply IsS47.drew|apply IsS47.set_0|apply IsS47.set_1|refine IsS47.far ?_ NB0_22.out _)|exact HI0.out)) hb);(try clear hb);(try clear hb2);(try clear hk);(try clear hi);refine hK.out _ _ ⟨(by obtain ⟨_,_,_,_,_,_,_,_,_,_,_,_,hb_,_,_,_,_,_,_,_⟩:=HI0.out;exact (cellS47_0 hb_).trans rfl),(by obtain ⟨_,_,_,_,_,_,_,_,_,_,_,_,hb_,_,_,_,_,_,_,_⟩:=HI0.out;exact (cellS47_1 hb_).trans rfl)⟩ (fun hHeld=>?_);clear hK K;refine nA 10 ?_;refine pA 2 11 HT_ ?_;refine oA 11 20 HT_ (fun K hK=>?_);refine Kd.R_lit_step k64 _ 64 ?hg (N:=20) ?hd (xs:=([(⟨a2,(⟨#[]⟩:ByteArray),a1,a3,(⟨#[]⟩:ByteArray)⟩:S64)]:List (S64))) (inner:=[.int .i64 a2,.string (⟨#[]⟩:ByteArray),.int .i64 a1,.int .i64 a3,.string (⟨#[]⟩:ByteArray)]) (ok:=fun _=>True) (okp:=fun _=>True) ?hr ?hp (fun _ hk=>hk) trivial (Below.refl _ _) (Nat.le_refl _) (by simp) ?_;(case hd=>rfl);(case hg=>rfl);(case hr=>first|(go_simp;done)|(go_simp;rfl));(case hp=>exact (Reps.c5 (show Kd.M k64 _ _ _ (⟨a2,(⟨#[]⟩:ByteArray),a1,a3,(⟨#[]⟩:ByteArray)⟩:S64) [.int .i64 a2,.string (⟨#[]⟩:ByteArray),.int .i64 a1,.int .i64 a3,.string (⟨#[]⟩:ByteArray)] from (k64_mkM _ _ _ (⟨a2,(⟨#[]⟩:ByteArray),a1,a3,(⟨#[]⟩:ByteArray)⟩:S64) )) (Reps.none _ _)));intro v26 w10 ho11 hb hg_ hnew_;clear hg_ hnew_
    (first|rw [← Ny23.out] at ho11|(simp only [Int.reduceToNat] at ho11;rw [← Ny23.out] at ho11))
    have HO24:=am (Kd.R_lower ho11 (keep_size (w:=w) (g:=g) (row:=none) (by repeat (first|(with_reducible first|exact HK.out|apply KeepBut.set_|apply keep_drewN|apply keep_drew|apply keep_alloc|refine keep_far ?_ GW22.out _)|exact HK.out))));replace BK22:=bb BK22 hb;replace HK:=am (KeepBut.trans (by repeat (first|(with_reducible first|exact HK.out|apply KeepBut.set_|apply keep_drewN|apply keep_drew|apply keep_alloc|refine keep_far ?_ GW22.out _)|exact HK.out)) (KeepBut.of_below hb g none) (.inl rfl));replace HB:=am (below_step (by repeat (first|(with_reducible first|exact HB.out|apply below_alloc|apply pw_below_drewN|apply below_drew1|refine below_set ?_ (IsS47.ge HI0.out)|refine below_set ?_ GE22.out)|exact HB.out)) hb);replace HI0:=am (IsS47.below (by repeat (first|(with_reducible first|exact HI0.out|apply IsS47.alloc|apply IsS47.drewN|apply IsS47.drew|apply IsS47.set_0|apply IsS47.set_1|refine IsS47.far ?_ NB0_22.out _)|exact HI0.out)) hb);clear hb ho11;obtain ⟨Ao12,co12,eo12⟩:=Kd.R_slice HO24.out
    (first|subst eo12|(injection eo12 with f1_ f2_ f3_;have f4_:=f1_.symm;have f5_:=f3_.symm;clear f1_ f2_ f3_;subst f4_;subst f5_))
    refine hK.out _ _ ⟨(by obtain ⟨_,_,_,_,_,_,_,_,_,_,_,_,hb_,_,_,_,_,_,_,_⟩:=HI0.out;exact (cellS47_0 hb_).trans rfl),(by obtain ⟨_,_,_,_,_,_,_,_,_,_,_,_,hb_,_,_,_,_,_,_,_⟩:=HI0.out;exact (cellS47_1 hb_).trans rfl)⟩ (fun hHeld=>?_);clear hK K;refine nA 20 ?_
    exact norm_ (by simp only [putAll,Act.put,List.setIfInBounds_toArray,List.set_cons_zero,List.set_cons_succ]) (hCont (.slice Ao12 y23.length co12) _ ⟨hHeld,(rs HO24),(ks BK22),(by repeat (first|(with_reducible first|exact HI0.out|apply IsS47.alloc|apply IsS47.drewN|apply IsS47.drew|apply IsS47.set_0|apply IsS47.set_1|refine IsS47.far ?_ NB0_22.out _)|exact HI0.out)),(by repeat (first|(with_reducible first|exact HK.out|apply KeepBut.set_|apply keep_drewN|apply keep_drew|apply keep_alloc|refine keep_far ?_ GW22.out _)|exact HK.out)),(by repeat (first|(with_reducible first|exact HB.out|apply below_alloc|apply pw_below_drewN|apply below_drew1|refine below_set ?_ (IsS47.ge HI0.out)|refine below_set ?_ GE22.out)|exact HB.out))⟩)
   ·skip
    refine Kd.R_lit_step k64 _ 64 ?hg (N:=20) ?hd (xs:=([(⟨a2,(⟨#[]⟩:ByteArray),a1,a3,(⟨#[]⟩:ByteArray)⟩:S64)]:List (S64))) (inner:=[.int .i64 a2,.string (⟨#[]⟩:ByteArray),.int .i64 a1,.int .i64 a3,.string (⟨#[]⟩:ByteArray)]) (ok:=fun _=>True) (okp:=fun _=>True) ?hr ?hp (fun _ hk=>hk) trivial (Below.refl _ _) (Nat.le_refl _) (by simp) ?_;(case hd=>rfl);(case hg=>rfl);(case hr=>first|(go_simp;done)|(go_simp;rfl));(case hp=>exact (Reps.c5 (show Kd.M k64 _ _ _ (⟨a2,(⟨#[]⟩:ByteArray),a1,a3,(⟨#[]⟩:ByteArray)⟩:S64) [.int .i64 a2,.string (⟨#[]⟩:ByteArray),.int .i64 a1,.int .i64 a3,.string (⟨#[]⟩:ByteArray)] from (k64_mkM _ _ _ (⟨a2,(⟨#[]⟩:ByteArray),a1,a3,(⟨#[]⟩:ByteArray)⟩:S64) )) (Reps.none _ _)));intro v26 w9 ho10 hb hg_ hnew_;clear hg_ hnew_
    (first|rw [← Ny23.out] at ho10|(simp only [Int.reduceToNat] at ho10;rw [← Ny23.out] at ho10))
    have HO24:=am (Kd.R_lower ho10 (keep_size (w:=w) (g:=g) (row:=none) (by repeat (first|(with_reducible first|exact HK.out|apply KeepBut.set_|apply keep_drewN|apply keep_drew|apply keep_alloc|refine keep_far ?_ GW22.out _)|exact HK.out))));replace BK22:=bb BK22 hb;replace HK:=am (KeepBut.trans (by repeat (first|(with_reducible first|exact HK.out|apply KeepBut.set_|apply keep_drewN|apply keep_drew|apply keep_alloc|refine keep_far ?_ GW22.out _)|exact HK.out)) (KeepBut.of_below hb g none) (.inl rfl));replace HB:=am (below_step (by repeat (first|(with_reducible first|exact HB.out|apply below_alloc|apply pw_below_drewN|apply below_drew1|refine below_set ?_ (IsS47.ge HI0.out)|refine below_set ?_ GE22.out)|exact HB.out)) hb);replace HI0:=am (IsS47.below (by repeat (first|(with_reducible first|exact HI0.out|apply IsS47.alloc|apply IsS47.drewN|apply IsS47.drew|apply IsS47.set_0|apply IsS47.set_1|refine IsS47.far ?_ NB0_22.out _)|exact HI0.out)) hb);clear hb ho10;refine hK.out _ _ ⟨(by obtain ⟨_,_,_,_,_,_,_,_,_,_,_,_,hb_,_,_,_,_,_,_,_⟩:=HI0.out;exact (cellS47_0 hb_).trans rfl),(by obtain ⟨_,_,_,_,_,_,_,_,_,_,_,_,hb_,_,_,_,_,_,_,_⟩:=HI0.out;exact (cellS47_1 hb_).trans rfl)⟩ (fun hHeld=>?_);clear hK K;refine nA 20 ?_;refine oA 1 10 HT_ (fun K hK=>?_);refine gA Tryz.func76 #[.int .i64 a1] ?_;(with_reducible refine (impl_decimal.calls a1 t25 _ (tbF HTF (bs HB)) A5.out).mono ?_);rintro e w11 ⟨rfl,hb⟩;refine ⟨_,rfl,?_⟩;replace HO24:=am (Kd.R_below (rs HO24) hb);replace BK22:=bb BK22 hb;replace HK:=am (KeepBut.trans (by repeat (first|(with_reducible first|exact HK.out|apply KeepBut.set_|apply keep_drewN|apply keep_drew|apply keep_alloc|refine keep_far ?_ GW22.out _)|exact HK.out)) (KeepBut.of_below hb g none) (.inl rfl));replace HB:=am (below_step (by repeat (first|(with_reducible first|exact HB.out|apply below_alloc|apply pw_below_drewN|apply below_drew1|refine below_set ?_ (IsS47.ge HI0.out)|refine below_set ?_ GE22.out)|exact HB.out)) hb);replace HI0:=am (IsS47.below (by repeat (first|(with_reducible first|exact HI0.out|apply IsS47.alloc|apply IsS47.drewN|apply IsS47.drew|apply IsS47.set_0|apply IsS47.set_1|refine IsS47.far ?_ NB0_22.out _)|exact HI0.out)) hb);(try clear hb);(try clear hb2);(try clear hk);(try clear hi);obtain ⟨Ao12,co12,eo12⟩:=Kd.R_slice HO24.out
    (first|subst eo12|(injection eo12 with f1_ f2_ f3_;have f4_:=f1_.symm;have f5_:=f3_.symm;clear f1_ f2_ f3_;subst f4_;subst f5_))
    refine hK.out _ _ ⟨(by obtain ⟨_,_,_,_,_,_,_,_,_,_,_,_,hb_,_,_,_,_,_,_,_⟩:=HI0.out;exact (cellS47_0 hb_).trans rfl),(by obtain ⟨_,_,_,_,_,_,_,_,_,_,_,_,hb_,_,_,_,_,_,_,_⟩:=HI0.out;exact (cellS47_1 hb_).trans rfl)⟩ (fun hHeld=>?_);clear hK K;refine nA 10 ?_;refine pA 2 11 HT_ ?_
    exact norm_ (by simp only [putAll,Act.put,List.setIfInBounds_toArray,List.set_cons_zero,List.set_cons_succ]) (hCont (.slice Ao12 y23.length co12) _ ⟨hHeld,(rs HO24),(ks BK22),(by repeat (first|(with_reducible first|exact HI0.out|apply IsS47.alloc|apply IsS47.drewN|apply IsS47.drew|apply IsS47.set_0|apply IsS47.set_1|refine IsS47.far ?_ NB0_22.out _)|exact HI0.out)),(by repeat (first|(with_reducible first|exact HK.out|apply KeepBut.set_|apply keep_drewN|apply keep_drew|apply keep_alloc|refine keep_far ?_ GW22.out _)|exact HK.out)),(by repeat (first|(with_reducible first|exact HB.out|apply below_alloc|apply pw_below_drewN|apply below_drew1|refine below_set ?_ (IsS47.ge HI0.out)|refine below_set ?_ GE22.out)|exact HB.out))⟩)
  rintro v26 w13 ⟨hS_,h0_,h1_,h2_,h3_,h4_⟩;have n0_:Aside0 (Kd.R k64 64 w13 w.heap.size (fun _=>True) v26 y23):=⟨h0_⟩;have n1_:Aside0 (w13.heap[gb22]? = some (.cells #[.int .i64 0,.string (⟨#[]⟩:ByteArray),.string (⟨#[]⟩:ByteArray),.int .i64 0,.slice none 0 0,.slice none 0 0] 36 (0,0))):=⟨h1_⟩;have n2_:Aside0 (IsS47 w0 w13 g s0_0 s0_1 s0_2 s0_3 s0_4 s0_5 s0_6 s0_7):=⟨h2_⟩;have n3_:Aside0 (KeepBut w w13 g none):=⟨h3_⟩;have n4_:Aside0 (Below w0.heap.size w0 w13):=⟨h4_⟩;clear BK22;clear HI0;clear HK;clear HB;clear h0_ h1_ h2_ h3_ h4_;have HO24:=n0_;have BK22:=n1_;have HI0:=n2_;have HK:=n3_;have HB:=n4_;clear n0_ n1_ n2_ n3_ n4_;have hHeld:w13.cell? ⟨g,0,none⟩=some (.string s0_0)∧w13.cell? ⟨g,1,none⟩=some (.int .i64 s0_1):=hS_;obtain ⟨Ao14,co14,eo14⟩:=Kd.R_slice HO24.out
  (first|subst eo14|(injection eo14 with f1_ f2_ f3_;have f4_:=f1_.symm;have f5_:=f3_.symm;clear f1_ f2_ f3_;subst f4_;subst f5_))
  refine norm_ (a':=?_) ?_ ?_
  rotate_left
  ·simp only [putAll,Act.put,List.setIfInBounds_toArray,List.set_cons_zero,List.set_cons_succ]
   rfl
  refine pA 12 21 HT_ ?_;refine one_ (i:=13) (N:=none) #[true,true,true,true,true,true,true,true,true,true,true,true,true,true] rfl rfl (one_of HT_.out (by kernel_rfl)) (by decide) (fun K hK=>?_);have hs15:w13.cell? ⟨gb22,0,none⟩=some (.int .i64 0):=(blk_cell BK22.out 0).trans rfl;have hfs15:=blk_frozen BK22.out 0;have hs16:w13.cell? ⟨gb22,1,none⟩=some (.string (⟨#[]⟩:ByteArray)):=(blk_cell BK22.out 1).trans rfl;have hfs16:=blk_frozen BK22.out 1;have hs17:w13.cell? ⟨gb22,2,none⟩=some (.string (⟨#[]⟩:ByteArray)):=(blk_cell BK22.out 2).trans rfl;have hfs17:=blk_frozen BK22.out 2;have hs18:w13.cell? ⟨gb22,3,none⟩=some (.int .i64 0):=(blk_cell BK22.out 3).trans rfl;have hfs18:=blk_frozen BK22.out 3;have hs19:w13.cell? ⟨gb22,4,none⟩=some (.slice none 0 0):=(blk_cell BK22.out 4).trans rfl;have hfs19:=blk_frozen BK22.out 4;have hs20:w13.cell? ⟨gb22,5,none⟩=some (.slice none 0 0):=(blk_cell BK22.out 5).trans rfl;have hfs20:=blk_frozen BK22.out 5;refine skip_ (w1:=?_) (by rfl) rfl ?_ ?_
  rotate_left
  ·go_simp
   rfl
  refine hK.out _ _ ⟨((cell_far (p:=⟨gb22,_,none⟩) NB0_22.out _).trans (((cell_far (p:=⟨gb22,_,none⟩) NB0_22.out _).trans (((cell_far (p:=⟨gb22,_,none⟩) NB0_22.out _).trans (((cell_far (p:=⟨gb22,_,none⟩) NB0_22.out _).trans (((cell_far (p:=⟨gb22,_,none⟩) NB0_22.out _).trans (((cell_far (p:=⟨gb22,_,none⟩) NB0_22.out _).trans (hHeld.1)))))))))))),((cell_far (p:=⟨gb22,_,none⟩) NB0_22.out _).trans (((cell_far (p:=⟨gb22,_,none⟩) NB0_22.out _).trans (((cell_far (p:=⟨gb22,_,none⟩) NB0_22.out _).trans (((cell_far (p:=⟨gb22,_,none⟩) NB0_22.out _).trans (((cell_far (p:=⟨gb22,_,none⟩) NB0_22.out _).trans (((cell_far (p:=⟨gb22,_,none⟩) NB0_22.out _).trans (hHeld.2))))))))))))⟩ (fun hHeld=>?_);clear hK K;refine done_ (done_of HT_.out (by kernel_rfl)) ?_
  try go_wp2
  refine bodyPost_ret (results_cell_row rfl _ _ gb22 36 #[.int .i64 7,.string ((⟨#[65]⟩:ByteArray)++t25),.string (⟨#[]⟩:ByteArray),.int .i64 s0_1,.slice none 0 0,.slice Ao14 y23.length co14] (0,0) _ rfl (kp BK22) Tryz.underlying36 rfl (by kernel_rfl)) rfl ?_
  exact ⟨_,_,ff,by first|exact Kd.R_nil _ _ _ _ _|exact Kd.N_nil _ _ _ _ _|exact Kd.V_nil _ _ _ _ _|exact Kd.Q_nil _ _ _ _ _|exact Kd.S_nil _ _ _ _ _,Kd.R_mono (rf (Kd.R_types HO24.out BK22.out (by decide))) (fun _ hk=>trivial),by repeat (first|(with_reducible first|exact HI0.out|apply IsS47.alloc|apply IsS47.drewN|apply IsS47.drew|apply IsS47.set_0|apply IsS47.set_1|refine IsS47.far ?_ NB0_22.out _)|exact HI0.out),by repeat (first|(with_reducible first|exact HB.out|apply below_alloc|apply pw_below_drewN|apply below_drew1|refine below_set ?_ (IsS47.ge HI0.out)|refine below_set ?_ GE22.out)|exact HB.out),by repeat (first|(with_reducible first|exact HK.out|apply KeepBut.set_|apply keep_drewN|apply keep_drew|apply keep_alloc|refine keep_far ?_ GW22.out _)|exact HK.out)⟩
 ·intro c6 H
  exact absurd H (by simp)
theorem impl_GateAnswer.calls (k:Nat) (a0_0:ByteArray) (a0_1:Int) (A0_2:Option Addr) (c0_2:Nat) (l0_2:List (S108)) (A0_3:Option Addr) (c0_3:Nat) (l0_3:List (S111)) (A0_4:Option Addr) (c0_4:Nat) (l0_4:List (S141)) (A0_5:Option Addr) (c0_5:Nat) (l0_5:List (S147)) (A0_6:Option Addr) (c0_6:Nat) (l0_6:List (S115)) (A0_7:Option Addr) (c0_7:Nat) (l0_7:List (S117)) (a1:ByteArray) (a2:Int) (a3:Int) (a4:Int) (r1:Int) (r2:ByteArray) (r3:ByteArray) (r4:Int) (r5:List ByteArray) (r6:List (S64)) (w:World) (hr0_2:Kd.C k108 w A0_2 l0_2.length l0_2) (hc0_2:l0_2.length≤c0_2) (hr0_3:Kd.C k111 w A0_3 l0_3.length l0_3) (hc0_3:l0_3.length≤c0_3) (hr0_4:Kd.C k141 w A0_4 l0_4.length l0_4) (hc0_4:l0_4.length≤c0_4) (hr0_5:Kd.C k147 w A0_5 l0_5.length l0_5) (hc0_5:l0_5.length≤c0_5) (hr0_6:Kd.C k115 w A0_6 l0_6.length l0_6) (hc0_6:l0_6.length≤c0_6) (hr0_7:Kd.C k117 w A0_7 l0_7.length l0_7) (hc0_7:l0_7.length≤c0_7) (hTF:TbF w) (H:impl_GateAnswer.f k a0_0 a0_1 l0_2 l0_3 l0_4 l0_5 l0_6 l0_7 a1 a2 a3 a4=some (r1,r2,r3,r4,r5,r6)) :
  Calls Tryz.prog 7 #[.agg #[.string a0_0,.int .i64 a0_1,.slice A0_2 l0_2.length c0_2,.slice A0_3 l0_3.length c0_3,.slice A0_4 l0_4.length c0_4,.slice A0_5 l0_5.length c0_5,.slice A0_6 l0_6.length c0_6,.slice A0_7 l0_7.length c0_7],.string a1,.int .i64 a2,.int .i64 a3,.int .i64 a4] w fun e w'=>∃ v4_ v5_:Value,e=.returned (.agg #[.int .i64 r1,.string r2,.string r3,.int .i64 r4,v4_,v5_])∧Kd.R Kd.string 9 w' w.heap.size (fun _=>True) v4_ r5∧Kd.R k64 64 w' w.heap.size (fun _=>True) v5_ r6∧Below w.heap.size w w':=by
 have HTF:=am hTF;clear hTF
 have hu47:=Tryz.underlying47;have hu36:=Tryz.underlying36;have HR0_2:=am hr0_2;have HC0_2:=am hc0_2;clear hr0_2 hc0_2;have HR0_3:=am hr0_3;have HC0_3:=am hc0_3;clear hr0_3 hc0_3;have HR0_4:=am hr0_4;have HC0_4:=am hc0_4;clear hr0_4 hc0_4;have HR0_5:=am hr0_5;have HC0_5:=am hc0_5;clear hr0_5 hc0_5;have HR0_6:=am hr0_6;have HC0_6:=am hc0_6;clear hr0_6 hc0_6;have HR0_7:=am hr0_7;have HC0_7:=am hc0_7;clear hr0_7 hc0_7;have HB:=am (Below.refl w.heap.size w);unfold impl_GateAnswer.f at H;obtain ⟨y22,hy22⟩:∃ y_:List ByteArray,y_=(([a1]:List ByteArray)):=⟨_,rfl⟩
 replace H:((impl_longText.f k y22).bind fun t26=>(if t26=true then (some (0,(⟨#[]⟩:ByteArray),(⟨#[]⟩:ByteArray),0,([]:List ByteArray),([]:List (S64)))) else ((impl_GateRight.f k a0_0 a0_1 l0_2 l0_3 l0_4 l0_5 l0_6 l0_7).bind fun t44=>(if t44=true then ((impl_isName.f k a1).bind fun t45=>(if t45=true then ((impl_isControl.f a2).bind fun t46=>(if t46=true then ((impl_isCode.f a3).bind fun t48=>(if t48=true then ((impl_within.f a4 0 1000000000).bind fun t49=>(if t49=true then ((impl_Gate_answer.f a0_0 a0_1 l0_2 l0_3 l0_4 l0_5 l0_6 l0_7 a2 a3 a4).bind fun bt463=>(some (bt463.1,bt463.2.1,bt463.2.2.1,bt463.2.2.2.1,bt463.2.2.2.2.1,bt463.2.2.2.2.2.1))) else (some (0,(⟨#[]⟩:ByteArray),(⟨#[]⟩:ByteArray),0,([]:List ByteArray),([]:List (S64)))))) else (some (0,(⟨#[]⟩:ByteArray),(⟨#[]⟩:ByteArray),0,([]:List ByteArray),([]:List (S64)))))) else (some (0,(⟨#[]⟩:ByteArray),(⟨#[]⟩:ByteArray),0,([]:List ByteArray),([]:List (S64)))))) else (some (0,(⟨#[]⟩:ByteArray),(⟨#[]⟩:ByteArray),0,([]:List ByteArray),([]:List (S64)))))) else (some (0,(⟨#[]⟩:ByteArray),(⟨#[]⟩:ByteArray),0,([]:List ByteArray),([]:List (S64))))))))=some (r1,r2,r3,r4,r5,r6):=ye hy22 H
 have Ny22:=am hy22;clear hy22;replace H:=bo H;obtain ⟨t26,A6,H⟩:=H
 go_in
 try go_wp2_with (first|((with_reducible refine gate_dst (N:=5) rfl ?_);refine bx 5 (cs:=#[.string a0_0,.int .i64 a0_1,.slice A0_2 l0_2.length c0_2,.slice A0_3 l0_3.length c0_3,.slice A0_4 l0_4.length c0_4,.slice A0_5 l0_5.length c0_5,.slice A0_6 l0_6.length c0_6,.slice A0_7 l0_7.length c0_7]) (t:=47) ?_;intro gb20 hg w7 hbox hb;have GW20:=gw hg HB;have HI20:=am ((show IsS47 w w7 gb20 a0_0 a0_1 l0_2 l0_3 l0_4 l0_5 l0_6 l0_7 from ⟨_,_,_,_,_,_,_,_,_,_,_,_,hbox,(gs hg (bs HB)),⟨HR0_2.out,HC0_2.out⟩,⟨HR0_3.out,HC0_3.out⟩,⟨HR0_4.out,HC0_4.out⟩,⟨HR0_5.out,HC0_5.out⟩,⟨HR0_6.out,HC0_6.out⟩,⟨HR0_7.out,HC0_7.out⟩⟩));replace HB:=bq HB hb;clear hb hbox hg)|((with_reducible refine gate_dst (N:=10) rfl ?_);refine bx 10 (cs:=#[.int .i64 0,.string (⟨#[]⟩:ByteArray),.string (⟨#[]⟩:ByteArray),.int .i64 0,.slice none 0 0,.slice none 0 0]) (t:=36) ?_;intro gb18 hg w8 hbox hb;have n0_:=am (IsS47.below (by repeat (first|(with_reducible first|exact HI20.out|apply IsS47.alloc|apply IsS47.drewN|apply IsS47.drew|apply IsS47.set_0|apply IsS47.set_1)|exact HI20.out)) hb);have n1_:=am (below_step (by repeat (first|(with_reducible first|exact HB.out|apply below_alloc|apply pw_below_drewN|apply below_drew1|refine below_set ?_ (IsS47.ge HI20.out))|exact HB.out)) hb);have n2_:=am (hbox);have n3_:=am ((by rw [hg];exact (below_size (by repeat (first|(with_reducible first|exact HB.out|apply below_alloc|apply pw_below_drewN|apply below_drew1|refine below_set ?_ (IsS47.ge HI20.out))|exact HB.out))):w.heap.size≤gb18));have n4_:=am ((by rw [hg];exact (below_size (by repeat (first|(with_reducible first|exact HB.out|apply below_alloc|apply pw_below_drewN|apply below_drew1|refine below_set ?_ (IsS47.ge HI20.out))|exact HB.out))):w.heap.size≤gb18));have n5_:=am ((by rw [hg];exact Nat.ne_of_lt (IsS47.lt (show IsS47 w _ gb20 a0_0 a0_1 l0_2 l0_3 l0_4 l0_5 l0_6 l0_7 from by repeat (first|(with_reducible first|exact HI20.out|apply IsS47.alloc|apply IsS47.drewN|apply IsS47.drew|apply IsS47.set_0|apply IsS47.set_1)|exact HI20.out))):gb20≠gb18));have n6_:=am ((by rw [hg];exact Nat.ne_of_gt (IsS47.lt (show IsS47 w _ gb20 a0_0 a0_1 l0_2 l0_3 l0_4 l0_5 l0_6 l0_7 from by repeat (first|(with_reducible first|exact HI20.out|apply IsS47.alloc|apply IsS47.drewN|apply IsS47.drew|apply IsS47.set_0|apply IsS47.set_1)|exact HI20.out))):gb18≠gb20));clear HI20;clear HB;have HI20:=n0_;have HB:=n1_;have BK18:=n2_;have GW18:=n3_;have GE18:=n4_;have NB20_18:=n5_;have NB18_20:=n6_;clear n0_ n1_ n2_ n3_ n4_ n5_ n6_;clear hb hbox hg)|((with_reducible refine gate_dst (N:=12) rfl ?_);refine rl Kd.string 9 (N:=12) (xs:=([a1]:List ByteArray)) (inner:=[.string a1]) ?hp ?_;(case hp=>exact (Reps.one (show Kd.M Kd.string _ _ _ a1 [.string a1] from rfl) (Reps.none _ _)));intro v62 w9 ho10 hb hg_ hnew_;clear hg_ hnew_;(first|rw [← Ny22.out] at ho10|(simp only [Int.reduceToNat] at ho10;rw [← Ny22.out] at ho10));have HO24:=am (Kd.R_lower ho10 (below_size (by repeat (first|(with_reducible first|exact HB.out|apply below_alloc|apply pw_below_drewN|apply below_drew1|refine below_set ?_ (IsS47.ge HI20.out)|refine below_set ?_ GE18.out)|exact HB.out))));replace BK18:=bb BK18 hb;replace HB:=am (below_step (by repeat (first|(with_reducible first|exact HB.out|apply below_alloc|apply pw_below_drewN|apply below_drew1|refine below_set ?_ (IsS47.ge HI20.out)|refine below_set ?_ GE18.out)|exact HB.out)) hb);replace HI20:=am (IsS47.below (by repeat (first|(with_reducible first|exact HI20.out|apply IsS47.alloc|apply IsS47.drewN|apply IsS47.drew|apply IsS47.set_0|apply IsS47.set_1|refine IsS47.far ?_ NB20_18.out _)|exact HI20.out)) hb);clear hb ho10;obtain ⟨Ao11,co11,eo11⟩:=Kd.R_slice HO24.out;subst eo11))
 go_at_call 27;(with_reducible refine (impl_longText.calls k _ _ y22 t26 _ ?side1 ?side2 A6.out).mono ?_);(case side1=>exact sd (Kd.R_reads' HO24.out).2.2);(case side2=>exact (Kd.R_reads' HO24.out).2.1);rintro e w' ⟨rfl,⟨nd,rfl⟩⟩
 obtain rfl|rfl:=bt t26
 ·replace H:=itT H;replace H:=sj6 H;obtain ⟨rfl,rfl,rfl,rfl,rfl,rfl⟩:=H;have hnb13:=NB18_20.out;have hnc13:=NB20_18.out;have hcz14:=cf6 BK18
  go_wp2
  refine bodyPost_ret (results_cell_row rfl _ _ gb18 36 #[.int .i64 0,.string (⟨#[]⟩:ByteArray),.string (⟨#[]⟩:ByteArray),.int .i64 0,.slice none 0 0,.slice none 0 0] (0,0) _ rfl (kp BK18) Tryz.underlying36 rfl (by kernel_rfl)) rfl ?_
  exact ⟨_,_,ff,by first|exact Kd.R_nil _ _ _ _ _|exact Kd.N_nil _ _ _ _ _|exact Kd.V_nil _ _ _ _ _|exact Kd.Q_nil _ _ _ _ _|exact Kd.S_nil _ _ _ _ _,by first|exact Kd.R_nil _ _ _ _ _|exact Kd.N_nil _ _ _ _ _|exact Kd.V_nil _ _ _ _ _|exact Kd.Q_nil _ _ _ _ _|exact Kd.S_nil _ _ _ _ _,by repeat (first|(with_reducible first|exact HB.out|apply below_alloc|apply pw_below_drewN|apply below_drew1|refine below_set ?_ (IsS47.ge HI20.out)|refine below_set ?_ GE18.out)|exact HB.out)⟩
 ·replace H:=itF H;replace H:=bo H;obtain ⟨t44,A15,H⟩:=H;obtain ⟨ASz16_2,cSz16_2,ASz16_3,cSz16_3,ASz16_4,cSz16_4,ASz16_5,cSz16_5,ASz16_6,cSz16_6,ASz16_7,cSz16_7,HGz16,hgz16,HSz16_2,HSz16_3,HSz16_4,HSz16_5,HSz16_6,HSz16_7⟩:=HI20.out;have hcz16_0:=cellS47_0 HGz16;have hcz16_1:=cellS47_1 HGz16;have hcz16_2:=cellS47_2 HGz16;have hcz16_3:=cellS47_3 HGz16;have hcz16_4:=cellS47_4 HGz16;have hcz16_5:=cellS47_5 HGz16;have hcz16_6:=cellS47_6 HGz16;have hcz16_7:=cellS47_7 HGz16;have hfz16_0:=blk_frozen HGz16 0;have hfz16_1:=blk_frozen HGz16 1;clear HGz16 hgz16;have HCz16_2:=HSz16_2.2;have HCz16_3:=HSz16_3.2;have HCz16_4:=HSz16_4.2;have HCz16_5:=HSz16_5.2;have HCz16_6:=HSz16_6.2;have HCz16_7:=HSz16_7.2;replace HSz16_2:=HSz16_2.1;replace HSz16_3:=HSz16_3.1;replace HSz16_4:=HSz16_4.1;replace HSz16_5:=HSz16_5.1;replace HSz16_6:=HSz16_6.1;replace HSz16_7:=HSz16_7.1
  try go_wp2_with (fail)
  go_at_call 28;(with_reducible refine (impl_GateRight.calls k a0_0 a0_1 _ _ l0_2 _ _ l0_3 _ _ l0_4 _ _ l0_5 _ _ l0_6 _ _ l0_7 t44 _ ?side1 ?side2 ?side3 ?side4 ?side5 ?side6 ?side7 ?side8 ?side9 ?side10 ?side11 ?side12 A15.out).mono ?_);(case side1=>first|exact (Kd.C_below HSz16_2 (by repeat (first|(with_reducible first|exact HB.out|apply below_alloc|apply pw_below_drewN|apply below_drew1|refine below_set ?_ (IsS47.ge HI20.out)|refine below_set ?_ GE18.out)|exact HB.out))));(case side2=>first|exact HCz16_2);(case side3=>first|exact (Kd.C_below HSz16_3 (by repeat (first|(with_reducible first|exact HB.out|apply below_alloc|apply pw_below_drewN|apply below_drew1|refine below_set ?_ (IsS47.ge HI20.out)|refine below_set ?_ GE18.out)|exact HB.out))));(case side4=>first|exact HCz16_3);(case side5=>first|exact (Kd.C_below HSz16_4 (by repeat (first|(with_reducible first|exact HB.out|apply below_alloc|apply pw_below_drewN|apply below_drew1|refine below_set ?_ (IsS47.ge HI20.out)|refine below_set ?_ GE18.out)|exact HB.out))));(case side6=>first|exact HCz16_4);(case side7=>first|exact (Kd.C_below HSz16_5 (by repeat (first|(with_reducible first|exact HB.out|apply below_alloc|apply pw_below_drewN|apply below_drew1|refine below_set ?_ (IsS47.ge HI20.out)|refine below_set ?_ GE18.out)|exact HB.out))));(case side8=>first|exact HCz16_5);(case side9=>first|exact (Kd.C_below HSz16_6 (by repeat (first|(with_reducible first|exact HB.out|apply below_alloc|apply pw_below_drewN|apply below_drew1|refine below_set ?_ (IsS47.ge HI20.out)|refine below_set ?_ GE18.out)|exact HB.out))));(case side10=>first|exact HCz16_6);(case side11=>first|exact (Kd.C_below HSz16_7 (by repeat (first|(with_reducible first|exact HB.out|apply below_alloc|apply pw_below_drewN|apply below_drew1|refine below_set ?_ (IsS47.ge HI20.out)|refine below_set ?_ GE18.out)|exact HB.out))));(case side12=>first|exact HCz16_7);rintro e w17 ⟨rfl,hb⟩;replace HO24:=am (Kd.R_below (rs HO24) hb);replace BK18:=bb BK18 hb;replace HB:=am (below_step (by repeat (first|(with_reducible first|exact HB.out|apply below_alloc|apply pw_below_drewN|apply below_drew1|refine below_set ?_ (IsS47.ge HI20.out)|refine below_set ?_ GE18.out)|exact HB.out)) hb);replace HI20:=am (IsS47.below (by repeat (first|(with_reducible first|exact HI20.out|apply IsS47.alloc|apply IsS47.drewN|apply IsS47.drew|apply IsS47.set_0|apply IsS47.set_1|refine IsS47.far ?_ NB20_18.out _)|exact HI20.out)) hb);(try clear hb);(try clear hb2);(try clear hk);(try clear hi)
  obtain rfl|rfl:=bt t44
  ·replace H:=itT H;replace H:=bo H;obtain ⟨t45,A19,H⟩:=H
   try go_wp2_with (fail)
   go_at_call 29;(with_reducible refine (impl_isName.calls k a1 t45 _ A19.out).mono ?_);rintro e w' ⟨rfl,⟨nd,rfl⟩⟩
   obtain rfl|rfl:=bt t45
   ·replace H:=itT H;replace H:=bo H;obtain ⟨t46,A21,H⟩:=H
    try go_wp2_with (fail)
    go_at_call 30;(with_reducible refine (impl_isControl.calls a2 t46 _ A21.out).mono ?_);rintro e w' ⟨rfl,⟨nd,rfl⟩⟩
    obtain rfl|rfl:=bt t46
    ·replace H:=itT H;replace H:=bo H;obtain ⟨t48,A23,H⟩:=H
     try go_wp2_with (fail)
     go_at_call 31;(with_reducible refine (impl_isCode.calls a3 t48 _ A23.out).mono ?_);rintro e w' ⟨rfl,⟨nd,rfl⟩⟩
     obtain rfl|rfl:=bt t48
     ·replace H:=itT H;replace H:=bo H;obtain ⟨t49,A25,H⟩:=H
      try go_wp2_with (fail)
      go_at_call 32;(with_reducible refine (impl_within.calls a4 0 1000000000 t49 _ A25.out).mono ?_);rintro e w' ⟨rfl,⟨nd,rfl⟩⟩
      obtain rfl|rfl:=bt t49
      ·replace H:=itT H;replace H:=bo H;obtain ⟨⟨t50,t51,t52,t53,t54,t55,t56,t57⟩,A27,H⟩:=H;(try dsimp only at H);replace H:=sj6 H;obtain ⟨rfl,rfl,rfl,rfl,rfl,rfl⟩:=H
       go_wp2_with (first|((first|((with_reducible refine gate_callee (f:=33) rfl ?_);refine goesL_ (some 43) rfl rfl Tryz.func33 (by kernel_rfl) rfl #[.pointer (some ⟨gb20,0,none⟩),.int .i64 a2,.int .i64 a3,.int .i64 a4] rfl (by (try simp only [List.map_toArray,List.map_cons,List.map_nil]);first|done|rfl|(simp only [List.length_drop,List.length_take];rfl)) ?_;(with_reducible refine (impl_Gate_answer.calls gb20 a0_0 a0_1 l0_2 l0_3 l0_4 l0_5 l0_6 l0_7 a2 a3 a4 t50 t51 t52 t53 t54 t55 t56 t57 w _ ?side1 ?side2 HTF.out A27.out).mono ?_);(case side1=>repeat (first|(with_reducible first|exact HI20.out|apply IsS47.alloc|apply IsS47.drewN|apply IsS47.drew|apply IsS47.set_0|apply IsS47.set_1|refine IsS47.far ?_ NB20_18.out _)|exact HI20.out));(case side2=>repeat (first|(with_reducible first|exact HB.out|apply below_alloc|apply pw_below_drewN|apply below_drew1|refine below_set ?_ (IsS47.ge HI20.out)|refine below_set ?_ GE18.out)|exact HB.out));rintro e w28 ⟨v60,v61,rfl,ho0,ho1,hi,hb,hk⟩;refine ⟨_,rfl,?_⟩)|(go_at_call 33;(with_reducible refine (impl_Gate_answer.calls gb20 a0_0 a0_1 l0_2 l0_3 l0_4 l0_5 l0_6 l0_7 a2 a3 a4 t50 t51 t52 t53 t54 t55 t56 t57 w _ ?side1 ?side2 HTF.out A27.out).mono ?_);(case side1=>repeat (first|(with_reducible first|exact HI20.out|apply IsS47.alloc|apply IsS47.drewN|apply IsS47.drew|apply IsS47.set_0|apply IsS47.set_1|refine IsS47.far ?_ NB20_18.out _)|exact HI20.out));(case side2=>repeat (first|(with_reducible first|exact HB.out|apply below_alloc|apply pw_below_drewN|apply below_drew1|refine below_set ?_ (IsS47.ge HI20.out)|refine below_set ?_ GE18.out)|exact HB.out));rintro e w28 ⟨v60,v61,rfl,ho0,ho1,hi,hb,hk⟩));replace BK18:=am (KeepBut.blk hk (g':=gb18) (o:=.cells #[.int .i64 0,.string (⟨#[]⟩:ByteArray),.string (⟨#[]⟩:ByteArray),.int .i64 0,.slice none 0 0,.slice none 0 0] 36 (0,0)) (ks BK18) NB18_20.out (by simp));have HO58:=am (Kd.R_lower (Kd.R_new' ho0 (Kd.R_lt (rs HO24))) (below_size (by repeat (first|(with_reducible first|exact HB.out|apply below_alloc|apply pw_below_drewN|apply below_drew1|refine below_set ?_ (IsS47.ge HI20.out)|refine below_set ?_ GE18.out)|exact HB.out))));replace HO24:=am (Kd.R_mono (Kd.R_told (Kd.R_oldK (IsS47.apart (show IsS47 w _ gb20 a0_0 a0_1 l0_2 l0_3 l0_4 l0_5 l0_6 l0_7 from by repeat (first|(with_reducible first|exact HI20.out|apply IsS47.alloc|apply IsS47.drewN|apply IsS47.drew|apply IsS47.set_0|apply IsS47.set_1|refine IsS47.far ?_ NB20_18.out _)|exact HI20.out)) (rs HO24) (by decide)) hk) (Kd.R_base ho0)) (fun _ h_=>h_.1));have HO59:=am (Kd.R_lower ho1 (below_size (by repeat (first|(with_reducible first|exact HB.out|apply below_alloc|apply pw_below_drewN|apply below_drew1|refine below_set ?_ (IsS47.ge HI20.out)|refine below_set ?_ GE18.out)|exact HB.out))));replace HB:=am (hb);replace HI20:=am (hi);(try clear hb);(try clear hb2);(try clear hk);(try clear hi);(try clear ho0);(try clear ho1);have hnb29:=NB18_20.out;have hnc29:=NB20_18.out;have hcz30:=cf6 BK18;obtain ⟨Ao31,co31,eo31⟩:=Kd.R_slice HO58.out;subst eo31;obtain ⟨Ao32,co32,eo32⟩:=Kd.R_slice HO59.out;subst eo32))
       refine bodyPost_ret (results_cell_row rfl _ _ gb18 36 #[.int .i64 t50,.string t51,.string t52,.int .i64 t53,.slice Ao31 t54.length co31,.slice Ao32 t55.length co32] (0,0) _ rfl (kp BK18) Tryz.underlying36 rfl (by kernel_rfl)) rfl ?_
       exact ⟨_,_,ff,Kd.R_mono (rf (Kd.R_types HO58.out BK18.out (by decide))) (fun _ hk=>trivial),Kd.R_mono (rf (Kd.R_types HO59.out BK18.out (by decide))) (fun _ hk=>trivial),by repeat (first|(with_reducible first|exact HB.out|apply below_alloc|apply pw_below_drewN|apply below_drew1|refine below_set ?_ (IsS47.ge HI20.out)|refine below_set ?_ GE18.out)|exact HB.out)⟩
      ·replace H:=itF H;replace H:=sj6 H;obtain ⟨rfl,rfl,rfl,rfl,rfl,rfl⟩:=H;have hnb33:=NB18_20.out;have hnc33:=NB20_18.out;have hcz34:=cf6 BK18
       go_wp2
       refine bodyPost_ret (results_cell_row rfl _ _ gb18 36 #[.int .i64 0,.string (⟨#[]⟩:ByteArray),.string (⟨#[]⟩:ByteArray),.int .i64 0,.slice none 0 0,.slice none 0 0] (0,0) _ rfl (kp BK18) Tryz.underlying36 rfl (by kernel_rfl)) rfl ?_
       exact ⟨_,_,ff,by first|exact Kd.R_nil _ _ _ _ _|exact Kd.N_nil _ _ _ _ _|exact Kd.V_nil _ _ _ _ _|exact Kd.Q_nil _ _ _ _ _|exact Kd.S_nil _ _ _ _ _,by first|exact Kd.R_nil _ _ _ _ _|exact Kd.N_nil _ _ _ _ _|exact Kd.V_nil _ _ _ _ _|exact Kd.Q_nil _ _ _ _ _|exact Kd.S_nil _ _ _ _ _,by repeat (first|(with_reducible first|exact HB.out|apply below_alloc|apply pw_below_drewN|apply below_drew1|refine below_set ?_ (IsS47.ge HI20.out)|refine below_set ?_ GE18.out)|exact HB.out)⟩
     ·replace H:=itF H;replace H:=sj6 H;obtain ⟨rfl,rfl,rfl,rfl,rfl,rfl⟩:=H;have hnb35:=NB18_20.out;have hnc35:=NB20_18.out;have hcz36:=cf6 BK18
      go_wp2
      refine bodyPost_ret (results_cell_row rfl _ _ gb18 36 #[.int .i64 0,.string (⟨#[]⟩:ByteArray),.string (⟨#[]⟩:ByteArray),.int .i64 0,.slice none 0 0,.slice none 0 0] (0,0) _ rfl (kp BK18) Tryz.underlying36 rfl (by kernel_rfl)) rfl ?_
      exact ⟨_,_,ff,by first|exact Kd.R_nil _ _ _ _ _|exact Kd.N_nil _ _ _ _ _|exact Kd.V_nil _ _ _ _ _|exact Kd.Q_nil _ _ _ _ _|exact Kd.S_nil _ _ _ _ _,by first|exact Kd.R_nil _ _ _ _ _|exact Kd.N_nil _ _ _ _ _|exact Kd.V_nil _ _ _ _ _|exact Kd.Q_nil _ _ _ _ _|exact Kd.S_nil _ _ _ _ _,by repeat (first|(with_reducible first|exact HB.out|apply below_alloc|apply pw_below_drewN|apply below_drew1|refine below_set ?_ (IsS47.ge HI20.out)|refine below_set ?_ GE18.out)|exact HB.out)⟩
    ·replace H:=itF H;replace H:=sj6 H;obtain ⟨rfl,rfl,rfl,rfl,rfl,rfl⟩:=H;have hnb37:=NB18_20.out;have hnc37:=NB20_18.out;have hcz38:=cf6 BK18
     go_wp2
     refine bodyPost_ret (results_cell_row rfl _ _ gb18 36 #[.int .i64 0,.string (⟨#[]⟩:ByteArray),.string (⟨#[]⟩:ByteArray),.int .i64 0,.slice none 0 0,.slice none 0 0] (0,0) _ rfl (kp BK18) Tryz.underlying36 rfl (by kernel_rfl)) rfl ?_
     exact ⟨_,_,ff,by first|exact Kd.R_nil _ _ _ _ _|exact Kd.N_nil _ _ _ _ _|exact Kd.V_nil _ _ _ _ _|exact Kd.Q_nil _ _ _ _ _|exact Kd.S_nil _ _ _ _ _,by first|exact Kd.R_nil _ _ _ _ _|exact Kd.N_nil _ _ _ _ _|exact Kd.V_nil _ _ _ _ _|exact Kd.Q_nil _ _ _ _ _|exact Kd.S_nil _ _ _ _ _,by repeat (first|(with_reducible first|exact HB.out|apply below_alloc|apply pw_below_drewN|apply below_drew1|refine below_set ?_ (IsS47.ge HI20.out)|refine below_set ?_ GE18.out)|exact HB.out)⟩
   ·replace H:=itF H;replace H:=sj6 H;obtain ⟨rfl,rfl,rfl,rfl,rfl,rfl⟩:=H;have hnb39:=NB18_20.out;have hnc39:=NB20_18.out;have hcz40:=cf6 BK18
    go_wp2
    refine bodyPost_ret (results_cell_row rfl _ _ gb18 36 #[.int .i64 0,.string (⟨#[]⟩:ByteArray),.string (⟨#[]⟩:ByteArray),.int .i64 0,.slice none 0 0,.slice none 0 0] (0,0) _ rfl (kp BK18) Tryz.underlying36 rfl (by kernel_rfl)) rfl ?_
    exact ⟨_,_,ff,by first|exact Kd.R_nil _ _ _ _ _|exact Kd.N_nil _ _ _ _ _|exact Kd.V_nil _ _ _ _ _|exact Kd.Q_nil _ _ _ _ _|exact Kd.S_nil _ _ _ _ _,by first|exact Kd.R_nil _ _ _ _ _|exact Kd.N_nil _ _ _ _ _|exact Kd.V_nil _ _ _ _ _|exact Kd.Q_nil _ _ _ _ _|exact Kd.S_nil _ _ _ _ _,by repeat (first|(with_reducible first|exact HB.out|apply below_alloc|apply pw_below_drewN|apply below_drew1|refine below_set ?_ (IsS47.ge HI20.out)|refine below_set ?_ GE18.out)|exact HB.out)⟩
  ·replace H:=itF H;replace H:=sj6 H;obtain ⟨rfl,rfl,rfl,rfl,rfl,rfl⟩:=H;have hnb41:=NB18_20.out;have hnc41:=NB20_18.out;have hcz42:=cf6 BK18
   go_wp2
   refine bodyPost_ret (results_cell_row rfl _ _ gb18 36 #[.int .i64 0,.string (⟨#[]⟩:ByteArray),.string (⟨#[]⟩:ByteArray),.int .i64 0,.slice none 0 0,.slice none 0 0] (0,0) _ rfl (kp BK18) Tryz.underlying36 rfl (by kernel_rfl)) rfl ?_
   exact ⟨_,_,ff,by first|exact Kd.R_nil _ _ _ _ _|exact Kd.N_nil _ _ _ _ _|exact Kd.V_nil _ _ _ _ _|exact Kd.Q_nil _ _ _ _ _|exact Kd.S_nil _ _ _ _ _,by first|exact Kd.R_nil _ _ _ _ _|exact Kd.N_nil _ _ _ _ _|exact Kd.V_nil _ _ _ _ _|exact Kd.Q_nil _ _ _ _ _|exact Kd.S_nil _ _ _ _ _,by repeat (first|(with_reducible first|exact HB.out|apply below_alloc|apply pw_below_drewN|apply below_drew1|refine below_set ?_ (IsS47.ge HI20.out)|refine below_set ?_ GE18.out)|exact HB.out)⟩
theorem laws_eqStringS.calls (k:Nat) (A0:Option Addr) (c0:Nat) (l0:List ByteArray) (A1:Option Addr) (c1:Nat) (l1:List ByteArray) (r:Bool) (w:World) (hr0:Kd.C Kd.string w A0 l0.length l0) (hc0:l0.length≤c0) (hr1:Kd.C Kd.string w A1 l1.length l1) (hc1:l1.length≤c1) (H:laws_eqStringS.f k l0 l1=some r) :
  Calls Tryz.prog 34 #[.slice A0 l0.length c0,.slice A1 l1.length c1] w fun e w'=>e=.returned (.bool r)∧Drawn0 w w':=by
 have HR0:=am hr0;have HC0:=am hc0;clear hr0 hc0;have HR1:=am hr1;have HC1:=am hc1;clear hr1 hc1;unfold laws_eqStringS.f at H
 revert H;refine ie2k ?_ ?_
 ·intro c3 c3b0 c3b1 H
  have c3b2:(l0.length == l1.length)=true:=by first|simpa using c3|(simp at c3 ⊢;omega)
  clear c3;have H':=am H;clear H
  go_in
  go_wp2
  repeat (go_quiet (fail);try go_wp2)
  go_loopg [5] k (fun kq v5 w'=>∃ (x5_1:Int),v5=.int .i64 x5_1∧Aside0 (laws_eqStringS.l0 kq l0 l1 x5_1=some r)∧Aside0 (kq≤k)∧Drawn0 w w')
  case atStart=>exact ⟨(0),fg,H',⟨Nat.le_refl _⟩,by repeat (first|exact Drawn0.refl _|apply Drawn0.step)⟩
  case round =>
   clear H'
   try clear c1
   try clear c3
   try clear c3b0
   try clear c3b1
   try clear c3b2
   obtain ⟨x5_1,rfl,HA,HK1,⟨m1,rfl⟩⟩:=hrel
   cases gk with
   | zero=>exact absurd HA.out (by simp [laws_eqStringS.l0])
   | succ k1 =>
    have H:=HA.out;clear HA;simp only [laws_eqStringS.l0] at H
    revert H;refine id2 ?_ ?_
    ·intro c4b0 H
     revert H;refine id1 ?_
     intro c5b0 H
     revert H;refine id1 ?_
     intro c6b0 H
     revert H;refine ie2 ?_ ?_
     ·intro c7b0 c7b1 H;have H':=am H;clear H;have p8:0≤(x5_1:Int):=oa;have q8:x5_1<(l0.length:Int):=oa;obtain ⟨ad8,e8,hx8_0⟩:=Kd.at_string HR0.out x5_1 p8 q8
      cases e8
      replace p8:=eq_true p8;replace q8:=eq_true q8;have p9:0≤(x5_1:Int):=oa;have q9:x5_1<(l1.length:Int):=oa;obtain ⟨ad9,e9,hx9_0⟩:=Kd.at_string HR1.out x5_1 p9 q9
      cases e9
      replace p9:=eq_true p9;replace q9:=eq_true q9
      go_wp2
      repeat (go_quiet (fail);try go_wp2)
      go_roundg k1
      case measure=>have:=HK1.out;omega
      case rel=>exact ⟨(wrap64 (x5_1+1)),fg,H',⟨by have:=HK1.out;omega⟩,by repeat (first|exact Drawn0.refl _|apply Drawn0.step)⟩
     ·intro c7 c7b0 c7b1 H;obtain rfl:=si H;have p8:0≤(x5_1:Int):=oa;have q8:x5_1<(l0.length:Int):=oa;obtain ⟨ad8,e8,hx8_0⟩:=Kd.at_string HR0.out x5_1 p8 q8
      cases e8
      replace p8:=eq_true p8;replace q8:=eq_true q8;have p9:0≤(x5_1:Int):=oa;have q9:x5_1<(l1.length:Int):=oa;obtain ⟨ad9,e9,hx9_0⟩:=Kd.at_string HR1.out x5_1 p9 q9
      cases e9
      replace p9:=eq_true p9;replace q9:=eq_true q9
      go_wp2
      repeat (go_quiet (fail);try go_wp2)
      go_ret
      exact ⟨fg,dr⟩
    ·intro c4b0 H;obtain rfl:=si H
     go_wp2
     repeat (go_quiet (fail);try go_wp2)
     go_ret
     exact ⟨fg,dr⟩
 ·intro c3 c3b0 c3b1 H
  have c3b2:(l0.length == l1.length)=false:=by first|simpa using c3|(simp at c3 ⊢;omega)
  obtain rfl:=si H
  go_in
  go_wp2
  repeat (go_quiet (fail);try go_wp2)
  go_ret
  exact ⟨fg,dr⟩
theorem laws_eqLine.calls (a0_0:Int) (a0_1:ByteArray) (a0_2:Int) (a0_3:Int) (a0_4:ByteArray) (a1_0:Int) (a1_1:ByteArray) (a1_2:Int) (a1_3:Int) (a1_4:ByteArray) (r:Bool) (w:World) (H:laws_eqLine.f a0_0 a0_1 a0_2 a0_3 a0_4 a1_0 a1_1 a1_2 a1_3 a1_4=some r) :
  Calls Tryz.prog 77 #[.agg #[.int .i64 a0_0,.string a0_1,.int .i64 a0_2,.int .i64 a0_3,.string a0_4],.agg #[.int .i64 a1_0,.string a1_1,.int .i64 a1_2,.int .i64 a1_3,.string a1_4]] w fun e w'=>e=.returned (.bool r)∧Below w.heap.size w w':=by
 have hu64:=Tryz.underlying64;have HB:=am (Below.refl w.heap.size w);unfold laws_eqLine.f at H
 revert H;refine ie2 ?_ ?_
 ·intro c3b0 c3b1 H
  revert H;refine ie2 ?_ ?_
  ·intro c4b0 c4b1 H
   revert H;refine ie2 ?_ ?_
   ·intro c5b0 c5b1 H
    revert H;refine ie2 ?_ ?_
    ·intro c6b0 c6b1 H
     revert H;refine ie2 ?_ ?_
     ·intro c7b0 c7b1 H;obtain rfl:=si H
      go_in
      go_wp2_with (first|((with_reducible refine gate_dst (N:=2) rfl ?_);refine bz 2 (cs:=#[.int .i64 a0_0,.string a0_1,.int .i64 a0_2,.int .i64 a0_3,.string a0_4]) (t:=64) HB ?_;clear HB;intro gb38 hg w8 BK38 GW38 hb HB;clear hb hg)|((with_reducible refine gate_dst (N:=3) rfl ?_);refine bz 3 (cs:=#[.int .i64 a1_0,.string a1_1,.int .i64 a1_2,.int .i64 a1_3,.string a1_4]) (t:=64) HB ?_;clear HB;intro gb39 hg w9 BK39 GW39 hb HB;have NB38_39:=na hg BK38;have NB39_38:=nc hg BK38;replace BK38:=bb BK38 hb;clear hb hg;have hnb10:=NB38_39.out;have hnc10:=NB39_38.out;have hcz11:=cf5 BK38;have hcz12:=cf5 BK39))
      go_ret
      exact ⟨ff,bs HB⟩
     ·intro c7 c7b0 c7b1 H;obtain rfl:=si H
      go_in
      go_wp2_with (first|((with_reducible refine gate_dst (N:=2) rfl ?_);refine bz 2 (cs:=#[.int .i64 a0_0,.string a0_1,.int .i64 a0_2,.int .i64 a0_3,.string a0_4]) (t:=64) HB ?_;clear HB;intro gb38 hg w13 BK38 GW38 hb HB;clear hb hg)|((with_reducible refine gate_dst (N:=3) rfl ?_);refine bz 3 (cs:=#[.int .i64 a1_0,.string a1_1,.int .i64 a1_2,.int .i64 a1_3,.string a1_4]) (t:=64) HB ?_;clear HB;intro gb39 hg w14 BK39 GW39 hb HB;have NB38_39:=na hg BK38;have NB39_38:=nc hg BK38;replace BK38:=bb BK38 hb;clear hb hg;have hnb15:=NB38_39.out;have hnc15:=NB39_38.out;have hcz16:=cf5 BK38;have hcz17:=cf5 BK39))
      go_ret
      exact ⟨ff,bs HB⟩
    ·intro c6 c6b0 c6b1 H;obtain rfl:=si H
     go_in
     go_wp2_with (first|((with_reducible refine gate_dst (N:=2) rfl ?_);refine bz 2 (cs:=#[.int .i64 a0_0,.string a0_1,.int .i64 a0_2,.int .i64 a0_3,.string a0_4]) (t:=64) HB ?_;clear HB;intro gb38 hg w18 BK38 GW38 hb HB;clear hb hg)|((with_reducible refine gate_dst (N:=3) rfl ?_);refine bz 3 (cs:=#[.int .i64 a1_0,.string a1_1,.int .i64 a1_2,.int .i64 a1_3,.string a1_4]) (t:=64) HB ?_;clear HB;intro gb39 hg w19 BK39 GW39 hb HB;have NB38_39:=na hg BK38;have NB39_38:=nc hg BK38;replace BK38:=bb BK38 hb;clear hb hg;have hnb20:=NB38_39.out;have hnc20:=NB39_38.out;have hcz21:=cf5 BK38;have hcz22:=cf5 BK39))
     go_ret
     exact ⟨ff,bs HB⟩
   ·intro c5 c5b0 c5b1 H;obtain rfl:=si H
    go_in
    go_wp2_with (first|((with_reducible refine gate_dst (N:=2) rfl ?_);refine bz 2 (cs:=#[.int .i64 a0_0,.string a0_1,.int .i64 a0_2,.int .i64 a0_3,.string a0_4]) (t:=64) HB ?_;clear HB;intro gb38 hg w23 BK38 GW38 hb HB;clear hb hg)|((with_reducible refine gate_dst (N:=3) rfl ?_);refine bz 3 (cs:=#[.int .i64 a1_0,.string a1_1,.int .i64 a1_2,.int .i64 a1_3,.string a1_4]) (t:=64) HB ?_;clear HB;intro gb39 hg w24 BK39 GW39 hb HB;have NB38_39:=na hg BK38;have NB39_38:=nc hg BK38;replace BK38:=bb BK38 hb;clear hb hg;have hnb25:=NB38_39.out;have hnc25:=NB39_38.out;have hcz26:=cf5 BK38;have hcz27:=cf5 BK39))
    go_ret
    exact ⟨ff,bs HB⟩
  ·intro c4 c4b0 c4b1 H;obtain rfl:=si H
   go_in
   go_wp2_with (first|((with_reducible refine gate_dst (N:=2) rfl ?_);refine bz 2 (cs:=#[.int .i64 a0_0,.string a0_1,.int .i64 a0_2,.int .i64 a0_3,.string a0_4]) (t:=64) HB ?_;clear HB;intro gb38 hg w28 BK38 GW38 hb HB;clear hb hg)|((with_reducible refine gate_dst (N:=3) rfl ?_);refine bz 3 (cs:=#[.int .i64 a1_0,.string a1_1,.int .i64 a1_2,.int .i64 a1_3,.string a1_4]) (t:=64) HB ?_;clear HB;intro gb39 hg w29 BK39 GW39 hb HB;have NB38_39:=na hg BK38;have NB39_38:=nc hg BK38;replace BK38:=bb BK38 hb;clear hb hg;have hnb30:=NB38_39.out;have hnc30:=NB39_38.out;have hcz31:=cf5 BK38;have hcz32:=cf5 BK39))
   go_ret
   exact ⟨ff,bs HB⟩
 ·intro c3 c3b0 c3b1 H;obtain rfl:=si H
  go_in
  go_wp2_with (first|((with_reducible refine gate_dst (N:=2) rfl ?_);refine bz 2 (cs:=#[.int .i64 a0_0,.string a0_1,.int .i64 a0_2,.int .i64 a0_3,.string a0_4]) (t:=64) HB ?_;clear HB;intro gb38 hg w33 BK38 GW38 hb HB;clear hb hg)|((with_reducible refine gate_dst (N:=3) rfl ?_);refine bz 3 (cs:=#[.int .i64 a1_0,.string a1_1,.int .i64 a1_2,.int .i64 a1_3,.string a1_4]) (t:=64) HB ?_;clear HB;intro gb39 hg w34 BK39 GW39 hb HB;have NB38_39:=na hg BK38;have NB39_38:=nc hg BK38;replace BK38:=bb BK38 hb;clear hb hg;have hnb35:=NB38_39.out;have hnc35:=NB39_38.out;have hcz36:=cf5 BK38;have hcz37:=cf5 BK39))
  go_ret
  exact ⟨ff,bs HB⟩
def laws_eqLineS.T6:Bool × List (List Nat × List Nat):=(true,[([],[]),([],[]),([0,1],[0,1]),([2],[2]),([],[]),([],[]),([4,5],[4,5]),([6],[6]),([3,7],[3,7]),([8],[8])])
def laws_eqLineS.B6:List Nat:=[0,0,3,7,0,0,48,112,255,511]
theorem laws_eqLineS.tab6:rtab .any (opsOf Tryz.f35 6)=laws_eqLineS.T6:=by kernel_rfl
theorem laws_eqLineS.bits6:waitsOk laws_eqLineS.T6.2 laws_eqLineS.B6=true:=by kernel_rfl
theorem laws_eqLineS.calls (k:Nat) (A0:Option Addr) (c0:Nat) (l0:List (S64)) (A1:Option Addr) (c1:Nat) (l1:List (S64)) (r:Bool) (w:World) (hr0:Kd.C k64 w A0 l0.length l0) (hc0:l0.length≤c0) (hr1:Kd.C k64 w A1 l1.length l1) (hc1:l1.length≤c1) (H:laws_eqLineS.f k l0 l1=some r) :
  Calls Tryz.prog 35 #[.slice A0 l0.length c0,.slice A1 l1.length c1] w fun e w'=>e=.returned (.bool r)∧Below w.heap.size w w':=by
 have hu64:=Tryz.underlying64;have HR0:=am hr0;have HC0:=am hc0;clear hr0 hc0;have HR1:=am hr1;have HC1:=am hc1;clear hr1 hc1;have HB:=am (Below.refl w.heap.size w);unfold laws_eqLineS.f at H
 revert H;refine ie2k ?_ ?_
 ·intro c3 c3b0 c3b1 H
  have c3b2:(l0.length == l1.length)=true:=by first|simpa using c3|(simp at c3 ⊢;omega)
  clear c3;have H':=am H;clear H
  go_in
  go_wp2
  go_loopg [5] k (fun kq v5 w'=>∃ (x5_1:Int),v5=.int .i64 x5_1∧Aside0 (laws_eqLineS.l0 kq l0 l1 x5_1=some r)∧Aside0 (kq≤k)∧Aside0 (Below w.heap.size w w'))
  case atStart=>exact ⟨(0),fg,H',⟨Nat.le_refl _⟩,⟨bs HB⟩⟩
  case round =>
   clear H'
   try clear c1
   try clear c3
   try clear c3b0
   try clear c3b1
   try clear c3b2
   obtain ⟨x5_1,rfl,HA,HK1,HB⟩:=hrel
   cases gk with
   | zero=>exact absurd HA.out (by simp [laws_eqLineS.l0])
   | succ k1 =>
    have H:=HA.out;clear HA;simp only [laws_eqLineS.l0] at H
    revert H;refine id2 ?_ ?_
    ·intro c4b0 H
     revert H;refine id1 ?_
     intro c5b0 H
     revert H;refine id1 ?_
     intro c6b0 H;replace H:=bo H;obtain ⟨t15,A7,H⟩:=H
     obtain rfl|rfl:=bt t15
     ·replace H:=itT H;have H':=am H;clear H
      try go_wp2
      replace HB:=am (below_drew1 HB.out);have p13:0≤(x5_1:Int):=oa;have q13:x5_1<(l0.length:Int):=oa;obtain ⟨ad13,e13,hx13_0,hx13_1,hx13_2,hx13_3,hx13_4⟩:=at_T64 HR0.out x5_1 p13 q13;have hw13_4:=hx13_4;have hw13_3:=hx13_3;have hw13_2:=hx13_2;have hw13_1:=hx13_1;have hw13_0:=hx13_0
      cases e13
      replace hx13_0:=cb HB hx13_0;replace hx13_1:=cb HB hx13_1;replace hx13_2:=cb HB hx13_2;replace hx13_3:=cb HB hx13_3;replace hx13_4:=cb HB hx13_4;replace p13:=eq_true p13;replace q13:=eq_true q13;have p14:0≤(x5_1:Int):=oa;have q14:x5_1<(l1.length:Int):=oa;obtain ⟨ad14,e14,hx14_0,hx14_1,hx14_2,hx14_3,hx14_4⟩:=at_T64 HR1.out x5_1 p14 q14;have hw14_4:=hx14_4;have hw14_3:=hx14_3;have hw14_2:=hx14_2;have hw14_1:=hx14_1;have hw14_0:=hx14_0
      cases e14
      replace hx14_0:=cb HB hx14_0;replace hx14_1:=cb HB hx14_1;replace hx14_2:=cb HB hx14_2;replace hx14_3:=cb HB hx14_3;replace hx14_4:=cb HB hx14_4;replace p14:=eq_true p14;replace q14:=eq_true q14;refine sta 10 (hca (cb HB hw13_0) (hca (cb HB hw13_1) (hca (cb HB hw13_2) (hca (cb HB hw13_3) (hca (cb HB hw13_4) (hca (cb HB hw14_0) (hca (cb HB hw14_1) (hca (cb HB hw14_2) (hca (cb HB hw14_3) (hc (cb HB hw14_4))))))))))) (fun hHeld=>?_);refine with_tabW laws_eqLineS.tab6 laws_eqLineS.bits6 (fun HT_ HW_=>?_)
      generalize wr.drew=w9 at HB hx13_0 hx13_1 hx13_2 hx13_3 hx13_4 hx14_0 hx14_1 hx14_2 hx14_3 hx14_4 hHeld ⊢
      refine pA 0 17 HT_ ?_;refine pA 1 18 HT_ ?_;refine pA 2 19 HT_ ?_;refine pA 4 21 HT_ ?_;refine pA 5 22 HT_ ?_;refine pA 6 23 HT_ ?_;refine tA 3 20 HT_ HW_ hHeld ?_;refine tA 7 24 HT_ HW_ hHeld ?_;refine oA 8 25 HT_ (fun K hK=>?_);refine gA Tryz.func77 #[.agg #[.int .i64 ((rd_T64 l0 x5_1).f0),.string ((rd_T64 l0 x5_1).f1),.int .i64 ((rd_T64 l0 x5_1).f2),.int .i64 ((rd_T64 l0 x5_1).f3),.string ((rd_T64 l0 x5_1).f4)],.agg #[.int .i64 ((rd_T64 l1 x5_1).f0),.string ((rd_T64 l1 x5_1).f1),.int .i64 ((rd_T64 l1 x5_1).f2),.int .i64 ((rd_T64 l1 x5_1).f3),.string ((rd_T64 l1 x5_1).f4)]] ?_;(with_reducible refine (laws_eqLine.calls ((rd_T64 l0 x5_1).f0) ((rd_T64 l0 x5_1).f1) ((rd_T64 l0 x5_1).f2) ((rd_T64 l0 x5_1).f3) ((rd_T64 l0 x5_1).f4) ((rd_T64 l1 x5_1).f0) ((rd_T64 l1 x5_1).f1) ((rd_T64 l1 x5_1).f2) ((rd_T64 l1 x5_1).f3) ((rd_T64 l1 x5_1).f4) true _ A7.out).mono ?_);rintro e w10 ⟨rfl,hb⟩;refine ⟨_,rfl,?_⟩;replace HB:=bq HB hb;(try clear hb);(try clear hb2);(try clear hk);(try clear hi);refine hK.out _ _ (hca (cb HB hw13_0) (hca (cb HB hw13_1) (hca (cb HB hw13_2) (hca (cb HB hw13_3) (hca (cb HB hw13_4) (hca (cb HB hw14_0) (hca (cb HB hw14_1) (hca (cb HB hw14_2) (hca (cb HB hw14_3) (hc (cb HB hw14_4))))))))))).out (fun hHeld=>?_);clear hK K;refine nA 25 ?_;refine pA 9 26 HT_ ?_;refine done_ (done_of HT_.out (by kernel_rfl)) ?_
      try go_wp2
      go_roundg k1
      case measure=>have:=HK1.out;omega
      case rel=>exact ⟨(wrap64 (x5_1+1)),fg,H',⟨by have:=HK1.out;omega⟩,⟨bs HB⟩⟩
     ·replace H:=itF H;obtain rfl:=si H
      try go_wp2
      replace HB:=am (below_drew1 HB.out);have p13:0≤(x5_1:Int):=oa;have q13:x5_1<(l0.length:Int):=oa;obtain ⟨ad13,e13,hx13_0,hx13_1,hx13_2,hx13_3,hx13_4⟩:=at_T64 HR0.out x5_1 p13 q13;have hw13_4:=hx13_4;have hw13_3:=hx13_3;have hw13_2:=hx13_2;have hw13_1:=hx13_1;have hw13_0:=hx13_0
      cases e13
      replace hx13_0:=cb HB hx13_0;replace hx13_1:=cb HB hx13_1;replace hx13_2:=cb HB hx13_2;replace hx13_3:=cb HB hx13_3;replace hx13_4:=cb HB hx13_4;replace p13:=eq_true p13;replace q13:=eq_true q13;have p14:0≤(x5_1:Int):=oa;have q14:x5_1<(l1.length:Int):=oa;obtain ⟨ad14,e14,hx14_0,hx14_1,hx14_2,hx14_3,hx14_4⟩:=at_T64 HR1.out x5_1 p14 q14;have hw14_4:=hx14_4;have hw14_3:=hx14_3;have hw14_2:=hx14_2;have hw14_1:=hx14_1;have hw14_0:=hx14_0
      cases e14
      replace hx14_0:=cb HB hx14_0;replace hx14_1:=cb HB hx14_1;replace hx14_2:=cb HB hx14_2;replace hx14_3:=cb HB hx14_3;replace hx14_4:=cb HB hx14_4;replace p14:=eq_true p14;replace q14:=eq_true q14;refine sta 10 (hca (cb HB hw13_0) (hca (cb HB hw13_1) (hca (cb HB hw13_2) (hca (cb HB hw13_3) (hca (cb HB hw13_4) (hca (cb HB hw14_0) (hca (cb HB hw14_1) (hca (cb HB hw14_2) (hca (cb HB hw14_3) (hc (cb HB hw14_4))))))))))) (fun hHeld=>?_);refine with_tabW laws_eqLineS.tab6 laws_eqLineS.bits6 (fun HT_ HW_=>?_)
      generalize wr.drew=w11 at HB hx13_0 hx13_1 hx13_2 hx13_3 hx13_4 hx14_0 hx14_1 hx14_2 hx14_3 hx14_4 hHeld ⊢
      refine pA 0 17 HT_ ?_;refine pA 1 18 HT_ ?_;refine pA 2 19 HT_ ?_;refine pA 4 21 HT_ ?_;refine pA 5 22 HT_ ?_;refine pA 6 23 HT_ ?_;refine tA 3 20 HT_ HW_ hHeld ?_;refine tA 7 24 HT_ HW_ hHeld ?_;refine oA 8 25 HT_ (fun K hK=>?_);refine gA Tryz.func77 #[.agg #[.int .i64 ((rd_T64 l0 x5_1).f0),.string ((rd_T64 l0 x5_1).f1),.int .i64 ((rd_T64 l0 x5_1).f2),.int .i64 ((rd_T64 l0 x5_1).f3),.string ((rd_T64 l0 x5_1).f4)],.agg #[.int .i64 ((rd_T64 l1 x5_1).f0),.string ((rd_T64 l1 x5_1).f1),.int .i64 ((rd_T64 l1 x5_1).f2),.int .i64 ((rd_T64 l1 x5_1).f3),.string ((rd_T64 l1 x5_1).f4)]] ?_;(with_reducible refine (laws_eqLine.calls ((rd_T64 l0 x5_1).f0) ((rd_T64 l0 x5_1).f1) ((rd_T64 l0 x5_1).f2) ((rd_T64 l0 x5_1).f3) ((rd_T64 l0 x5_1).f4) ((rd_T64 l1 x5_1).f0) ((rd_T64 l1 x5_1).f1) ((rd_T64 l1 x5_1).f2) ((rd_T64 l1 x5_1).f3) ((rd_T64 l1 x5_1).f4) false _ A7.out).mono ?_);rintro e w12 ⟨rfl,hb⟩;refine ⟨_,rfl,?_⟩;replace HB:=bq HB hb;(try clear hb);(try clear hb2);(try clear hk);(try clear hi);refine hK.out _ _ (hca (cb HB hw13_0) (hca (cb HB hw13_1) (hca (cb HB hw13_2) (hca (cb HB hw13_3) (hca (cb HB hw13_4) (hca (cb HB hw14_0) (hca (cb HB hw14_1) (hca (cb HB hw14_2) (hca (cb HB hw14_3) (hc (cb HB hw14_4))))))))))).out (fun hHeld=>?_);clear hK K;refine nA 25 ?_;refine pA 9 26 HT_ ?_;refine done_ (done_of HT_.out (by kernel_rfl)) ?_
      try go_wp2
      go_ret
      exact ⟨ff,bs HB⟩
    ·intro c4b0 H;obtain rfl:=si H
     go_wp2
     go_ret
     exact ⟨ff,bs HB⟩
 ·intro c3 c3b0 c3b1 H
  have c3b2:(l0.length == l1.length)=false:=by first|simpa using c3|(simp at c3 ⊢;omega)
  obtain rfl:=si H
  go_in
  go_wp2
  go_ret
  exact ⟨ff,bs HB⟩
end Go.Proofs.YtkfcahggnpecjaaGreatDoor.QW
