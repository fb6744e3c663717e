-- Merged by a program of this session (wip/tool/pack.py) out of its own texts for this claim.
import Derived.Lib.SliceRun
import Derived.Test.YtomoflpgdbjojaaGreatKFnExactGatePartner17
set_option maxHeartbeats 8000000
set_option maxRecDepth 100000
set_option linter.unusedSimpArgs false
set_option linter.unusedVariables false
namespace Go.Proofs.YtomoflpgdbjojaaGreat.QO
open Go.RowKit Go.Proofs.YtomoflpgdbjojaaGreatW.PrintWords Go.Proofs.YtomoflpgdbjojaaGreatW.PrintLast Go.Proofs.YtomoflpgdbjojaaGreatW.PrintMore
attribute [local go_sem] max2_int min2_int max_two min_two max_three min_three max_four min_four   -- for this text's walks alone
def IsS42 (w0 W:World) (g:Nat) (f0:ByteArray) (f1:Int) (f2:List (S83)) (f3:List (S114)) (f4:List (S152)) (f5:List (S161)) (f6:List (S118)) (f7:List (S120)):Prop:=∃ A2 c2,∃ A3 c3,∃ A4 c4,∃ A5 c5,∃ A6 c6,∃ A7 c7,W.heap[g]? = some (.cells #[.string f0,.int .i64 f1,.slice A2 f2.length c2,.slice A3 f3.length c3,.slice A4 f4.length c4,.slice A5 f5.length c5,.slice A6 f6.length c6,.slice A7 f7.length c7] 42 (0,0))∧w0.heap.size≤g∧(Kd.C k83 w0 A2 f2.length f2∧f2.length≤c2)∧(Kd.C k114 w0 A3 f3.length f3∧f3.length≤c3)∧(Kd.C k152 w0 A4 f4.length f4∧f4.length≤c4)∧(Kd.C k161 w0 A5 f5.length f5∧f5.length≤c5)∧(Kd.C k118 w0 A6 f6.length f6∧f6.length≤c6)∧(Kd.C k120 w0 A7 f7.length f7∧f7.length≤c7)
theorem IsS42.grown {w0 W:World} {g:Nat} {f0:ByteArray} {f1:Int} {f2:List (S83)} {f3:List (S114)} {f4:List (S152)} {f5:List (S161)} {f6:List (S118)} {f7:List (S120)} {W1:World} {row:Option Nat} (h:IsS42 w0 W g f0 f1 f2 f3 f4 f5 f6 f7) (hw:W.grownBy W1 row) (hne:some g≠row):IsS42 w0 W1 g f0 f1 f2 f3 f4 f5 f6 f7:=by
 obtain ⟨A2,c2,A3,c3,A4,c4,A5,c5,A6,c6,A7,c7,hb,hg,hr2,hr3,hr4,hr5,hr6,hr7⟩:=h
 exact ⟨A2,c2,A3,c3,A4,c4,A5,c5,A6,c6,A7,c7,blk_grown hb hw hne,hg,hr2,hr3,hr4,hr5,hr6,hr7⟩
theorem IsS42.kept {w0 W:World} {g:Nat} {f0:ByteArray} {f1:Int} {f2:List (S83)} {f3:List (S114)} {f4:List (S152)} {f5:List (S161)} {f6:List (S118)} {f7:List (S120)} {W1:World} {S:Nat→Prop} (h:IsS42 w0 W g f0 f1 f2 f3 f4 f5 f6 f7) (hk:Kept W W1 S) (hne:¬ S g):IsS42 w0 W1 g f0 f1 f2 f3 f4 f5 f6 f7:=by
 obtain ⟨A2,c2,A3,c3,A4,c4,A5,c5,A6,c6,A7,c7,hb,hg,hr2,hr3,hr4,hr5,hr6,hr7⟩:=h
 exact ⟨A2,c2,A3,c3,A4,c4,A5,c5,A6,c6,A7,c7,blk_kept hb hk hne,hg,hr2,hr3,hr4,hr5,hr6,hr7⟩
theorem IsS42.below {w0 W:World} {g:Nat} {f0:ByteArray} {f1:Int} {f2:List (S83)} {f3:List (S114)} {f4:List (S152)} {f5:List (S161)} {f6:List (S118)} {f7:List (S120)} {W1:World} (h:IsS42 w0 W g f0 f1 f2 f3 f4 f5 f6 f7) (hw:Below W.heap.size W W1):IsS42 w0 W1 g f0 f1 f2 f3 f4 f5 f6 f7:=h.grown (grown_of_below hw none) (by simp)
theorem IsS42.alloc {w0 W:World} {g:Nat} {f0:ByteArray} {f1:Int} {f2:List (S83)} {f3:List (S114)} {f4:List (S152)} {f5:List (S161)} {f6:List (S118)} {f7:List (S120)} (h:IsS42 w0 W g f0 f1 f2 f3 f4 f5 f6 f7) (o:Obj):IsS42 w0 (W.alloc o) g f0 f1 f2 f3 f4 f5 f6 f7:=h.below (below_alloc (Below.refl _ _) o)
theorem IsS42.drewN {w0 W:World} {g:Nat} {f0:ByteArray} {f1:Int} {f2:List (S83)} {f3:List (S114)} {f4:List (S152)} {f5:List (S161)} {f6:List (S118)} {f7:List (S120)} (h:IsS42 w0 W g f0 f1 f2 f3 f4 f5 f6 f7) (m:Nat):IsS42 w0 (W.drewN m) g f0 f1 f2 f3 f4 f5 f6 f7:=h
theorem IsS42.drew {w0 W:World} {g:Nat} {f0:ByteArray} {f1:Int} {f2:List (S83)} {f3:List (S114)} {f4:List (S152)} {f5:List (S161)} {f6:List (S118)} {f7:List (S120)} (h:IsS42 w0 W g f0 f1 f2 f3 f4 f5 f6 f7):IsS42 w0 W.drew g f0 f1 f2 f3 f4 f5 f6 f7:=h
theorem IsS42.at_ {w0 W:World} {g:Nat} {f0:ByteArray} {f1:Int} {f2:List (S83)} {f3:List (S114)} {f4:List (S152)} {f5:List (S161)} {f6:List (S118)} {f7:List (S120)} {w':World} {m:Nat} (hq:W.drewN m=w') (h:IsS42 w0 W g f0 f1 f2 f3 f4 f5 f6 f7):IsS42 w0 w' g f0 f1 f2 f3 f4 f5 f6 f7:=by subst hq;exact IsS42.drewN h m
theorem IsS42.apart {w0 W:World} {g:Nat} {f0:ByteArray} {f1:Int} {f2:List (S83)} {f3:List (S114)} {f4:List (S152)} {f5:List (S161)} {f6:List (S118)} {f7:List (S120)} {α:Type} {d:Kd α} {e:Nat} {base:Nat} {ok:Nat→Prop} {v:Value} {xs:List α} (h:IsS42 w0 W g f0 f1 f2 f3 f4 f5 f6 f7) (ho:d.R e W base ok v xs) (ht:∀ q,q ∈ e :: d.E→q≠42):d.R e W base (fun k=>ok k∧k≠g) v xs:=by
 obtain ⟨A2,c2,A3,c3,A4,c4,A5,c5,A6,c6,A7,c7,hb,hg,hr2,hr3,hr4,hr5,hr6,hr7⟩:=h
 exact Kd.R_types ho hb ht
theorem IsS42.own_ne {w0 W:World} {g:Nat} {f0:ByteArray} {f1:Int} {f2:List (S83)} {f3:List (S114)} {f4:List (S152)} {f5:List (S161)} {f6:List (S118)} {f7:List (S120)} {α:Type} {d:Kd α} {e:Nat} {base:Nat} {ok:Nat→Prop} {v:Value} {xs:List α} (h:IsS42 w0 W g f0 f1 f2 f3 f4 f5 f6 f7) (ho:d.R e W base ok v xs) (ht:e≠42):some g≠v.ownBlock:=by
 obtain ⟨A2,c2,A3,c3,A4,c4,A5,c5,A6,c6,A7,c7,hb,hg,hr2,hr3,hr4,hr5,hr6,hr7⟩:=h
 exact Kd.R_ne ho hb ht
theorem IsS42.lt {w0 W:World} {g:Nat} {f0:ByteArray} {f1:Int} {f2:List (S83)} {f3:List (S114)} {f4:List (S152)} {f5:List (S161)} {f6:List (S118)} {f7:List (S120)} (h:IsS42 w0 W g f0 f1 f2 f3 f4 f5 f6 f7):g<W.heap.size:=by
 obtain ⟨A2,c2,A3,c3,A4,c4,A5,c5,A6,c6,A7,c7,hb,hg,hr2,hr3,hr4,hr5,hr6,hr7⟩:=h
 exact blk_lt hb
theorem IsS42.ge {w0 W:World} {g:Nat} {f0:ByteArray} {f1:Int} {f2:List (S83)} {f3:List (S114)} {f4:List (S152)} {f5:List (S161)} {f6:List (S118)} {f7:List (S120)} (h:IsS42 w0 W g f0 f1 f2 f3 f4 f5 f6 f7):w0.heap.size≤g:=by
 obtain ⟨A2,c2,A3,c3,A4,c4,A5,c5,A6,c6,A7,c7,hb,hg,hr2,hr3,hr4,hr5,hr6,hr7⟩:=h
 exact hg
theorem IsS42.far {w0 W:World} {g:Nat} {f0:ByteArray} {f1:Int} {f2:List (S83)} {f3:List (S114)} {f4:List (S152)} {f5:List (S161)} {f6:List (S118)} {f7:List (S120)} {p:Addr} (h:IsS42 w0 W g f0 f1 f2 f3 f4 f5 f6 f7) (hne:g≠p.block) (u:Value):IsS42 w0 (W.setCell p u) g f0 f1 f2 f3 f4 f5 f6 f7:=by
 obtain ⟨A2,c2,A3,c3,A4,c4,A5,c5,A6,c6,A7,c7,hb,hg,hr2,hr3,hr4,hr5,hr6,hr7⟩:=h
 exact ⟨A2,c2,A3,c3,A4,c4,A5,c5,A6,c6,A7,c7,blk_far hb hne u,hg,hr2,hr3,hr4,hr5,hr6,hr7⟩
theorem cellS42_0 {W:World} {g:Nat} {A2:Option Addr} {c2:Nat} {A3:Option Addr} {c3:Nat} {A4:Option Addr} {c4:Nat} {A5:Option Addr} {c5:Nat} {A6:Option Addr} {c6:Nat} {A7:Option Addr} {c7:Nat} {f0:ByteArray} {f1:Int} {f2:List (S83)} {f3:List (S114)} {f4:List (S152)} {f5:List (S161)} {f6:List (S118)} {f7:List (S120)} (h:W.heap[g]? = some (.cells #[.string f0,.int .i64 f1,.slice A2 f2.length c2,.slice A3 f3.length c3,.slice A4 f4.length c4,.slice A5 f5.length c5,.slice A6 f6.length c6,.slice A7 f7.length c7] 42 (0,0))):W.cell? ⟨g,0,none⟩=some (.string f0):=(blk_cell h 0).trans rfl
theorem IsS42.set_0 {w0 W:World} {g:Nat} {f0:ByteArray} {f1:Int} {f2:List (S83)} {f3:List (S114)} {f4:List (S152)} {f5:List (S161)} {f6:List (S118)} {f7:List (S120)} (h:IsS42 w0 W g f0 f1 f2 f3 f4 f5 f6 f7) (x:ByteArray):IsS42 w0 (W.setCell ⟨g,0,none⟩ (.string x)) g x f1 f2 f3 f4 f5 f6 f7:=by
 obtain ⟨A2,c2,A3,c3,A4,c4,A5,c5,A6,c6,A7,c7,hb,hg,hr2,hr3,hr4,hr5,hr6,hr7⟩:=h
 exact ⟨A2,c2,A3,c3,A4,c4,A5,c5,A6,c6,A7,c7,by simpa using blk_set hb 0 (.string x),hg,hr2,hr3,hr4,hr5,hr6,hr7⟩
theorem cellS42_1 {W:World} {g:Nat} {A2:Option Addr} {c2:Nat} {A3:Option Addr} {c3:Nat} {A4:Option Addr} {c4:Nat} {A5:Option Addr} {c5:Nat} {A6:Option Addr} {c6:Nat} {A7:Option Addr} {c7:Nat} {f0:ByteArray} {f1:Int} {f2:List (S83)} {f3:List (S114)} {f4:List (S152)} {f5:List (S161)} {f6:List (S118)} {f7:List (S120)} (h:W.heap[g]? = some (.cells #[.string f0,.int .i64 f1,.slice A2 f2.length c2,.slice A3 f3.length c3,.slice A4 f4.length c4,.slice A5 f5.length c5,.slice A6 f6.length c6,.slice A7 f7.length c7] 42 (0,0))):W.cell? ⟨g,1,none⟩=some (.int .i64 f1):=(blk_cell h 1).trans rfl
theorem IsS42.set_1 {w0 W:World} {g:Nat} {f0:ByteArray} {f1:Int} {f2:List (S83)} {f3:List (S114)} {f4:List (S152)} {f5:List (S161)} {f6:List (S118)} {f7:List (S120)} (h:IsS42 w0 W g f0 f1 f2 f3 f4 f5 f6 f7) (x:Int):IsS42 w0 (W.setCell ⟨g,1,none⟩ (.int .i64 x)) g f0 x f2 f3 f4 f5 f6 f7:=by
 obtain ⟨A2,c2,A3,c3,A4,c4,A5,c5,A6,c6,A7,c7,hb,hg,hr2,hr3,hr4,hr5,hr6,hr7⟩:=h
 exact ⟨A2,c2,A3,c3,A4,c4,A5,c5,A6,c6,A7,c7,by simpa using blk_set hb 1 (.int .i64 x),hg,hr2,hr3,hr4,hr5,hr6,hr7⟩
theorem cellS42_2 {W:World} {g:Nat} {A2:Option Addr} {c2:Nat} {A3:Option Addr} {c3:Nat} {A4:Option Addr} {c4:Nat} {A5:Option Addr} {c5:Nat} {A6:Option Addr} {c6:Nat} {A7:Option Addr} {c7:Nat} {f0:ByteArray} {f1:Int} {f2:List (S83)} {f3:List (S114)} {f4:List (S152)} {f5:List (S161)} {f6:List (S118)} {f7:List (S120)} (h:W.heap[g]? = some (.cells #[.string f0,.int .i64 f1,.slice A2 f2.length c2,.slice A3 f3.length c3,.slice A4 f4.length c4,.slice A5 f5.length c5,.slice A6 f6.length c6,.slice A7 f7.length c7] 42 (0,0))):W.cell? ⟨g,2,none⟩=some (.slice A2 f2.length c2):=(blk_cell h 2).trans rfl
theorem cellS42_3 {W:World} {g:Nat} {A2:Option Addr} {c2:Nat} {A3:Option Addr} {c3:Nat} {A4:Option Addr} {c4:Nat} {A5:Option Addr} {c5:Nat} {A6:Option Addr} {c6:Nat} {A7:Option Addr} {c7:Nat} {f0:ByteArray} {f1:Int} {f2:List (S83)} {f3:List (S114)} {f4:List (S152)} {f5:List (S161)} {f6:List (S118)} {f7:List (S120)} (h:W.heap[g]? = some (.cells #[.string f0,.int .i64 f1,.slice A2 f2.length c2,.slice A3 f3.length c3,.slice A4 f4.length c4,.slice A5 f5.length c5,.slice A6 f6.length c6,.slice A7 f7.length c7] 42 (0,0))):W.cell? ⟨g,3,none⟩=some (.slice A3 f3.length c3):=(blk_cell h 3).trans rfl
theorem cellS42_4 {W:World} {g:Nat} {A2:Option Addr} {c2:Nat} {A3:Option Addr} {c3:Nat} {A4:Option Addr} {c4:Nat} {A5:Option Addr} {c5:Nat} {A6:Option Addr} {c6:Nat} {A7:Option Addr} {c7:Nat} {f0:ByteArray} {f1:Int} {f2:List (S83)} {f3:List (S114)} {f4:List (S152)} {f5:List (S161)} {f6:List (S118)} {f7:List (S120)} (h:W.heap[g]? = some (.cells #[.string f0,.int .i64 f1,.slice A2 f2.length c2,.slice A3 f3.length c3,.slice A4 f4.length c4,.slice A5 f5.length c5,.slice A6 f6.length c6,.slice A7 f7.length c7] 42 (0,0))):W.cell? ⟨g,4,none⟩=some (.slice A4 f4.length c4):=(blk_cell h 4).trans rfl
theorem cellS42_5 {W:World} {g:Nat} {A2:Option Addr} {c2:Nat} {A3:Option Addr} {c3:Nat} {A4:Option Addr} {c4:Nat} {A5:Option Addr} {c5:Nat} {A6:Option Addr} {c6:Nat} {A7:Option Addr} {c7:Nat} {f0:ByteArray} {f1:Int} {f2:List (S83)} {f3:List (S114)} {f4:List (S152)} {f5:List (S161)} {f6:List (S118)} {f7:List (S120)} (h:W.heap[g]? = some (.cells #[.string f0,.int .i64 f1,.slice A2 f2.length c2,.slice A3 f3.length c3,.slice A4 f4.length c4,.slice A5 f5.length c5,.slice A6 f6.length c6,.slice A7 f7.length c7] 42 (0,0))):W.cell? ⟨g,5,none⟩=some (.slice A5 f5.length c5):=(blk_cell h 5).trans rfl
theorem cellS42_6 {W:World} {g:Nat} {A2:Option Addr} {c2:Nat} {A3:Option Addr} {c3:Nat} {A4:Option Addr} {c4:Nat} {A5:Option Addr} {c5:Nat} {A6:Option Addr} {c6:Nat} {A7:Option Addr} {c7:Nat} {f0:ByteArray} {f1:Int} {f2:List (S83)} {f3:List (S114)} {f4:List (S152)} {f5:List (S161)} {f6:List (S118)} {f7:List (S120)} (h:W.heap[g]? = some (.cells #[.string f0,.int .i64 f1,.slice A2 f2.length c2,.slice A3 f3.length c3,.slice A4 f4.length c4,.slice A5 f5.length c5,.slice A6 f6.length c6,.slice A7 f7.length c7] 42 (0,0))):W.cell? ⟨g,6,none⟩=some (.slice A6 f6.length c6):=(blk_cell h 6).trans rfl
theorem cellS42_7 {W:World} {g:Nat} {A2:Option Addr} {c2:Nat} {A3:Option Addr} {c3:Nat} {A4:Option Addr} {c4:Nat} {A5:Option Addr} {c5:Nat} {A6:Option Addr} {c6:Nat} {A7:Option Addr} {c7:Nat} {f0:ByteArray} {f1:Int} {f2:List (S83)} {f3:List (S114)} {f4:List (S152)} {f5:List (S161)} {f6:List (S118)} {f7:List (S120)} (h:W.heap[g]? = some (.cells #[.string f0,.int .i64 f1,.slice A2 f2.length c2,.slice A3 f3.length c3,.slice A4 f4.length c4,.slice A5 f5.length c5,.slice A6 f6.length c6,.slice A7 f7.length c7] 42 (0,0))):W.cell? ⟨g,7,none⟩=some (.slice A7 f7.length c7):=(blk_cell h 7).trans rfl
theorem impl_Gate_partner.calls (k:Nat) (g:Nat) (s0_0:ByteArray) (s0_1:Int) (s0_2:List (S83)) (s0_3:List (S114)) (s0_4:List (S152)) (s0_5:List (S161)) (s0_6:List (S118)) (s0_7:List (S120)) (a1:ByteArray) (r1:Int) (r2:Bool) (r3:ByteArray) (r4:Int) (w0 w:World) (hI:IsS42 w0 w g s0_0 s0_1 s0_2 s0_3 s0_4 s0_5 s0_6 s0_7) (hB:Below w0.heap.size w0 w) (H:impl_Gate_partner.f k s0_0 s0_1 s0_2 s0_3 s0_4 s0_5 s0_6 s0_7 a1=some (r1,r2,r3,r4)) :
  Calls Tryz.prog 54 #[.pointer (some ⟨g,0,none⟩),.string a1] w fun e w'=>e=.returned (.tuple #[.int .i64 r1,.bool r2])∧IsS42 w0 w' g r3 r4 s0_2 s0_3 s0_4 s0_5 s0_6 s0_7∧Below w0.heap.size w0 w'∧KeepBut w w' g none:=by
 have HI0:=am hI;have HK:=am (KeepBut.refl w g none);have HL:=am hB.size;clear hI;have HW0:=am hB.size;have HB:=am hB;clear hB;unfold impl_Gate_partner.f at H;replace H:=bo H;obtain ⟨⟨t8,t9⟩,A3,H⟩:=H;(try dsimp only at H);replace H:=sj4 H;obtain ⟨rfl,rfl,rfl,rfl⟩:=H;obtain ⟨ASz4_2,cSz4_2,ASz4_3,cSz4_3,ASz4_4,cSz4_4,ASz4_5,cSz4_5,ASz4_6,cSz4_6,ASz4_7,cSz4_7,HGz4,hgz4,HSz4_2,HSz4_3,HSz4_4,HSz4_5,HSz4_6,HSz4_7⟩:=HI0.out;have hcz4_0:=cellS42_0 HGz4;have hcz4_1:=cellS42_1 HGz4;have hcz4_2:=cellS42_2 HGz4;have hcz4_3:=cellS42_3 HGz4;have hcz4_4:=cellS42_4 HGz4;have hcz4_5:=cellS42_5 HGz4;have hcz4_6:=cellS42_6 HGz4;have hcz4_7:=cellS42_7 HGz4;have hfz4_0:=blk_frozen HGz4 0;have hfz4_1:=blk_frozen HGz4 1;clear HGz4 hgz4;have HCz4_2:=HSz4_2.2;have HCz4_3:=HSz4_3.2;have HCz4_4:=HSz4_4.2;have HCz4_5:=HSz4_5.2;have HCz4_6:=HSz4_6.2;have HCz4_7:=HSz4_7.2;replace HSz4_2:=HSz4_2.1;replace HSz4_3:=HSz4_3.1;replace HSz4_4:=HSz4_4.1;replace HSz4_5:=HSz4_5.1;replace HSz4_6:=HSz4_6.1;replace HSz4_7:=HSz4_7.1
 go_in
 go_wp2_with (first|((first|((with_reducible refine gate_callee (f:=106) rfl ?_);refine goesL_ (some 11) rfl rfl Tryz.func106 (by kernel_rfl) rfl #[state,.string a1,.func (.func 107) #[] #[]] rfl (by (try simp only [List.map_toArray,List.map_cons,List.map_nil]);first|done|rfl|(simp only [List.length_drop,List.length_take];rfl)) ?_;(with_reducible refine (impl_Partner_string_impl_Gate_partner_1.calls k _ _ s0_2 a1  t8 t9 _ ?side1 ?side2 A3.out).mono ?_);(case side1=>first|exact (Kd.C_below HSz4_2 (by repeat (first|(with_reducible first|exact HB.out|apply below_alloc|apply pw_below_drewN|apply below_drew1|refine below_set ?_ (IsS42.ge HI0.out))|exact HB.out))));(case side2=>first|exact HCz4_2);rintro e w5 ⟨rfl,hb⟩;refine ⟨_,rfl,?_⟩)|(go_at_call 106;(with_reducible refine (impl_Partner_string_impl_Gate_partner_1.calls k _ _ s0_2 a1  t8 t9 _ ?side1 ?side2 A3.out).mono ?_);(case side1=>first|exact (Kd.C_below HSz4_2 (by repeat (first|(with_reducible first|exact HB.out|apply below_alloc|apply pw_below_drewN|apply below_drew1|refine below_set ?_ (IsS42.ge HI0.out))|exact HB.out))));(case side2=>first|exact HCz4_2);rintro e w5 ⟨rfl,hb⟩));replace HK:=am (KeepBut.trans (by repeat (first|(with_reducible first|exact HK.out|apply KeepBut.set_|apply keep_drewN|apply keep_drew|apply keep_alloc)|exact HK.out)) (KeepBut.of_below hb g none) (.inl rfl));replace HB:=am (below_step (by repeat (first|(with_reducible first|exact HB.out|apply below_alloc|apply pw_below_drewN|apply below_drew1|refine below_set ?_ (IsS42.ge HI0.out))|exact HB.out)) hb);replace HI0:=am (IsS42.below (by repeat (first|(with_reducible first|exact HI0.out|apply IsS42.alloc|apply IsS42.drewN|apply IsS42.drew|apply IsS42.set_0|apply IsS42.set_1)|exact HI0.out)) hb);(try clear hb);(try clear hb2);(try clear hk);(try clear hi)))
 go_ret2
 exact ⟨ff,by repeat (first|(with_reducible first|exact HI0.out|apply IsS42.alloc|apply IsS42.drewN|apply IsS42.drew|apply IsS42.set_0|apply IsS42.set_1)|exact HI0.out),by repeat (first|(with_reducible first|exact HB.out|apply below_alloc|apply pw_below_drewN|apply below_drew1|refine below_set ?_ (IsS42.ge HI0.out))|exact HB.out),by repeat (first|(with_reducible first|exact HK.out|apply KeepBut.set_|apply keep_drewN|apply keep_drew|apply keep_alloc)|exact HK.out)⟩
theorem slices_Clone_implSeen.calls (A0:Option Addr) (c0:Nat) (l0:List S155) (r:List S155) (w:World) (hr0:Kd.C k155 w A0 l0.length l0) (hc0:l0.length≤c0) (h:slices_Clone_implSeen.f l0=some r) :
  Calls Tryz.prog 123 #[.slice A0 l0.length c0] w fun e w'=>∃ v0_:Value,e=.returned (v0_)∧Kd.R k155 155 w' w.heap.size (fun _=>True) v0_ r∧Below w.heap.size w w':=by
 unfold slices_Clone_implSeen.f at h
 by_cases hl:l0.length<5864062014805
 ·rw [if_pos hl] at h
  obtain rfl:=Option.some.inj h
  cases A0 with
  | none =>
   have h0:l0.length=0:=by
    by_cases g:0<l0.length
    ·obtain ⟨ad,e,_⟩:=hr0.2.2 g
     cases e
    ·omega
   obtain rfl:l0=[]:=List.eq_nil_of_length_eq_zero h0;clear hr0 hl h h0
   have hq:∀ W,(binOp .eql 81 (.slice none 0 c0) (.slice none 0 0)).run Tryz.prog W=.ok (.bool true) W:=fun W=>Lib.run_eql_slice_nil W _ _ none _ _ _ _ Tryz.underlying81
   simp only [List.length_nil]
   go_in
   go_wp2
   go_ret
   exact ⟨_,rfl,Kd.R_nil _ _ _ _ _,Below.refl _ _⟩
  | some a0 =>
   have HB:=am (Below.refl w.heap.size w);have HR0:=am hr0;have HL:=am hl;clear hr0 hl h hc0
   have hq:∀ W,(binOp .eql 81 (.slice (some a0) l0.length c0) (.slice none 0 0)).run Tryz.prog W=.ok (.bool false) W:=fun W=>Lib.run_eql_slice_nil W _ _ (some a0) _ _ _ _ Tryz.underlying81
   go_in
   go_wp2_with (first|((with_reducible refine gate_dst (N:=5) rfl ?_);refine rl k155 155 (N:=5) (xs:=([]:List S155)) (inner:=[]) ?hp ?_;(case hp=>exact (Reps.none _ _));intro v1 w5 ho6 hb hg_ hnew_;clear hg_ hnew_;have HO1:=am (Kd.R_lower ho6 (below_size (bs HB)));replace HB:=bq HB hb;clear hb ho6)|((with_reducible refine gate_builtin (b:=.append) (xs:=#[.tmp 5,.tmp 6]) rfl ?_);at_builtin;refine Kd.R_append_rows k155 (w0:=w) w.heap.size rfl (.tmp 5) (.tmp 6) 81 155 ((.agg #[(.int .i64 0),(.int .i64 0),(.int .i64 0)])) 24 rfl Tryz.underlying81 info155 rfl (by decide) (by omega) v1 [] l0 _ _ _ (fun _=>True) (fun _=>False) rfl rfl ?aO ?aR (fun _ _ h=>h) (fun _ h=>h.elim) ?aF ?aB ?aS ?aL ?_;(case aR=>repeat (first|exact (Kd.C_below HR0.out HB.out)|(with_reducible refine Kd.C_alloc ?_ _)|(with_reducible refine Kd.C_drewN ?_ _)|(with_reducible refine Kd.C_drew ?_)));(case aB=>exact (bs HB));(case aF=>exact (fun _ _=>trivial));(case aO=>exact (rs HO1));(case aS=>exact (below_size (bs HB)));(case aL=>have:=HL.out;simp only [List.length_nil];omega);intro v2 w6 ho hb hg hat;have HO2:=am ho;replace HB:=am hb;clear ho hb hg hat HO1))
   go_ret
   exact ⟨_,rfl,by (with_reducible repeat (first|apply Kd.R_alloc|apply Kd.R_drewN|apply Kd.R_drew));exact HO2.out,bs HB⟩
 ·rw [if_neg hl] at h
  cases h
theorem impl_ownPartner.calls (a0_0:ByteArray) (a0_1:Int) (a0_2:Int) (A0_3:Option Addr) (c0_3:Nat) (l0_3:List (S155)) (r1:ByteArray) (r2:Int) (r3:Int) (r4:List (S155)) (w:World) (hr0_3:Kd.C k155 w A0_3 l0_3.length l0_3) (hc0_3:l0_3.length≤c0_3) (H:impl_ownPartner.f a0_0 a0_1 a0_2 l0_3=some (r1,r2,r3,r4)) :
  Calls Tryz.prog 77 #[.agg #[.string a0_0,.int .i64 a0_1,.int .i64 a0_2,.slice A0_3 l0_3.length c0_3]] w fun e w'=>∃ v3_:Value,e=.returned (.agg #[.string r1,.int .i64 r2,.int .i64 r3,v3_])∧Kd.R k155 155 w' w.heap.size (fun _=>True) v3_ r4∧Below w.heap.size w w':=by
 have hu83:=Tryz.underlying83;have HR0_3:=am hr0_3;have HC0_3:=am hc0_3;clear hr0_3 hc0_3;have HB:=am (Below.refl w.heap.size w);unfold impl_ownPartner.f at H;replace H:=bo H;obtain ⟨t13,A2,H⟩:=H;replace H:=sj4 H;obtain ⟨rfl,rfl,rfl,rfl⟩:=H
 go_in
 go_wp2_with (first|((with_reducible refine gate_dst (N:=1) rfl ?_);refine bz 1 (cs:=#[.string a0_0,.int .i64 a0_1,.int .i64 a0_2,.slice A0_3 l0_3.length c0_3]) (t:=83) HB ?_;clear HB;intro gb11 hg w3 BK11 GW11 hb HB;clear hb hg)|((with_reducible refine gate_dst (N:=2) rfl ?_);refine bz 2 (cs:=#[.string (⟨#[]⟩:ByteArray),.int .i64 0,.int .i64 0,.slice none 0 0]) (t:=83) HB ?_;clear HB;intro gb12 hg w4 BK12 GW12 hb HB;have NB11_12:=na hg BK11;have NB12_11:=nc hg BK11;replace BK11:=bb BK11 hb;clear hb hg;have hnb5:=NB11_12.out;have hnc5:=NB12_11.out;have hcz6_0:w4.cell? ⟨gb11,0,none⟩=some (.string a0_0):=(blk_cell BK11.out 0).trans rfl;have hcz6_1:w4.cell? ⟨gb11,1,none⟩=some (.int .i64 a0_1):=(blk_cell BK11.out 1).trans rfl;have hcz6_2:w4.cell? ⟨gb11,2,none⟩=some (.int .i64 a0_2):=(blk_cell BK11.out 2).trans rfl;have hcz6_3:w4.cell? ⟨gb11,3,none⟩=some (.slice A0_3 l0_3.length c0_3):=(blk_cell BK11.out 3).trans rfl;have hfz6_0:=blk_frozen BK11.out 0;have hfz6_1:=blk_frozen BK11.out 1;have hfz6_2:=blk_frozen BK11.out 2;have hfz6_3:=blk_frozen BK11.out 3)|((first|((with_reducible refine gate_callee (f:=123) rfl ?_);refine goesL_ (some 5) rfl rfl Tryz.func123 (by kernel_rfl) rfl #[.slice A0_3 l0_3.length c0_3] rfl (by (try simp only [List.map_toArray,List.map_cons,List.map_nil]);first|done|rfl|(simp only [List.length_drop,List.length_take];rfl)) ?_;(with_reducible refine (slices_Clone_implSeen.calls _ _ l0_3 t13 _ (Kd.C_below HR0_3.out (bs HB)) HC0_3.out A2.out).mono ?_);rintro e w7 ⟨v15,rfl,ho0,hb⟩;refine ⟨_,rfl,?_⟩)|(go_at_call 123;(with_reducible refine (slices_Clone_implSeen.calls _ _ l0_3 t13 _ (Kd.C_below HR0_3.out (bs HB)) HC0_3.out A2.out).mono ?_);rintro e w7 ⟨v15,rfl,ho0,hb⟩));have HO14:=am (Kd.R_lower ho0 (below_size (bs HB)));replace BK11:=bb BK11 hb;replace BK12:=bb BK12 hb;replace HB:=bq HB hb;(try clear hb);(try clear hb2);(try clear hk);(try clear hi);(try clear ho0);obtain ⟨Ao8,co8,eo8⟩:=Kd.R_slice HO14.out;subst eo8;have hcz9:=cf4 BK11;have hcz10:=cf4 BK12))
 refine bodyPost_ret (results_cell_row rfl _ _ gb12 83 #[.string a0_0,.int .i64 a0_1,.int .i64 a0_2,.slice Ao8 t13.length co8] (0,0) _ rfl (kp BK12) Tryz.underlying83 rfl (by kernel_rfl)) rfl ?_
 exact ⟨_,ff,by (with_reducible repeat (first|apply Kd.R_alloc|apply Kd.R_drewN|apply Kd.R_drew));exact Kd.R_mono (Kd.R_far (p:=⟨gb12,3,none⟩) (Kd.R_far (p:=⟨gb12,2,none⟩) (Kd.R_far (p:=⟨gb12,1,none⟩) (Kd.R_far (p:=⟨gb12,0,none⟩) (Kd.R_far (p:=⟨gb11,3,none⟩) (Kd.R_types (Kd.R_types HO14.out BK11.out (by decide)) BK12.out (by decide)) (fun _ hk=>hk.1.2) (.slice Ao8 t13.length co8)) (fun _ hk=>hk.2) (.string a0_0)) (fun _ hk=>hk.2) (.int .i64 a0_1)) (fun _ hk=>hk.2) (.int .i64 a0_2)) (fun _ hk=>hk.2) (.slice Ao8 t13.length co8)) (fun _ hk=>trivial),bs HB⟩
theorem slices_Clone_implCross.calls (A0:Option Addr) (c0:Nat) (l0:List S114) (r:List S114) (w:World) (hr0:Kd.C k114 w A0 l0.length l0) (hc0:l0.length≤c0) (h:slices_Clone_implCross.f l0=some r) :
  Calls Tryz.prog 78 #[.slice A0 l0.length c0] w fun e w'=>∃ v0_:Value,e=.returned (v0_)∧Kd.R k114 114 w' w.heap.size (fun _=>True) v0_ r∧Below w.heap.size w w':=by
 unfold slices_Clone_implCross.f at h
 by_cases hl:l0.length<2932031007402
 ·rw [if_pos hl] at h
  obtain rfl:=Option.some.inj h
  cases A0 with
  | none =>
   have h0:l0.length=0:=by
    by_cases g:0<l0.length
    ·obtain ⟨ad,e,_⟩:=hr0.2.2 g
     cases e
    ·omega
   obtain rfl:l0=[]:=List.eq_nil_of_length_eq_zero h0;clear hr0 hl h h0
   have hq:∀ W,(binOp .eql 34 (.slice none 0 c0) (.slice none 0 0)).run Tryz.prog W=.ok (.bool true) W:=fun W=>Lib.run_eql_slice_nil W _ _ none _ _ _ _ Tryz.underlying34
   simp only [List.length_nil]
   go_in
   go_wp2
   go_ret
   exact ⟨_,rfl,Kd.R_nil _ _ _ _ _,Below.refl _ _⟩
  | some a0 =>
   have HB:=am (Below.refl w.heap.size w);have HR0:=am hr0;have HL:=am hl;clear hr0 hl h hc0
   have hq:∀ W,(binOp .eql 34 (.slice (some a0) l0.length c0) (.slice none 0 0)).run Tryz.prog W=.ok (.bool false) W:=fun W=>Lib.run_eql_slice_nil W _ _ (some a0) _ _ _ _ Tryz.underlying34
   go_in
   go_wp2_with (first|((with_reducible refine gate_dst (N:=5) rfl ?_);refine rl k114 114 (N:=5) (xs:=([]:List S114)) (inner:=[]) ?hp ?_;(case hp=>exact (Reps.none _ _));intro v1 w5 ho6 hb hg_ hnew_;clear hg_ hnew_;have HO1:=am (Kd.R_lower ho6 (below_size (bs HB)));replace HB:=bq HB hb;clear hb ho6)|((with_reducible refine gate_builtin (b:=.append) (xs:=#[.tmp 5,.tmp 6]) rfl ?_);at_builtin;refine Kd.R_append_rows k114 (w0:=w) w.heap.size rfl (.tmp 5) (.tmp 6) 34 114 ((.agg #[(.string ⟨#[]⟩),(.string ⟨#[]⟩),(.string ⟨#[]⟩)])) 48 rfl Tryz.underlying34 info114 rfl (by decide) (by omega) v1 [] l0 _ _ _ (fun _=>True) (fun _=>False) rfl rfl ?aO ?aR (fun _ _ h=>h) (fun _ h=>h.elim) ?aF ?aB ?aS ?aL ?_;(case aR=>repeat (first|exact (Kd.C_below HR0.out HB.out)|(with_reducible refine Kd.C_alloc ?_ _)|(with_reducible refine Kd.C_drewN ?_ _)|(with_reducible refine Kd.C_drew ?_)));(case aB=>exact (bs HB));(case aF=>exact (fun _ _=>trivial));(case aO=>exact (rs HO1));(case aS=>exact (below_size (bs HB)));(case aL=>have:=HL.out;simp only [List.length_nil];omega);intro v2 w6 ho hb hg hat;have HO2:=am ho;replace HB:=am hb;clear ho hb hg hat HO1))
   go_ret
   exact ⟨_,rfl,by (with_reducible repeat (first|apply Kd.R_alloc|apply Kd.R_drewN|apply Kd.R_drew));exact HO2.out,bs HB⟩
 ·rw [if_neg hl] at h
  cases h
theorem slices_Clone_implStock.calls (A0:Option Addr) (c0:Nat) (l0:List S152) (r:List S152) (w:World) (hr0:Kd.C k152 w A0 l0.length l0) (hc0:l0.length≤c0) (h:slices_Clone_implStock.f l0=some r) :
  Calls Tryz.prog 124 #[.slice A0 l0.length c0] w fun e w'=>∃ v0_:Value,e=.returned (v0_)∧Kd.R k152 152 w' w.heap.size (fun _=>True) v0_ r∧Below w.heap.size w w':=by
 unfold slices_Clone_implStock.f at h
 by_cases hl:l0.length<5864062014805
 ·rw [if_pos hl] at h
  obtain rfl:=Option.some.inj h
  cases A0 with
  | none =>
   have h0:l0.length=0:=by
    by_cases g:0<l0.length
    ·obtain ⟨ad,e,_⟩:=hr0.2.2 g
     cases e
    ·omega
   obtain rfl:l0=[]:=List.eq_nil_of_length_eq_zero h0;clear hr0 hl h h0
   have hq:∀ W,(binOp .eql 35 (.slice none 0 c0) (.slice none 0 0)).run Tryz.prog W=.ok (.bool true) W:=fun W=>Lib.run_eql_slice_nil W _ _ none _ _ _ _ Tryz.underlying35
   simp only [List.length_nil]
   go_in
   go_wp2
   go_ret
   exact ⟨_,rfl,Kd.R_nil _ _ _ _ _,Below.refl _ _⟩
  | some a0 =>
   have HB:=am (Below.refl w.heap.size w);have HR0:=am hr0;have HL:=am hl;clear hr0 hl h hc0
   have hq:∀ W,(binOp .eql 35 (.slice (some a0) l0.length c0) (.slice none 0 0)).run Tryz.prog W=.ok (.bool false) W:=fun W=>Lib.run_eql_slice_nil W _ _ (some a0) _ _ _ _ Tryz.underlying35
   go_in
   go_wp2_with (first|((with_reducible refine gate_dst (N:=5) rfl ?_);refine rl k152 152 (N:=5) (xs:=([]:List S152)) (inner:=[]) ?hp ?_;(case hp=>exact (Reps.none _ _));intro v1 w5 ho6 hb hg_ hnew_;clear hg_ hnew_;have HO1:=am (Kd.R_lower ho6 (below_size (bs HB)));replace HB:=bq HB hb;clear hb ho6)|((with_reducible refine gate_builtin (b:=.append) (xs:=#[.tmp 5,.tmp 6]) rfl ?_);at_builtin;refine Kd.R_append_rows k152 (w0:=w) w.heap.size rfl (.tmp 5) (.tmp 6) 35 152 ((.agg #[(.string ⟨#[]⟩),(.int .i64 0)])) 24 rfl Tryz.underlying35 info152 rfl (by decide) (by omega) v1 [] l0 _ _ _ (fun _=>True) (fun _=>False) rfl rfl ?aO ?aR (fun _ _ h=>h) (fun _ h=>h.elim) ?aF ?aB ?aS ?aL ?_;(case aR=>repeat (first|exact (Kd.C_below HR0.out HB.out)|(with_reducible refine Kd.C_alloc ?_ _)|(with_reducible refine Kd.C_drewN ?_ _)|(with_reducible refine Kd.C_drew ?_)));(case aB=>exact (bs HB));(case aF=>exact (fun _ _=>trivial));(case aO=>exact (rs HO1));(case aS=>exact (below_size (bs HB)));(case aL=>have:=HL.out;simp only [List.length_nil];omega);intro v2 w6 ho hb hg hat;have HO2:=am ho;replace HB:=am hb;clear ho hb hg hat HO1))
   go_ret
   exact ⟨_,rfl,by (with_reducible repeat (first|apply Kd.R_alloc|apply Kd.R_drewN|apply Kd.R_drew));exact HO2.out,bs HB⟩
 ·rw [if_neg hl] at h
  cases h
theorem slices_Clone_implOrderLine.calls (A0:Option Addr) (c0:Nat) (l0:List S161) (r:List S161) (w:World) (hr0:Kd.C k161 w A0 l0.length l0) (hc0:l0.length≤c0) (h:slices_Clone_implOrderLine.f l0=some r) :
  Calls Tryz.prog 125 #[.slice A0 l0.length c0] w fun e w'=>∃ v0_:Value,e=.returned (v0_)∧Kd.R k161 161 w' w.heap.size (fun _=>True) v0_ r∧Below w.heap.size w w':=by
 unfold slices_Clone_implOrderLine.f at h
 by_cases hl:l0.length<1599289640401
 ·rw [if_pos hl] at h
  obtain rfl:=Option.some.inj h
  cases A0 with
  | none =>
   have h0:l0.length=0:=by
    by_cases g:0<l0.length
    ·obtain ⟨ad,e,_⟩:=hr0.2.2 g
     cases e
    ·omega
   obtain rfl:l0=[]:=List.eq_nil_of_length_eq_zero h0;clear hr0 hl h h0
   have hq:∀ W,(binOp .eql 36 (.slice none 0 c0) (.slice none 0 0)).run Tryz.prog W=.ok (.bool true) W:=fun W=>Lib.run_eql_slice_nil W _ _ none _ _ _ _ Tryz.underlying36
   simp only [List.length_nil]
   go_in
   go_wp2
   go_ret
   exact ⟨_,rfl,Kd.R_nil _ _ _ _ _,Below.refl _ _⟩
  | some a0 =>
   have HB:=am (Below.refl w.heap.size w);have HR0:=am hr0;have HL:=am hl;clear hr0 hl h hc0
   have hq:∀ W,(binOp .eql 36 (.slice (some a0) l0.length c0) (.slice none 0 0)).run Tryz.prog W=.ok (.bool false) W:=fun W=>Lib.run_eql_slice_nil W _ _ (some a0) _ _ _ _ Tryz.underlying36
   go_in
   go_wp2_with (first|((with_reducible refine gate_dst (N:=5) rfl ?_);refine rl k161 161 (N:=5) (xs:=([]:List S161)) (inner:=[]) ?hp ?_;(case hp=>exact (Reps.none _ _));intro v1 w5 ho6 hb hg_ hnew_;clear hg_ hnew_;have HO1:=am (Kd.R_lower ho6 (below_size (bs HB)));replace HB:=bq HB hb;clear hb ho6)|((with_reducible refine gate_builtin (b:=.append) (xs:=#[.tmp 5,.tmp 6]) rfl ?_);at_builtin;refine Kd.R_append_rows k161 (w0:=w) w.heap.size rfl (.tmp 5) (.tmp 6) 36 161 ((.agg #[(.string ⟨#[]⟩),(.string ⟨#[]⟩),(.int .i64 0),(.string ⟨#[]⟩),(.int .i64 0),(.int .i64 0),(.int .i64 0),(.int .i64 0)])) 88 rfl Tryz.underlying36 info161 rfl (by decide) (by omega) v1 [] l0 _ _ _ (fun _=>True) (fun _=>False) rfl rfl ?aO ?aR (fun _ _ h=>h) (fun _ h=>h.elim) ?aF ?aB ?aS ?aL ?_;(case aR=>repeat (first|exact (Kd.C_below HR0.out HB.out)|(with_reducible refine Kd.C_alloc ?_ _)|(with_reducible refine Kd.C_drewN ?_ _)|(with_reducible refine Kd.C_drew ?_)));(case aB=>exact (bs HB));(case aF=>exact (fun _ _=>trivial));(case aO=>exact (rs HO1));(case aS=>exact (below_size (bs HB)));(case aL=>have:=HL.out;simp only [List.length_nil];omega);intro v2 w6 ho hb hg hat;have HO2:=am ho;replace HB:=am hb;clear ho hb hg hat HO1))
   go_ret
   exact ⟨_,rfl,by (with_reducible repeat (first|apply Kd.R_alloc|apply Kd.R_drewN|apply Kd.R_drew));exact HO2.out,bs HB⟩
 ·rw [if_neg hl] at h
  cases h
def impl_ownBook.T1:Bool × List (List Nat × List Nat):=(true,[([],[]),([0],[0]),([1],[1]),([],[]),([3],[3]),([4,2],[4]),([2,5],[2,5]),([6,5,0,1,2,3,4,5,6],[6])])
def impl_ownBook.B1:List Nat:=[0,1,3,0,8,31,63,127]
theorem impl_ownBook.tab1:rtab .any (opsOf Tryz.f79 1)=impl_ownBook.T1:=by kernel_rfl
theorem impl_ownBook.bits1:waitsOk impl_ownBook.T1.2 impl_ownBook.B1=true:=by kernel_rfl
theorem impl_ownBook.calls (A0_0:Option Addr) (c0_0:Nat) (l0_0:List (S152)) (A0_1:Option Addr) (c0_1:Nat) (l0_1:List (S161)) (r1:List (S152)) (r2:List (S161)) (w:World) (hr0_0:Kd.C k152 w A0_0 l0_0.length l0_0) (hc0_0:l0_0.length≤c0_0) (hr0_1:Kd.C k161 w A0_1 l0_1.length l0_1) (hc0_1:l0_1.length≤c0_1) (H:impl_ownBook.f l0_0 l0_1=some (r1,r2)) :
  Calls Tryz.prog 79 #[.agg #[.slice A0_0 l0_0.length c0_0,.slice A0_1 l0_1.length c0_1]] w fun e w'=>∃ v0_ v1_:Value,e=.returned (.agg #[v0_,v1_])∧Kd.R k152 152 w' w.heap.size (fun _=>True) v0_ r1∧Kd.R k161 161 w' w.heap.size (fun _=>True) v1_ r2∧Below w.heap.size w w':=by
 have hu38:=Tryz.underlying38;have HR0_0:=am hr0_0;have HC0_0:=am hc0_0;clear hr0_0 hc0_0;have HR0_1:=am hr0_1;have HC0_1:=am hc0_1;clear hr0_1 hc0_1;have HB:=am (Below.refl w.heap.size w);unfold impl_ownBook.f at H;replace H:=bo H;obtain ⟨t16,A2,H⟩:=H;replace H:=bo H;obtain ⟨t17,A3,H⟩:=H;replace H:=sj2 H;obtain ⟨rfl,rfl⟩:=H
 go_in
 try go_wp2_with (first|((with_reducible refine gate_dst (N:=1) rfl ?_);refine bz 1 (cs:=#[.slice A0_0 l0_0.length c0_0,.slice A0_1 l0_1.length c0_1]) (t:=38) HB ?_;clear HB;intro gb14 hg w4 BK14 GW14 hb HB;clear hb hg)|((with_reducible refine gate_dst (N:=2) rfl ?_);refine bz 2 (cs:=#[.slice none 0 0,.slice none 0 0]) (t:=38) HB ?_;clear HB;intro gb13 hg w5 BK13 GW13 hb HB;have NB14_13:=na hg BK14;have NB13_14:=nc hg BK14;replace BK14:=bb BK14 hb;clear hb hg))
 replace BK14:=am (blk_drew BK14.out);replace BK13:=am (blk_drew BK13.out);replace HB:=am (below_drew1 HB.out);refine sta 8 (hb2 BK14) (fun hHeld=>?_);refine with_tabW impl_ownBook.tab1 impl_ownBook.bits1 (fun HT_ HW_=>?_)
 generalize w5.drew=w6 at BK14 BK13 HB hHeld ⊢
 refine pz1 0 ?_;refine pz1 3 ?_;refine ta 1 ?_;refine ta 4 ?_;refine oA 2 5 HT_ (fun K hK=>?_);refine gA Tryz.func124 #[.slice A0_0 l0_0.length c0_0] ?_;(with_reducible refine (slices_Clone_implStock.calls _ _ l0_0 t16 _ ?side1 ?side2 A2.out).mono ?_)
 (case side1=>exact sd (Kd.C_below HR0_0.out HB.out))
 (case side2=>exact HC0_0.out)
 rintro e w7 ⟨v19,rfl,ho0,hb⟩;refine ⟨_,rfl,?_⟩;have HO15:=am (Kd.R_lower ho0 (below_size (bs HB)));replace BK14:=bb BK14 hb;replace BK13:=bb BK13 hb;replace HB:=bq HB hb;(try clear hb);(try clear hb2);(try clear hk);(try clear hi);(try clear ho0);refine hK.out _ _ (hb2 BK14).out (fun hHeld=>?_);clear hK K;refine nA 5 ?_;refine oA 5 8 HT_ (fun K hK=>?_);refine gA Tryz.func125 #[.slice A0_1 l0_1.length c0_1] ?_;(with_reducible refine (slices_Clone_implOrderLine.calls _ _ l0_1 t17 _ ?side1 ?side2 A3.out).mono ?_)
 (case side1=>exact sd (Kd.C_below HR0_1.out HB.out))
 (case side2=>exact HC0_1.out)
 rintro e w8 ⟨v20,rfl,ho0,hb⟩;refine ⟨_,rfl,?_⟩;replace HO15:=am (Kd.R_below (rs HO15) hb);have HO18:=am (Kd.R_lower ho0 (below_size (bs HB)));replace BK14:=bb BK14 hb;replace BK13:=bb BK13 hb;replace HB:=bq HB hb;(try clear hb);(try clear hb2);(try clear hk);(try clear hi);(try clear ho0);obtain ⟨Ao9,co9,eo9⟩:=Kd.R_slice HO18.out
 (first|subst eo9|(injection eo9 with f1_ f2_ f3_;have f4_:=f1_.symm;have f5_:=f3_.symm;clear f1_ f2_ f3_;subst f4_;subst f5_))
 obtain ⟨Ao10,co10,eo10⟩:=Kd.R_slice HO15.out
 (first|subst eo10|(injection eo10 with f1_ f2_ f3_;have f4_:=f1_.symm;have f5_:=f3_.symm;clear f1_ f2_ f3_;subst f4_;subst f5_))
 refine hK.out _ _ (hb2 BK14).out (fun hHeld=>?_);clear hK K;refine nA 8 ?_;refine pz1 6 ?_;refine one_ (i:=7) (N:=none) #[true,true,true,true,true,true,true,true] rfl rfl (one_of HT_.out (by kernel_rfl)) (by decide) (fun K hK=>?_);have hs11:w8.cell? ⟨gb13,0,none⟩=some (.slice none 0 0):=(blk_cell BK13.out 0).trans rfl;have hfs11:=blk_frozen BK13.out 0;have hns11_0:=NB14_13.out;have hms11_0:=NB13_14.out;have hs12:w8.cell? ⟨gb13,1,none⟩=some (.slice none 0 0):=(blk_cell BK13.out 1).trans rfl;have hfs12:=blk_frozen BK13.out 1;have hns12_0:=NB14_13.out;have hms12_0:=NB13_14.out;refine skip_ (w1:=?_) (by rfl) rfl ?_ ?_
 rotate_left
 ·go_simp
  rfl
 refine hK.out _ _ ⟨((cell_far (p:=⟨gb13,_,none⟩) NB14_13.out _).trans (((cell_far (p:=⟨gb13,_,none⟩) NB14_13.out _).trans (hHeld.1)))),((cell_far (p:=⟨gb13,_,none⟩) NB14_13.out _).trans (((cell_far (p:=⟨gb13,_,none⟩) NB14_13.out _).trans (hHeld.2))))⟩ (fun hHeld=>?_);clear hK K;refine done_ (done_of HT_.out (by kernel_rfl)) ?_
 try go_wp2
 refine bodyPost_ret (results_cell_row rfl _ _ gb13 38 #[.slice Ao10 t16.length co10,.slice Ao9 t17.length co9] (0,0) _ rfl (kp BK13) Tryz.underlying38 rfl (by kernel_rfl)) rfl ?_
 exact ⟨_,_,ff,Kd.R_mono (rf (Kd.R_types HO15.out BK13.out (by decide))) (fun _ hk=>trivial),Kd.R_mono (rf (Kd.R_types HO18.out BK13.out (by decide))) (fun _ hk=>trivial),bs HB⟩
theorem slices_Clone_implDiff.calls (A0:Option Addr) (c0:Nat) (l0:List S118) (r:List S118) (w:World) (hr0:Kd.C k118 w A0 l0.length l0) (hc0:l0.length≤c0) (h:slices_Clone_implDiff.f l0=some r) :
  Calls Tryz.prog 80 #[.slice A0 l0.length c0] w fun e w'=>∃ v0_:Value,e=.returned (v0_)∧Kd.R k118 118 w' w.heap.size (fun _=>True) v0_ r∧Below w.heap.size w w':=by
 unfold slices_Clone_implDiff.f at h
 by_cases hl:l0.length<1954687338268
 ·rw [if_pos hl] at h
  obtain rfl:=Option.some.inj h
  cases A0 with
  | none =>
   have h0:l0.length=0:=by
    by_cases g:0<l0.length
    ·obtain ⟨ad,e,_⟩:=hr0.2.2 g
     cases e
    ·omega
   obtain rfl:l0=[]:=List.eq_nil_of_length_eq_zero h0;clear hr0 hl h h0
   have hq:∀ W,(binOp .eql 39 (.slice none 0 c0) (.slice none 0 0)).run Tryz.prog W=.ok (.bool true) W:=fun W=>Lib.run_eql_slice_nil W _ _ none _ _ _ _ Tryz.underlying39
   simp only [List.length_nil]
   go_in
   go_wp2
   go_ret
   exact ⟨_,rfl,Kd.R_nil _ _ _ _ _,Below.refl _ _⟩
  | some a0 =>
   have HB:=am (Below.refl w.heap.size w);have HR0:=am hr0;have HL:=am hl;clear hr0 hl h hc0
   have hq:∀ W,(binOp .eql 39 (.slice (some a0) l0.length c0) (.slice none 0 0)).run Tryz.prog W=.ok (.bool false) W:=fun W=>Lib.run_eql_slice_nil W _ _ (some a0) _ _ _ _ Tryz.underlying39
   go_in
   go_wp2_with (first|((with_reducible refine gate_dst (N:=5) rfl ?_);refine rl k118 118 (N:=5) (xs:=([]:List S118)) (inner:=[]) ?hp ?_;(case hp=>exact (Reps.none _ _));intro v1 w5 ho6 hb hg_ hnew_;clear hg_ hnew_;have HO1:=am (Kd.R_lower ho6 (below_size (bs HB)));replace HB:=bq HB hb;clear hb ho6)|((with_reducible refine gate_builtin (b:=.append) (xs:=#[.tmp 5,.tmp 6]) rfl ?_);at_builtin;refine Kd.R_append_rows k118 (w0:=w) w.heap.size rfl (.tmp 5) (.tmp 6) 39 118 ((.agg #[(.int .i64 0),(.string ⟨#[]⟩),(.string ⟨#[]⟩),(.int .i64 0),(.string ⟨#[]⟩),(.int .i64 0)])) 72 rfl Tryz.underlying39 info118 rfl (by decide) (by omega) v1 [] l0 _ _ _ (fun _=>True) (fun _=>False) rfl rfl ?aO ?aR (fun _ _ h=>h) (fun _ h=>h.elim) ?aF ?aB ?aS ?aL ?_;(case aR=>repeat (first|exact (Kd.C_below HR0.out HB.out)|(with_reducible refine Kd.C_alloc ?_ _)|(with_reducible refine Kd.C_drewN ?_ _)|(with_reducible refine Kd.C_drew ?_)));(case aB=>exact (bs HB));(case aF=>exact (fun _ _=>trivial));(case aO=>exact (rs HO1));(case aS=>exact (below_size (bs HB)));(case aL=>have:=HL.out;simp only [List.length_nil];omega);intro v2 w6 ho hb hg hat;have HO2:=am ho;replace HB:=am hb;clear ho hb hg hat HO1))
   go_ret
   exact ⟨_,rfl,by (with_reducible repeat (first|apply Kd.R_alloc|apply Kd.R_drewN|apply Kd.R_drew));exact HO2.out,bs HB⟩
 ·rw [if_neg hl] at h
  cases h
end Go.Proofs.YtomoflpgdbjojaaGreat.QO
