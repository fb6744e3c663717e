-- Merged by a program of this session (wip/tool/pack.py) out of its own texts for this claim.
import Derived.Test.YtomoflpgdbjojaaGreatKFnExactGatePartner12
set_option maxHeartbeats 8000000
set_option maxRecDepth 100000
set_option linter.unusedSimpArgs false
set_option linter.unusedVariables false
namespace Go.Proofs.YtomoflpgdbjojaaGreat.QO
open Go.RowKit Go.Proofs.YtomoflpgdbjojaaGreatW.PrintWords Go.Proofs.YtomoflpgdbjojaaGreatW.PrintLast Go.Proofs.YtomoflpgdbjojaaGreatW.PrintMore
attribute [local go_sem] max2_int min2_int max_two min_two max_three min_three max_four min_four   -- for this text's walks alone
def GG (b lo hi:Nat) (W:World) (u2 u3 u4 u5 u6 u7:Value) (l2:List S83) (l3:List S114) (l4:List S152) (l5:List S161) (l6:List S118) (l7:List S120):Prop:=Kd.S k83 83 W b (fun k=>lo≤k∧k<hi) u2 l2∧Kd.R k114 114 W b (fun k=>lo≤k∧k<hi) u3 l3∧Kd.R k152 152 W b (fun k=>lo≤k∧k<hi) u4 l4∧Kd.R k161 161 W b (fun k=>lo≤k∧k<hi) u5 l5∧Kd.R k118 118 W b (fun k=>lo≤k∧k<hi) u6 l6∧Kd.R k120 120 W b (fun k=>lo≤k∧k<hi) u7 l7∧hi≤W.heap.size
section
variable {b lo hi : Nat} {W W2 : World} {u2 u3 u4 u5 u6 u7 : Value} {l2 : List S83} {l3 : List S114} {l4 : List S152} {l5 : List S161} {l6 : List S118} {l7 : List S120}
theorem GG.top (h:GG b lo hi W u2 u3 u4 u5 u6 u7 l2 l3 l4 l5 l6 l7):hi≤W.heap.size:=h.2.2.2.2.2.2
theorem GG.step (h:GG b lo hi W u2 u3 u4 u5 u6 u7 l2 l3 l4 l5 l6 l7) (hs:W.heap.size≤W2.heap.size) (hm:∀ k,lo≤k→k<hi→W2.heap[k]? = W.heap[k]?):GG b lo hi W2 u2 u3 u4 u5 u6 u7 l2 l3 l4 l5 l6 l7:=⟨Kd.S_move h.1 (fun k q=>hm k q.1 q.2),Kd.R_move h.2.1 (fun k q=>hm k q.1 q.2),Kd.R_move h.2.2.1 (fun k q=>hm k q.1 q.2),Kd.R_move h.2.2.2.1 (fun k q=>hm k q.1 q.2),Kd.R_move h.2.2.2.2.1 (fun k q=>hm k q.1 q.2),Kd.R_move h.2.2.2.2.2.1 (fun k q=>hm k q.1 q.2),Nat.le_trans h.top hs⟩
theorem GG.below (h:GG b lo hi W u2 u3 u4 u5 u6 u7 l2 l3 l4 l5 l6 l7) (hb:Below W.heap.size W W2):GG b lo hi W2 u2 u3 u4 u5 u6 u7 l2 l3 l4 l5 l6 l7:=h.step hb.size (fun k _ q=>hb.block k (Nat.lt_of_lt_of_le q h.top))
theorem GG.kept {S:Nat→Prop} (h:GG b lo hi W u2 u3 u4 u5 u6 u7 l2 l3 l4 l5 l6 l7) (hk:Kept W W2 S) (hn:∀ k,lo≤k→k<hi→¬ S k):GG b lo hi W2 u2 u3 u4 u5 u6 u7 l2 l3 l4 l5 l6 l7:=h.step hk.1 (fun k p q=>hk.2 k (Nat.lt_of_lt_of_le q h.top) (hn k p q))
theorem GG.drew (h:GG b lo hi W u2 u3 u4 u5 u6 u7 l2 l3 l4 l5 l6 l7):GG b lo hi W.drew u2 u3 u4 u5 u6 u7 l2 l3 l4 l5 l6 l7:=h.step (Nat.le_refl _) (fun _ _ _=>rfl)
theorem GG.make (hb:b≤W.heap.size) (h2:Kd.S k83 83 W2 W.heap.size (fun _=>True) u2 l2) (h3:Kd.R k114 114 W2 W.heap.size (fun _=>True) u3 l3) (h4:Kd.R k152 152 W2 W.heap.size (fun _=>True) u4 l4) (h5:Kd.R k161 161 W2 W.heap.size (fun _=>True) u5 l5) (h6:Kd.R k118 118 W2 W.heap.size (fun _=>True) u6 l6) (h7:Kd.R k120 120 W2 W.heap.size (fun _=>True) u7 l7):GG b W.heap.size W2.heap.size W2 u2 u3 u4 u5 u6 u7 l2 l3 l4 l5 l6 l7:=⟨Kd.S_lower (Kd.S_mono (Kd.S_bound h2) (fun _ q=>⟨q.2.1,q.2.2.1⟩)) hb,Kd.R_lower (Kd.R_mono (Kd.R_bound h3) (fun _ q=>⟨q.2.1,q.2.2.1⟩)) hb,Kd.R_lower (Kd.R_mono (Kd.R_bound h4) (fun _ q=>⟨q.2.1,q.2.2.1⟩)) hb,Kd.R_lower (Kd.R_mono (Kd.R_bound h5) (fun _ q=>⟨q.2.1,q.2.2.1⟩)) hb,Kd.R_lower (Kd.R_mono (Kd.R_bound h6) (fun _ q=>⟨q.2.1,q.2.2.1⟩)) hb,Kd.R_lower (Kd.R_mono (Kd.R_bound h7) (fun _ q=>⟨q.2.1,q.2.2.1⟩)) hb,Nat.le_refl _⟩
theorem GG.c2 {A:Option Addr} {n c:Nat} (h:GG b lo hi W (.slice A n c) u3 u4 u5 u6 u7 l2 l3 l4 l5 l6 l7):Kd.C k83 W A l2.length l2:=(Kd.S_reads' h.1).2.2
theorem GG.e2 {A:Option Addr} {n c:Nat} (h:GG b lo hi W (.slice A n c) u3 u4 u5 u6 u7 l2 l3 l4 l5 l6 l7):l2.length=n:=(Kd.S_reads' h.1).1.symm
theorem GG.d2 {A:Option Addr} {n c:Nat} (h:GG b lo hi W (.slice A n c) u3 u4 u5 u6 u7 l2 l3 l4 l5 l6 l7):l2.length≤c:=by
 rw [h.e2]
 exact (Kd.S_reads' h.1).2.1
theorem GG.c3 {A:Option Addr} {n c:Nat} (h:GG b lo hi W u2 (.slice A n c) u4 u5 u6 u7 l2 l3 l4 l5 l6 l7):Kd.C k114 W A l3.length l3:=(Kd.R_reads' (h.2.1)).2.2
theorem GG.e3 {A:Option Addr} {n c:Nat} (h:GG b lo hi W u2 (.slice A n c) u4 u5 u6 u7 l2 l3 l4 l5 l6 l7):l3.length=n:=(Kd.R_reads' (h.2.1)).1.symm
theorem GG.d3 {A:Option Addr} {n c:Nat} (h:GG b lo hi W u2 (.slice A n c) u4 u5 u6 u7 l2 l3 l4 l5 l6 l7):l3.length≤c:=by
 rw [h.e3]
 exact (Kd.R_reads' (h.2.1)).2.1
theorem GG.c4 {A:Option Addr} {n c:Nat} (h:GG b lo hi W u2 u3 (.slice A n c) u5 u6 u7 l2 l3 l4 l5 l6 l7):Kd.C k152 W A l4.length l4:=(Kd.R_reads' (h.2.2.1)).2.2
theorem GG.e4 {A:Option Addr} {n c:Nat} (h:GG b lo hi W u2 u3 (.slice A n c) u5 u6 u7 l2 l3 l4 l5 l6 l7):l4.length=n:=(Kd.R_reads' (h.2.2.1)).1.symm
theorem GG.d4 {A:Option Addr} {n c:Nat} (h:GG b lo hi W u2 u3 (.slice A n c) u5 u6 u7 l2 l3 l4 l5 l6 l7):l4.length≤c:=by
 rw [h.e4]
 exact (Kd.R_reads' (h.2.2.1)).2.1
theorem GG.c5 {A:Option Addr} {n c:Nat} (h:GG b lo hi W u2 u3 u4 (.slice A n c) u6 u7 l2 l3 l4 l5 l6 l7):Kd.C k161 W A l5.length l5:=(Kd.R_reads' (h.2.2.2.1)).2.2
theorem GG.e5 {A:Option Addr} {n c:Nat} (h:GG b lo hi W u2 u3 u4 (.slice A n c) u6 u7 l2 l3 l4 l5 l6 l7):l5.length=n:=(Kd.R_reads' (h.2.2.2.1)).1.symm
theorem GG.d5 {A:Option Addr} {n c:Nat} (h:GG b lo hi W u2 u3 u4 (.slice A n c) u6 u7 l2 l3 l4 l5 l6 l7):l5.length≤c:=by
 rw [h.e5]
 exact (Kd.R_reads' (h.2.2.2.1)).2.1
theorem GG.c6 {A:Option Addr} {n c:Nat} (h:GG b lo hi W u2 u3 u4 u5 (.slice A n c) u7 l2 l3 l4 l5 l6 l7):Kd.C k118 W A l6.length l6:=(Kd.R_reads' (h.2.2.2.2.1)).2.2
theorem GG.e6 {A:Option Addr} {n c:Nat} (h:GG b lo hi W u2 u3 u4 u5 (.slice A n c) u7 l2 l3 l4 l5 l6 l7):l6.length=n:=(Kd.R_reads' (h.2.2.2.2.1)).1.symm
theorem GG.d6 {A:Option Addr} {n c:Nat} (h:GG b lo hi W u2 u3 u4 u5 (.slice A n c) u7 l2 l3 l4 l5 l6 l7):l6.length≤c:=by
 rw [h.e6]
 exact (Kd.R_reads' (h.2.2.2.2.1)).2.1
theorem GG.c7 {A:Option Addr} {n c:Nat} (h:GG b lo hi W u2 u3 u4 u5 u6 (.slice A n c) l2 l3 l4 l5 l6 l7):Kd.C k120 W A l7.length l7:=(Kd.R_reads' (h.2.2.2.2.2.1)).2.2
theorem GG.e7 {A:Option Addr} {n c:Nat} (h:GG b lo hi W u2 u3 u4 u5 u6 (.slice A n c) l2 l3 l4 l5 l6 l7):l7.length=n:=(Kd.R_reads' (h.2.2.2.2.2.1)).1.symm
theorem GG.d7 {A:Option Addr} {n c:Nat} (h:GG b lo hi W u2 u3 u4 u5 u6 (.slice A n c) l2 l3 l4 l5 l6 l7):l7.length≤c:=by
 rw [h.e7]
 exact (Kd.R_reads' (h.2.2.2.2.2.1)).2.1
end
theorem box8 {W W2:World} {g:Nat} {t:TypeId} {z0 z1 z2 z3 z4 z5 z6 z7 v0 v1 v2 v3 v4 v5 v6 v7:Value} (h:W.heap[g]? = some (.cells #[z0,z1,z2,z3,z4,z5,z6,z7] t (0,0))) (hw:W2=((((((((W.setCell ⟨g,0,none⟩ v0).setCell ⟨g,1,none⟩ v1).setCell ⟨g,2,none⟩ v2).setCell ⟨g,3,none⟩ v3).setCell ⟨g,4,none⟩ v4).setCell ⟨g,5,none⟩ v5).setCell ⟨g,6,none⟩ v6).setCell ⟨g,7,none⟩ v7)):W2.heap[g]? = some (.cells #[v0,v1,v2,v3,v4,v5,v6,v7] t (0,0))∧Kept W W2 (fun k=>k=g)∧∀ w:World,Below w.heap.size w W→w.heap.size≤g→Below w.heap.size w W2:=by
 subst hw;refine ⟨kp ⟨h⟩,?_,fun w hb hg=>?_⟩
 ·refine Kept.setCell (Kept.setCell (Kept.setCell (Kept.setCell (Kept.setCell (Kept.setCell (Kept.setCell (Kept.setCell (Kept.refl W _) ?_ _) ?_ _) ?_ _) ?_ _) ?_ _) ?_ _) ?_ _) ?_ _
  all_goals exact Or.inl rfl
 ·exact below_set (below_set (below_set (below_set (below_set (below_set (below_set (below_set hb hg) hg) hg) hg) hg) hg) hg) hg
theorem kept14 {W:World} {g:Nat} {v0 v1 v2 v3 v4 v5 v6 v7 v8 v9 v10 v11 v12 v13:Value} : Kept W ((((((((((((((W.setCell ⟨g,0,none⟩ v0).setCell ⟨g,1,none⟩ v1).setCell ⟨g,2,none⟩ v2).setCell ⟨g,3,none⟩ v3).setCell ⟨g,4,none⟩ v4).setCell ⟨g,5,none⟩ v5).setCell ⟨g,6,none⟩ v6).setCell ⟨g,7,none⟩ v7).setCell ⟨g,8,none⟩ v8).setCell ⟨g,9,none⟩ v9).setCell ⟨g,10,none⟩ v10).setCell ⟨g,11,none⟩ v11).setCell ⟨g,12,none⟩ v12).setCell ⟨g,13,none⟩ v13) (fun k=>k=g):=Kept.setCell (p:=⟨g,13,none⟩) (Kept.setCell (p:=⟨g,12,none⟩) (Kept.setCell (p:=⟨g,11,none⟩) (Kept.setCell (p:=⟨g,10,none⟩) (Kept.setCell (p:=⟨g,9,none⟩) (Kept.setCell (p:=⟨g,8,none⟩) (Kept.setCell (p:=⟨g,7,none⟩) (Kept.setCell (p:=⟨g,6,none⟩) (Kept.setCell (p:=⟨g,5,none⟩) (Kept.setCell (p:=⟨g,4,none⟩) (Kept.setCell (p:=⟨g,3,none⟩) (Kept.setCell (p:=⟨g,2,none⟩) (Kept.setCell (p:=⟨g,1,none⟩) (Kept.setCell (p:=⟨g,0,none⟩) (Kept.refl W (fun k=>k=g)) (Or.inl rfl) v0) (Or.inl rfl) v1) (Or.inl rfl) v2) (Or.inl rfl) v3) (Or.inl rfl) v4) (Or.inl rfl) v5) (Or.inl rfl) v6) (Or.inl rfl) v7) (Or.inl rfl) v8) (Or.inl rfl) v9) (Or.inl rfl) v10) (Or.inl rfl) v11) (Or.inl rfl) v12) (Or.inl rfl) v13
def spec_GatePartner.TA:Bool × List (List Nat × List Nat):=(true,[([],[]),([0],[0]),([],[]),([2],[2]),([3],[3]),([1,4,3],[1,4]),([0,1,2,3,4,5],[]),([6,5,5,0,1,2,3,4,5],[5,6])])
def spec_GatePartner.BA:List Nat:=[0,1,0,4,12,31,63,127]
def spec_GatePartner.TB:Bool × List (List Nat × List Nat):=(true,[([],[]),([0],[0]),([],[]),([2],[2]),([],[]),([3,4],[3,4]),([5],[5]),([6],[6]),([7],[7]),([1,8,7],[1,8]),([0,1,2,3,4,5,6,7,8,9],[]),([10,9,9,0,1,2,3,4,5,6,7,8,9],[9,10])])
def spec_GatePartner.BB:List Nat:=[0,1,0,4,0,28,60,124,252,511,1023,2047]
theorem spec_PartnerNew.calls1 (k:Nat) (a0:ByteArray) (w:World) (h:spec_l01Name.f k a0=some true) :
  Calls Tryz.prog 50 #[.string a0] w fun e w'=>e=.returned (.agg #[.string a0,.int .i64 1,.int .i64 1,.slice none 0 0])∧Below w.heap.size w w':=by
 have hu:=Tryz.underlying83;have HB:=Aside0.mk (Below.refl w.heap.size w);have HN:=Aside0.mk h;clear h
 go_enter Tryz.func50,Tryz.ntmps50
 go_wp2_with (first|((with_reducible refine gate_dst (N:=2) rfl ?_);refine bx 2 (cs:=#[.string (⟨#[]⟩:ByteArray),.int .i64 0,.int .i64 0,.slice none 0 0]) (t:=83) ?_;intro gb hg wa hbox hb;have BK:=Aside0.mk hbox;have GE:=Aside0.mk (gs hg (bs HB));replace HB:=Aside0.mk (below_step (bs HB) hb);clear hb hbox hg;have z:=cf4 BK)|(go_at_call 48;(with_reducible refine (spec_l01Name.calls k a0 true _ HN.out).mono ?_);rintro e w' ⟨rfl,⟨nd,rfl⟩⟩))
 refine bodyPost_ret (results_cell_row rfl _ _ gb 83 #[.string a0,.int .i64 1,.int .i64 1,.slice none 0 0] (0,0) _ rfl (kp BK) Tryz.underlying83 rfl (by kernel_rfl)) rfl ?_
 exact ⟨ff,bs HB⟩
theorem spec_GatePartner.calls (k:Nat) (a0_0:ByteArray) (a0_1:Int) (A0_2:Option Addr) (c0_2:Nat) (l0_2:List S83) (A0_3:Option Addr) (c0_3:Nat) (l0_3:List S114) (A0_4:Option Addr) (c0_4:Nat) (l0_4:List S152) (A0_5:Option Addr) (c0_5:Nat) (l0_5:List S161) (A0_6:Option Addr) (c0_6:Nat) (l0_6:List S118) (A0_7:Option Addr) (c0_7:Nat) (l0_7:List S120) (a1:ByteArray) (r1:ByteArray) (r2:Int) (r3:List S83) (r4:List S114) (r5:List S152) (r6:List S161) (r7:List S118) (r8:List S120) (r9:ByteArray) (r10 r11 r12 r13 r14:Int) (w:World) (hr0_2:Kd.C k83 w A0_2 l0_2.length l0_2) (hc0_2:l0_2.length≤c0_2) (hr0_3:Kd.C k114 w A0_3 l0_3.length l0_3) (hc0_3:l0_3.length≤c0_3) (hr0_4:Kd.C k152 w A0_4 l0_4.length l0_4) (hc0_4:l0_4.length≤c0_4) (hr0_5:Kd.C k161 w A0_5 l0_5.length l0_5) (hc0_5:l0_5.length≤c0_5) (hr0_6:Kd.C k118 w A0_6 l0_6.length l0_6) (hc0_6:l0_6.length≤c0_6) (hr0_7:Kd.C k120 w A0_7 l0_7.length l0_7) (hc0_7:l0_7.length≤c0_7) (H:spec_GatePartner.f k a0_0 a0_1 l0_2 l0_3 l0_4 l0_5 l0_6 l0_7 a1=some (r1,r2,r3,r4,r5,r6,r7,r8,r9,r10,r11,r12,r13,r14)) :
  Calls Tryz.prog 12 #[.agg #[.string a0_0,.int .i64 a0_1,.slice A0_2 l0_2.length c0_2,.slice A0_3 l0_3.length c0_3,.slice A0_4 l0_4.length c0_4,.slice A0_5 l0_5.length c0_5,.slice A0_6 l0_6.length c0_6,.slice A0_7 l0_7.length c0_7],.string a1] w fun e w'=>∃ v2_ v3_ v4_ v5_ v6_ v7_:Value,e=.returned (.agg #[.string r1,.int .i64 r2,v2_,v3_,v4_,v5_,v6_,v7_,.string r9,.int .i64 r10,.int .i64 r11,.int .i64 r12,.int .i64 r13,.int .i64 r14])∧Kd.S k83 83 w' w.heap.size (fun _=>True) v2_ r3∧Kd.R k114 114 w' w.heap.size (fun _=>True) v3_ r4∧Kd.R k152 152 w' w.heap.size (fun _=>True) v4_ r5∧Kd.R k161 161 w' w.heap.size (fun _=>True) v5_ r6∧Kd.R k118 118 w' w.heap.size (fun _=>True) v6_ r7∧Kd.R k120 120 w' w.heap.size (fun _=>True) v7_ r8∧Below w.heap.size w w':=by
 have hu:=Tryz.underlying42;have hu2:=Tryz.underlying49;have hu3:=Tryz.underlying83;have hu4:=Tryz.underlying33;have hu9:=Tryz.underlying9;have HR2:=am hr0_2;have HC2:=am hc0_2;clear hr0_2 hc0_2;have HR3:=am hr0_3;have HC3:=am hc0_3;clear hr0_3 hc0_3;have HR4:=am hr0_4;have HC4:=am hc0_4;clear hr0_4 hc0_4;have HR5:=am hr0_5;have HC5:=am hc0_5;clear hr0_5 hc0_5;have HR6:=am hr0_6;have HC6:=am hc0_6;clear hr0_6 hc0_6;have HR7:=am hr0_7;have HC7:=am hc0_7;clear hr0_7 hc0_7;have HB:=am (Below.refl w.heap.size w);unfold spec_GatePartner.f at H
 revert H;refine ip2 ?_ ?_
 ·intro c6 H;have c6b0:decide (20000<(a1.size:Int))=true:=decide_eq_true c6;have c6b1:decide (20000<a1.size)=true:=decide_eq_true (by omega);clear c6
  go_in;(try go_wp2_with (first|((with_reducible refine gate_dst (N:=2) rfl ?_);refine bx 2 (cs:=#[.string a0_0,.int .i64 a0_1,.slice A0_2 l0_2.length c0_2,.slice A0_3 l0_3.length c0_3,.slice A0_4 l0_4.length c0_4,.slice A0_5 l0_5.length c0_5,.slice A0_6 l0_6.length c0_6,.slice A0_7 l0_7.length c0_7]) (t:=42) ?_;intro g2 hg wa hbox hb;have B2:=am hbox;have E2:=am (gs hg (bs HB));replace HB:=bq HB hb;clear hb hbox hg)|((with_reducible refine gate_dst (N:=4) rfl ?_);refine bx 4 (cs:=#[.string (⟨#[]⟩:ByteArray),.int .i64 0,.slice none 0 0,.slice none 0 0,.slice none 0 0,.slice none 0 0,.slice none 0 0,.slice none 0 0,.string (⟨#[]⟩:ByteArray),.int .i64 0,.int .i64 0,.int .i64 0,.int .i64 0,.int .i64 0]) (t:=49) ?_;intro g4 hg wb hbox hb;have B4:=am hbox;have E4:=am (gs hg (bs HB));replace HB:=bq HB hb;have N42:=am (gm hg (ks B2));have N24:=am (gn hg (ks B2));replace B2:=am (blk_below (ks B2) hb);clear hb hbox hg;have z2:=cf8 B2;have z4:=cf14 B4;have n24:=N24.out;have n42:=N42.out)))
  ·replace H:=sj14 H;obtain ⟨rfl,rfl,rfl,rfl,rfl,rfl,rfl,rfl,rfl,rfl,rfl,rfl,rfl,rfl⟩:=H
   try go_wp2
   refine bodyPost_ret (results_cell_row rfl _ _ g4 49 #[.string (⟨#[]⟩:ByteArray),.int .i64 0,.slice none 0 0,.slice none 0 0,.slice none 0 0,.slice none 0 0,.slice none 0 0,.slice none 0 0,.string (⟨#[]⟩:ByteArray),.int .i64 0,.int .i64 0,.int .i64 0,.int .i64 0,.int .i64 2] (0,0) _ rfl (kp B4) Tryz.underlying49 rfl (by kernel_rfl)) rfl ?_
   exact ⟨_,_,_,_,_,_,ff,Kd.S_nil _ _ _ _ _,Kd.R_nil _ _ _ _ _,Kd.R_nil _ _ _ _ _,Kd.R_nil _ _ _ _ _,Kd.R_nil _ _ _ _ _,Kd.R_nil _ _ _ _ _,bs HB⟩
 intro c6 H;have c6b0:decide (20000<(a1.size:Int))=false:=decide_eq_false c6;have c6b1:decide (20000<a1.size)=false:=decide_eq_false (by omega);clear c6;replace H:=bo H;obtain ⟨t,A1,H⟩:=H
 go_in;(try go_wp2_with (first|((with_reducible refine gate_dst (N:=2) rfl ?_);refine bx 2 (cs:=#[.string a0_0,.int .i64 a0_1,.slice A0_2 l0_2.length c0_2,.slice A0_3 l0_3.length c0_3,.slice A0_4 l0_4.length c0_4,.slice A0_5 l0_5.length c0_5,.slice A0_6 l0_6.length c0_6,.slice A0_7 l0_7.length c0_7]) (t:=42) ?_;intro g2 hg wa hbox hb;have B2:=am hbox;have E2:=am (gs hg (bs HB));replace HB:=bq HB hb;clear hb hbox hg)|((with_reducible refine gate_dst (N:=4) rfl ?_);refine bx 4 (cs:=#[.string (⟨#[]⟩:ByteArray),.int .i64 0,.slice none 0 0,.slice none 0 0,.slice none 0 0,.slice none 0 0,.slice none 0 0,.slice none 0 0,.string (⟨#[]⟩:ByteArray),.int .i64 0,.int .i64 0,.int .i64 0,.int .i64 0,.int .i64 0]) (t:=49) ?_;intro g4 hg wb hbox hb;have B4:=am hbox;have E4:=am (gs hg (bs HB));replace HB:=bq HB hb;have N42:=am (gm hg (ks B2));have N24:=am (gn hg (ks B2));replace B2:=am (blk_below (ks B2) hb);clear hb hbox hg;have z2:=cf8 B2;have z4:=cf14 B4;have n24:=N24.out;have n42:=N42.out)))
 go_at_call 23;refine (spec_GateRight.calls k a0_0 a0_1 _ _ l0_2 _ _ l0_3 _ _ l0_4 _ _ l0_5 _ _ l0_6 _ _ l0_7 t _ (Kd.C_below HR2.out (bs HB)) HC2.out (Kd.C_below HR3.out (bs HB)) HC3.out (Kd.C_below HR4.out (bs HB)) HC4.out (Kd.C_below HR5.out (bs HB)) HC5.out (Kd.C_below HR6.out (bs HB)) HC6.out (Kd.C_below HR7.out (bs HB)) HC7.out A1.out).mono ?_;rintro e wd ⟨rfl,hb⟩;replace B2:=am (blk_below (ks B2) hb);replace B4:=am (blk_below (ks B4) hb);replace HB:=bq HB hb;clear hb z2 z4;have z2:=cf8 B2;have z4:=cf14 B4
 obtain rfl|rfl:=bt t;rotate_left
 ·replace H:=itF H
  ·replace H:=sj14 H;obtain ⟨rfl,rfl,rfl,rfl,rfl,rfl,rfl,rfl,rfl,rfl,rfl,rfl,rfl,rfl⟩:=H
   try go_wp2
   refine bodyPost_ret (results_cell_row rfl _ _ g4 49 #[.string (⟨#[]⟩:ByteArray),.int .i64 0,.slice none 0 0,.slice none 0 0,.slice none 0 0,.slice none 0 0,.slice none 0 0,.slice none 0 0,.string (⟨#[]⟩:ByteArray),.int .i64 0,.int .i64 0,.int .i64 0,.int .i64 0,.int .i64 1] (0,0) _ rfl (kp B4) Tryz.underlying49 rfl (by kernel_rfl)) rfl ?_
   exact ⟨_,_,_,_,_,_,ff,Kd.S_nil _ _ _ _ _,Kd.R_nil _ _ _ _ _,Kd.R_nil _ _ _ _ _,Kd.R_nil _ _ _ _ _,Kd.R_nil _ _ _ _ _,Kd.R_nil _ _ _ _ _,bs HB⟩
 replace H:=itT H;replace H:=bo H;obtain ⟨u,A2,H⟩:=H
 try go_wp2_with (fail)
 go_at_call 48;(with_reducible refine (spec_l01Name.calls k a1 u _ A2.out).mono ?_);rintro e w' ⟨rfl,⟨nd3,rfl⟩⟩;replace B2:=am (blk_drewN B2.out nd3);replace B4:=am (blk_drewN B4.out nd3);replace HB:=am (pw_below_drewN HB.out nd3);clear z2 z4;generalize wd.drewN nd3=wd2 at B2 B4 HB ⊢;have z2:=cf8 B2;have z4:=cf14 B4
 obtain rfl|rfl:=bt u;rotate_left
 ·replace H:=itF H
  ·replace H:=sj14 H;obtain ⟨rfl,rfl,rfl,rfl,rfl,rfl,rfl,rfl,rfl,rfl,rfl,rfl,rfl,rfl⟩:=H
   try go_wp2
   refine bodyPost_ret (results_cell_row rfl _ _ g4 49 #[.string (⟨#[]⟩:ByteArray),.int .i64 0,.slice none 0 0,.slice none 0 0,.slice none 0 0,.slice none 0 0,.slice none 0 0,.slice none 0 0,.string (⟨#[]⟩:ByteArray),.int .i64 0,.int .i64 0,.int .i64 0,.int .i64 0,.int .i64 1] (0,0) _ rfl (kp B4) Tryz.underlying49 rfl (by kernel_rfl)) rfl ?_
   exact ⟨_,_,_,_,_,_,ff,Kd.S_nil _ _ _ _ _,Kd.R_nil _ _ _ _ _,Kd.R_nil _ _ _ _ _,Kd.R_nil _ _ _ _ _,Kd.R_nil _ _ _ _ _,Kd.R_nil _ _ _ _ _,bs HB⟩
 replace H:=itT H;replace H:=bo H;obtain ⟨z,A3,H⟩:=H
 try go_wp2_with (fail)
 go_at_call 49;refine (spec_l13Find.calls k a0_0 a0_1 _ _ l0_2 _ _ l0_3 _ _ l0_4 _ _ l0_5 _ _ l0_6 _ _ l0_7 a1 z _ (Kd.C_below HR2.out (bs HB)) HC2.out (Kd.C_below HR3.out (bs HB)) HC3.out (Kd.C_below HR4.out (bs HB)) HC4.out (Kd.C_below HR5.out (bs HB)) HC5.out (Kd.C_below HR6.out (bs HB)) HC6.out (Kd.C_below HR7.out (bs HB)) HC7.out A3.out).mono ?_;rintro e we ⟨rfl,hb⟩;replace B2:=am (blk_below (ks B2) hb);replace B4:=am (blk_below (ks B4) hb);replace HB:=bq HB hb;clear hb z2 z4;have z2:=cf8 B2;have z4:=cf14 B4
 revert H;refine id2 ?_ ?_
 ·intro c7 H
  ·replace H:=sj14 H;obtain ⟨rfl,rfl,rfl,rfl,rfl,rfl,rfl,rfl,rfl,rfl,rfl,rfl,rfl,rfl⟩:=H
   try go_wp2
   refine bodyPost_ret (results_cell_row rfl _ _ g4 49 #[.string (⟨#[]⟩:ByteArray),.int .i64 0,.slice none 0 0,.slice none 0 0,.slice none 0 0,.slice none 0 0,.slice none 0 0,.slice none 0 0,.string (⟨#[]⟩:ByteArray),.int .i64 0,.int .i64 0,.int .i64 0,.int .i64 0,.int .i64 11] (0,0) _ rfl (kp B4) Tryz.underlying49 rfl (by kernel_rfl)) rfl ?_
   exact ⟨_,_,_,_,_,_,ff,Kd.S_nil _ _ _ _ _,Kd.R_nil _ _ _ _ _,Kd.R_nil _ _ _ _ _,Kd.R_nil _ _ _ _ _,Kd.R_nil _ _ _ _ _,Kd.R_nil _ _ _ _ _,bs HB⟩
 intro c7 H;revert H;refine id2 ?_ ?_
 ·intro c8 H
  ·replace H:=sj14 H;obtain ⟨rfl,rfl,rfl,rfl,rfl,rfl,rfl,rfl,rfl,rfl,rfl,rfl,rfl,rfl⟩:=H
   try go_wp2
   refine bodyPost_ret (results_cell_row rfl _ _ g4 49 #[.string (⟨#[]⟩:ByteArray),.int .i64 0,.slice none 0 0,.slice none 0 0,.slice none 0 0,.slice none 0 0,.slice none 0 0,.slice none 0 0,.string (⟨#[]⟩:ByteArray),.int .i64 0,.int .i64 0,.int .i64 0,.int .i64 0,.int .i64 12] (0,0) _ rfl (kp B4) Tryz.underlying49 rfl (by kernel_rfl)) rfl ?_
   exact ⟨_,_,_,_,_,_,ff,Kd.S_nil _ _ _ _ _,Kd.R_nil _ _ _ _ _,Kd.R_nil _ _ _ _ _,Kd.R_nil _ _ _ _ _,Kd.R_nil _ _ _ _ _,Kd.R_nil _ _ _ _ _,bs HB⟩
 intro c8 H;replace H:=bo H;obtain ⟨⟨n2,d2,m2,m3,m4,m5,m6,m7⟩,A5,H⟩:=H;dsimp only at H;replace H:=bo H;obtain ⟨⟨xq,dq⟩,A6,H⟩:=H;dsimp only at H;have H2:=am H;clear H
 try go_wp2_with (fail)
 go_at_call 22;refine (spec_l13Copy.calls k a0_0 a0_1 _ _ l0_2 _ _ l0_3 _ _ l0_4 _ _ l0_5 _ _ l0_6 _ _ l0_7 n2 d2 m2 m3 m4 m5 m6 m7 _ (Kd.C_below HR2.out (bs HB)) HC2.out (Kd.C_below HR3.out (bs HB)) HC3.out (Kd.C_below HR4.out (bs HB)) HC4.out (Kd.C_below HR5.out (bs HB)) HC5.out (Kd.C_below HR6.out (bs HB)) HC6.out (Kd.C_below HR7.out (bs HB)) HC7.out A5.out).mono ?_;rintro e wf ⟨v2,v3,v4,v5,v6,v7,rfl,q2,q3,q4,q5,q6,q7,hb⟩;obtain ⟨A2m,c2m,e_⟩:=Kd.S_slice q2;subst e_;obtain ⟨A3m,c3m,e_⟩:=Kd.R_slice q3;subst e_;obtain ⟨A4m,c4m,e_⟩:=Kd.R_slice q4;subst e_;obtain ⟨A5m,c5m,e_⟩:=Kd.R_slice q5;subst e_;obtain ⟨A6m,c6m,e_⟩:=Kd.R_slice q6;subst e_;obtain ⟨A7m,c7m,e_⟩:=Kd.R_slice q7;subst e_;have D2:=am (blk_lt B2.out);have D4:=am (blk_lt B4.out);have J:=am (GG.make HB.out.size q2 q3 q4 q5 q6 q7);have LH:=am hb.size;clear q2 q3 q4 q5 q6 q7;(try clear z2);(try clear z4)
 replace B2:=am (blk_below (ks B2) hb);replace B4:=am (blk_below (ks B4) hb);replace HB:=bq HB hb;clear hb;generalize we.heap.size=lo at J D2 D4 LH;generalize wf.heap.size=hi at J LH;have z2:=cf8 B2;have z4:=cf14 B4
 try go_wp2_with (first|((with_reducible refine gate_dst (N:=5) rfl ?_);refine bx 5 (cs:=#[.string (⟨#[]⟩:ByteArray),.int .i64 0,.slice none 0 0,.slice none 0 0,.slice none 0 0,.slice none 0 0,.slice none 0 0,.slice none 0 0]) (t:=42) ?_;intro g5 hg wg hbox hb;have F5:=am (show hi≤g5 from by rw [hg];exact J.out.top);have S5:=am (show g5<wg.heap.size from blk_lt hbox);replace J:=am (J.out.below hb);have B5:=am hbox;have E5:=am (gs hg (bs HB));replace HB:=bq HB hb;replace B2:=am (blk_below (ks B2) hb);replace B4:=am (blk_below (ks B4) hb);clear hb hbox hg z2 z4;have z2:=cf8 B2;have z4:=cf14 B4;have z5:=cf8 B5)|((with_reducible refine gate_store (t:=42) (p:=5) rfl ?_);refine store_event (t:=42) (p:=5) (v:=?vo5) (w1:=((((((((wg.setCell ⟨g5,0,none⟩ ((.string n2))).setCell ⟨g5,1,none⟩ ((.int .i64 d2))).setCell ⟨g5,2,none⟩ ((.slice A2m m2.length c2m))).setCell ⟨g5,3,none⟩ ((.slice A3m m3.length c3m))).setCell ⟨g5,4,none⟩ ((.slice A4m m4.length c4m))).setCell ⟨g5,5,none⟩ ((.slice A5m m5.length c5m))).setCell ⟨g5,6,none⟩ ((.slice A6m m6.length c6m))).setCell ⟨g5,7,none⟩ ((.slice A7m m7.length c7m)))) ?hg ?ho ?hn ?hr ?_;(case ho=>rfl);(case hg=>rfl);(case hn=>rfl);(case hr=>first|(go_simp;done)|(go_simp;rfl));intro wh hw;clear z2 z4 z5;obtain ⟨hx,hk,hB⟩:=box8 B5.out hw;clear hw;replace HB:=am (hB _ HB.out E5.out);replace J:=am (J.out.kept hk (fun k_ _ p_ e_=>by have:=F5.out;omega));replace B2:=am (blk_kept B2.out hk (fun e_=>by have:=F5.out;have:=LH.out;have:=D2.out;omega));replace B4:=am (blk_kept B4.out hk (fun e_=>by have:=F5.out;have:=LH.out;have:=D4.out;omega));replace B5:=am hx;have Q5:=am (Nat.lt_of_lt_of_le S5.out hk.1);have T0:=am (Nat.le_refl wh.heap.size);clear hx hk hB S5;have z2:=cf8 B2;have z4:=cf14 B4;have z5:=cf8 B5)|((with_reducible refine gate_dst (N:=33) rfl ?_);refine Kd.S_lit k83 _ 83 ?hg (N:=33) ?hd (xs:=([]:List S83)) (inner:=[]) (ok:=fun _=>True) (okp:=fun _=>True) ?hr ?hp (fun _ hk=>hk) trivial (Below.refl _ _) (Nat.le_refl _) (by simp) ?_;(case hd=>rfl);(case hg=>rfl);(case hr=>first|(go_simp;done)|(go_simp;rfl));(case hp=>exact (Reps.none _ _));intro vy wi ho hb hg_ hn_;clear hg_ hn_;obtain ⟨Ay,cy,ey⟩:=Kd.S_slice ho;subst ey;have Y:=am (Kd.S_lower (Kd.S_mono (ok':=fun k_=>wh.heap.size≤k_) (Kd.S_bound ho) (fun _ q=>q.2.1)) HB.out.size);clear ho z2 z4 z5;replace J:=am (J.out.below hb);replace B2:=am (blk_below (ks B2) hb);replace B4:=am (blk_below (ks B4) hb);replace B5:=am (blk_below (ks B5) hb);replace T0:=am (Nat.le_trans T0.out hb.size);replace HB:=bq HB hb;clear hb;generalize wh.heap.size=s0 at Y Q5 T0;have z2:=cf8 B2;have z4:=cf14 B4;have z5:=cf8 B5))
 obtain ⟨wl,hw⟩:∃ W,W=wi.setCell ⟨g5,2,none⟩ (.slice Ay 0 cy):=⟨_,rfl⟩;rw [← hw];clear z2 z4 z5;have hk:Kept wi wl (fun k_=>k_=g5):=(by rw [hw];exact Kept.setCell (p:=⟨g5,2,none⟩) (S:=fun k_=>k_=g5) (Kept.refl _ _) (Or.inl rfl) _);replace HB:=am (show Below w.heap.size w wl from by rw [hw];exact below_set HB.out E5.out);replace J:=am (J.out.kept hk (fun k_ _ p_ e_=>by have:=F5.out;omega));replace B2:=am (blk_kept B2.out hk (fun e_=>by have:=F5.out;have:=LH.out;have:=D2.out;omega));replace B4:=am (blk_kept B4.out hk (fun e_=>by have:=F5.out;have:=LH.out;have:=D4.out;omega));have B5':Aside0 (wl.heap[g5]? = some (.cells #[.string n2,.int .i64 d2,.slice Ay 0 cy,.slice A3m m3.length c3m,.slice A4m m4.length c4m,.slice A5m m5.length c5m,.slice A6m m6.length c6m,.slice A7m m7.length c7m] 42 (0,0))):=⟨by rw [hw];exact kp B5⟩;clear B5;have B5:=B5';clear B5';replace T0:=am (Nat.le_trans T0.out hk.1);replace Y:=am (Kd.S_kept Y.out hk (fun k_ p_ e_=>by have:=Q5.out;omega));clear hk hw
 go_loopg [6,7] k (fun kq v6 v7 w'=>∃ (x:List S83) (d:Bool) (i:Int) (Ax:Option Addr) (cx:Nat),v6=.bool d∧v7=.int .i64 i∧Aside0 (spec_GatePartner.l0 kq l0_2 a1 x d i=some (xq,dq))∧Aside0 (kq≤k)∧Aside0 (Kd.S k83 83 w' w.heap.size (fun k_=>s0≤k_) (.slice Ax x.length cx) x)∧Aside0 (w'.heap[g2]? = some (.cells #[.string a0_0,.int .i64 a0_1,.slice A0_2 l0_2.length c0_2,.slice A0_3 l0_3.length c0_3,.slice A0_4 l0_4.length c0_4,.slice A0_5 l0_5.length c0_5,.slice A0_6 l0_6.length c0_6,.slice A0_7 l0_7.length c0_7] 42 (0,0)))∧Aside0 (w'.heap[g4]? = some (.cells #[.string (⟨#[]⟩:ByteArray),.int .i64 0,.slice none 0 0,.slice none 0 0,.slice none 0 0,.slice none 0 0,.slice none 0 0,.slice none 0 0,.string (⟨#[]⟩:ByteArray),.int .i64 0,.int .i64 0,.int .i64 0,.int .i64 0,.int .i64 0] 49 (0,0)))∧Aside0 (w'.heap[g5]? = some (.cells #[.string n2,.int .i64 d2,.slice Ax x.length cx,.slice A3m m3.length c3m,.slice A4m m4.length c4m,.slice A5m m5.length c5m,.slice A6m m6.length c6m,.slice A7m m7.length c7m] 42 (0,0)))∧Aside0 (GG w.heap.size lo hi w' (.slice A2m m2.length c2m) (.slice A3m m3.length c3m) (.slice A4m m4.length c4m) (.slice A5m m5.length c5m) (.slice A6m m6.length c6m) (.slice A7m m7.length c7m) m2 m3 m4 m5 m6 m7)∧Aside0 (s0≤w'.heap.size)∧Aside0 (Below w.heap.size w w'))
 case atStart=>exact ⟨[],false,0,Ay,cy,rfl,rfl,A6,⟨Nat.le_refl _⟩,Y,B2,B4,B5,J,T0,HB⟩
 case round =>
  clear A6 Y B2 B4 B5 J T0 HB;(try clear z2);(try clear z4);(try clear z5);obtain ⟨x,d,i,Ax,cx,rfl,rfl,HA,HK1,Y,B2,B4,B5,J,T0,HB⟩:=hrel
  cases gk with
  | zero=>exact absurd HA.out (by simp [spec_GatePartner.l0])
  | succ k1 =>
   have H:=HA.out;clear HA;simp only [spec_GatePartner.l0] at H;have z2:=cf8 B2;have z4:=cf14 B4;have z5:=cf8 B5
   obtain ⟨wl,hwl⟩:∃ W,W=wr:=⟨_,rfl⟩;subst hwl
   revert H;refine id2 ?_ ?_
   ·intro c9 H;revert H;refine id1 ?_;intro c10 H;replace H:=bo H;obtain ⟨⟨e1,e2,e3,e4⟩,A7,H⟩:=H;(try dsimp only at H);revert H;refine ip1 ?_;intro c11 H;have LX:=am c11;clear c11;have p1:0≤(i:Int):=oa;have q1:i<(l0_2.length:Int):=oa;obtain ⟨ad,Ae,ce,ea,j0,j1,j2,j3,hle,hre⟩:=at_T83 HR2.out i p1 q1;cases ea;have W0:=am j0;have W1:=am j1;have W2:=am j2;have W3:=am j3;have HE:=am hre;have HL:=am hle;replace p1:=eq_true p1;replace q1:=eq_true q1;clear hre hle j1 j2 j3;replace j0:=cb HB j0
    cases d <;> cases hL:Op.bytesLess a1.toList ((rd_T83 l0_2 i).f0).toList <;> rw [hL] at H <;> (first|replace H:=itF H|replace H:=itT H)
    all_goals try go_wp2
    rotate_left
    focus
     obtain ⟨xx,hxx⟩:∃ y,y=x++[(⟨a1,1,1,[]⟩:S83)]:=⟨_,rfl⟩;rw [← hxx] at H;have NX:=am hxx;clear hxx;have LY:=am (show xx.length+1<2513169434916 from by have:=LX.out;have e:=congrArg List.length NX.out;simp only [List.length_append,List.length_cons,List.length_nil] at e;omega)
     (try clear z2);(try clear z4);(try clear z5);replace B2:=am (blk_drew B2.out);replace B4:=am (blk_drew B4.out);replace B5:=am (blk_drew B5.out);replace J:=am J.out.drew;replace Y:=am (Kd.S_drew Y.out);replace T0:=am (show s0≤wl.drew.heap.size from T0.out);replace HB:=am (below_drew1 HB.out);refine stad 8 [7] (hb8 B5) (fun hHeld=>?_);refine with_tabW (show rtab .any (opsOf Tryz.f12 16)=spec_GatePartner.TA from by kernel_rfl) (show waitsOk spec_GatePartner.TA.2 spec_GatePartner.BA=true from by kernel_rfl) (fun HT_ HW_=>?_)
     generalize wl.drew=wa at B2 B4 B5 J Y T0 HB hHeld ⊢
     refine pz1 0 ?_;refine pz1 2 ?_;refine ta 1 ?_;refine oA 3 57 HT_ (fun K hK=>?_);refine gA Tryz.func50 #[.string a1] ?_;refine (spec_PartnerNew.calls1 k a1 _ A2.out).mono ?_;rintro e wb ⟨rfl,hb⟩;refine ⟨_,rfl,?_⟩;replace Y:=am (Kd.S_below Y.out hb);replace J:=am (J.out.below hb);replace B2:=am (blk_below (ks B2) hb);replace B4:=am (blk_below (ks B4) hb);replace B5:=am (blk_below (ks B5) hb);replace T0:=am (Nat.le_trans T0.out hb.size);replace HB:=bq HB hb;clear hb;refine hK.out _ _ (hb8 B5).out (fun hHeld=>?_);clear hK K;refine nA 57 ?_;refine oA 4 58 HT_ (fun K hK=>?_);refine value_ (w1:=?_) (v:=?_) (by rfl) rfl ?_ ?_
     rotate_left 2
     ·go_simp
      constructor
      ·rfl
      ·rfl
     refine hK.out _ _ ⟨(blk_cell (blk_alloc B5.out _) 0).trans rfl,(blk_cell (blk_alloc B5.out _) 1).trans rfl,(blk_cell (blk_alloc B5.out _) 2).trans rfl,(blk_cell (blk_alloc B5.out _) 3).trans rfl,(blk_cell (blk_alloc B5.out _) 4).trans rfl,(blk_cell (blk_alloc B5.out _) 5).trans rfl,(blk_cell (blk_alloc B5.out _) 6).trans rfl,(blk_cell (blk_alloc B5.out _) 7).trans rfl⟩ (fun hHeld=>?_);clear hK K;refine nA 58 ?_
     refine oA 5 59 HT_ (fun K hK=>?_);refine Kd.S_append_step k83 (w0:=w) w.heap.size (by rfl) (.tmp 55) (.tmp 58) 33 83 ((.agg #[(.string ⟨#[]⟩),(.int .i64 0),(.int .i64 0),(.slice none 0 0)])) 56 rfl Tryz.underlying33 info83 rfl (by decide) (by omega) (.slice Ax x.length cx) x (⟨a1,1,1,[]⟩:S83) [.string a1,.int .i64 1,.int .i64 1,.slice none 0 0] (fun k_=>s0≤k_) (fun _=>False) rfl rfl (k83_mkM _ _ _ _ (Kd.R_nil _ _ _ _ _)) (fun _ h=>h.elim) (fun k_ q_=>Nat.le_trans T0.out q_) (Kd.S_mono Y.out (fun _ q_=>⟨q_,id⟩)) HB.out HB.out.size (by have:=LX.out;omega) ?_;intro vx wc ho hb hg hat;rw [← NX.out] at ho
     obtain ⟨A2x,c2x,e_⟩:=Kd.S_slice ho;subst e_;have hk:Kept wb wc (fun k_=>s0≤k_):=Kept.of_grown hg (Kept.refl _ _) (fun k_ q_=>by obtain ⟨_,h1,_⟩:=Y.out;exact Or.inl (h1 k_ q_));replace J:=am (J.out.kept hk (fun k_ _ p_ e_=>by have:=F5.out;have:=Q5.out;omega));replace B2:=am (blk_kept B2.out hk (fun e_=>by have:=F5.out;have:=Q5.out;have:=LH.out;have:=D2.out;omega));replace B4:=am (blk_kept B4.out hk (fun e_=>by have:=F5.out;have:=Q5.out;have:=LH.out;have:=D4.out;omega));replace B5:=am (blk_kept B5.out hk (fun e_=>by have:=Q5.out;omega));replace T0:=am (Nat.le_trans T0.out hk.1);replace HB:=am hb;replace Y:=am ho;clear ho hb hg hat hk;refine hK.out _ _ (hb8 B5).out (fun hHeld=>?_);clear hK K;refine nA 59 ?_;refine pz1 6 ?_;refine last_ (i:=7) (N:=none) #[true,true,true,true,true,true,true,true] rfl rfl (one_of HT_.out (by kernel_rfl)) (by decide) (fun K hK=>?_);have hs:=(blk_cell B5.out 2).trans rfl;have hf:=blk_frozen B5.out 2;refine skip_ (w1:=wc.setCell ⟨g5,2,none⟩ (.slice A2x xx.length c2x)) (by rfl) rfl (by first|(go_simp;done)|(go_simp;rfl)) ?_;refine hK.out _ _ ?_;clear hK K hs hf hHeld;refine done_ (done_of HT_.out (by kernel_rfl)) ?_;clear HT_ HW_;obtain ⟨wl,hw⟩:∃ W,W=wc.setCell ⟨g5,2,none⟩ (.slice A2x xx.length c2x):=⟨_,rfl⟩;rw [← hw];have hk:Kept wc wl (fun k_=>k_=g5):=(by rw [hw];exact Kept.setCell (p:=⟨g5,2,none⟩) (S:=fun k_=>k_=g5) (Kept.refl _ _) (Or.inl rfl) _);replace HB:=am (show Below w.heap.size w wl from by rw [hw];exact below_set HB.out E5.out);replace J:=am (J.out.kept hk (fun k_ _ p_ e_=>by have:=F5.out;omega));replace B2:=am (blk_kept B2.out hk (fun e_=>by have:=F5.out;have:=LH.out;have:=D2.out;omega));replace B4:=am (blk_kept B4.out hk (fun e_=>by have:=F5.out;have:=LH.out;have:=D4.out;omega));have B5':Aside0 (wl.heap[g5]? = some (.cells #[.string n2,.int .i64 d2,.slice A2x xx.length c2x,.slice A3m m3.length c3m,.slice A4m m4.length c4m,.slice A5m m5.length c5m,.slice A6m m6.length c6m,.slice A7m m7.length c7m] 42 (0,0))):=⟨by rw [hw];exact kp B5⟩;clear B5;have B5:=B5';clear B5';replace T0:=am (Nat.le_trans T0.out hk.1);replace Y:=am (Kd.S_kept Y.out hk (fun k_ p_ e_=>by have:=Q5.out;omega));clear hk hw;have z2:=cf8 B2;have z4:=cf14 B4;have z5:=cf8 B5
     try go_wp2
    iterate 3
     rotate_left
     focus
      (try clear z5);generalize x=xx at H Y B5 LX ⊢;generalize Ax=A2x at Y B5 ⊢;generalize cx=c2x at Y B5 ⊢;have z5:=cf8 B5;have LY:=am (show xx.length+1<2513169434916 from by have:=LX.out;omega)
    all_goals
     obtain ⟨yy,hyy⟩:∃ y,y=xx++[(⟨e1,e2,e3,e4⟩:S83)]:=⟨_,rfl⟩;rw [← hyy] at H;have NY:=am hyy;clear hyy;have H':=am H;clear H
     (try clear z2);(try clear z4);(try clear z5);replace B2:=am (blk_drew B2.out);replace B4:=am (blk_drew B4.out);replace B5:=am (blk_drew B5.out);replace J:=am J.out.drew;replace Y:=am (Kd.S_drew Y.out);replace T0:=am (show s0≤wl.drew.heap.size from T0.out);replace HB:=am (below_drew1 HB.out);refine stad 12 [11] (hb8a B5 (hb8a B2 (hca (cb HB W0.out) (hca (cb HB W1.out) (hca (cb HB W2.out) (hc (cb HB W3.out))))))) (fun hHeld=>?_);refine with_tabW (show rtab .any (opsOf Tryz.f12 18)=spec_GatePartner.TB from by kernel_rfl) (show waitsOk spec_GatePartner.TB.2 spec_GatePartner.BB=true from by kernel_rfl) (fun HT_ HW_=>?_)
     generalize wl.drew=wA at B2 B4 B5 J Y T0 HB hHeld ⊢
     refine pz1 0 ?_;refine pz1 2 ?_;refine pz1 4 ?_;refine ta 1 ?_;refine ta 3 ?_;refine pz1 5 ?_;refine ta 6 ?_;refine oA 7 68 HT_ (fun K hK=>?_);refine gA Tryz.func51 #[.agg #[.string ((rd_T83 l0_2 i).f0),.int .i64 ((rd_T83 l0_2 i).f1),.int .i64 ((rd_T83 l0_2 i).f2),.slice Ae ((rd_T83 l0_2 i).f3).length ce]] ?_;(with_reducible refine (spec_l07Copy.calls ((rd_T83 l0_2 i).f0) ((rd_T83 l0_2 i).f1) ((rd_T83 l0_2 i).f2) _ _ ((rd_T83 l0_2 i).f3) e1 e2 e3 e4 _ ?side1 HL.out A7.out).mono ?_);(case side1=>exact Kd.C_below HE.out HB.out)
     rintro e wB ⟨v9,rfl,ho9,hb⟩;refine ⟨_,rfl,?_⟩;obtain ⟨A9,c9,e_⟩:=Kd.R_slice ho9;subst e_;replace Y:=am (Kd.S_below (Kd.S_mono (ok':=fun k_=>s0≤k_∧k_<wA.heap.size) (Kd.S_bound Y.out) (fun _ q=>⟨q.1,q.2.2.1⟩)) hb);have Z9:=am (Kd.R_lower (Kd.R_mono (ok':=fun k_=>wA.heap.size≤k_) (Kd.R_bound ho9) (fun _ q=>q.2.1)) HB.out.size);clear ho9;have T1:=T0;replace J:=am (J.out.below hb);replace B2:=am (blk_below (ks B2) hb);replace B4:=am (blk_below (ks B4) hb);replace B5:=am (blk_below (ks B5) hb);replace T0:=am (Nat.le_trans T0.out hb.size);replace HB:=bq HB hb;clear hb;generalize wA.heap.size=t0 at Y Z9 T1
     refine hK.out _ _ (hb8a B5 (hb8a B2 (hca (cb HB W0.out) (hca (cb HB W1.out) (hca (cb HB W2.out) (hc (cb HB W3.out))))))).out (fun hHeld=>?_);clear hK K;refine nA 68 ?_;refine oA 8 69 HT_ (fun K hK=>?_);refine value_ (w1:=?_) (v:=?_) (by rfl) rfl ?_ ?_
     rotate_left 2
     ·go_simp
      constructor
      ·rfl
      ·rfl
     refine hK.out _ _ ⟨(blk_cell (blk_alloc B5.out _) 0).trans rfl,(blk_cell (blk_alloc B5.out _) 1).trans rfl,(blk_cell (blk_alloc B5.out _) 2).trans rfl,(blk_cell (blk_alloc B5.out _) 3).trans rfl,(blk_cell (blk_alloc B5.out _) 4).trans rfl,(blk_cell (blk_alloc B5.out _) 5).trans rfl,(blk_cell (blk_alloc B5.out _) 6).trans rfl,(blk_cell (blk_alloc B5.out _) 7).trans rfl,(blk_cell (blk_alloc B2.out _) 0).trans rfl,(blk_cell (blk_alloc B2.out _) 1).trans rfl,(blk_cell (blk_alloc B2.out _) 2).trans rfl,(blk_cell (blk_alloc B2.out _) 3).trans rfl,(blk_cell (blk_alloc B2.out _) 4).trans rfl,(blk_cell (blk_alloc B2.out _) 5).trans rfl,(blk_cell (blk_alloc B2.out _) 6).trans rfl,(blk_cell (blk_alloc B2.out _) 7).trans rfl,(World.cell?_alloc_lt _ _ _ (World.block_lt_of_cell? _ _ ((cb HB W0.out).trans rfl))).trans ((cb HB W0.out).trans rfl),(World.cell?_alloc_lt _ _ _ (World.block_lt_of_cell? _ _ ((cb HB W1.out).trans rfl))).trans ((cb HB W1.out).trans rfl),(World.cell?_alloc_lt _ _ _ (World.block_lt_of_cell? _ _ ((cb HB W2.out).trans rfl))).trans ((cb HB W2.out).trans rfl),(World.cell?_alloc_lt _ _ _ (World.block_lt_of_cell? _ _ ((cb HB W3.out).trans rfl))).trans ((cb HB W3.out).trans rfl)⟩ (fun hHeld=>?_);clear hK K;refine nA 69 ?_
     refine oA 9 70 HT_ (fun K hK=>?_);refine Kd.S_append_step k83 (w0:=w) w.heap.size (by rfl) (.tmp 62) (.tmp 69) 33 83 ((.agg #[(.string ⟨#[]⟩),(.int .i64 0),(.int .i64 0),(.slice none 0 0)])) 56 rfl Tryz.underlying33 info83 rfl (by decide) (by omega) (.slice A2x xx.length c2x) xx (⟨e1,e2,e3,e4⟩:S83) [.string e1,.int .i64 e2,.int .i64 e3,.slice A9 e4.length c9] (fun k_=>s0≤k_) (fun k_=>t0≤k_) rfl rfl (k83_mkM _ _ _ _ Z9.out) (fun k_ q_=>⟨Nat.le_trans T1.out q_,fun e_=>by obtain ⟨_,h1,_⟩:=Y.out;have:=(h1 k_ e_.symm).2;omega⟩) (fun k_ q_=>Nat.le_trans T0.out q_) (Kd.S_mono Y.out (fun _ q_=>⟨q_.1,Nat.not_le_of_lt q_.2⟩)) HB.out HB.out.size (by have:=LY.out;omega) ?_;intro vx wC ho hb hg hat;rw [← NY.out] at ho
     obtain ⟨A3x,c3x,e_⟩:=Kd.S_slice ho;subst e_;have hk:Kept wB wC (fun k_=>s0≤k_):=Kept.of_grown hg (Kept.refl _ _) (fun k_ q_=>by obtain ⟨_,h1,_⟩:=Y.out;exact Or.inl (h1 k_ q_).1);replace J:=am (J.out.kept hk (fun k_ _ p_ e_=>by have:=F5.out;have:=Q5.out;omega));replace B2:=am (blk_kept B2.out hk (fun e_=>by have:=F5.out;have:=Q5.out;have:=LH.out;have:=D2.out;omega));replace B4:=am (blk_kept B4.out hk (fun e_=>by have:=F5.out;have:=Q5.out;have:=LH.out;have:=D4.out;omega));replace B5:=am (blk_kept B5.out hk (fun e_=>by have:=Q5.out;omega));replace T0:=am (Nat.le_trans T0.out hk.1);replace HB:=am hb;replace Y:=am ho;clear ho hb hg hat hk;refine hK.out _ _ (hb8a B5 (hb8a B2 (hca (cb HB W0.out) (hca (cb HB W1.out) (hca (cb HB W2.out) (hc (cb HB W3.out))))))).out (fun hHeld=>?_);clear hK K;refine nA 70 ?_;refine pz1 10 ?_;refine last_ (i:=11) (N:=none) #[true,true,true,true,true,true,true,true,true,true,true,true] rfl rfl (one_of HT_.out (by kernel_rfl)) (by decide) (fun K hK=>?_);have hs:=(blk_cell B5.out 2).trans rfl;have hf:=blk_frozen B5.out 2;refine skip_ (w1:=wC.setCell ⟨g5,2,none⟩ (.slice A3x yy.length c3x)) (by rfl) rfl (by first|(go_simp;done)|(go_simp;rfl)) ?_;refine hK.out _ _ ?_;clear hK K hs hf hHeld;refine done_ (done_of HT_.out (by kernel_rfl)) ?_;clear HT_ HW_;obtain ⟨wl,hw⟩:∃ W,W=wC.setCell ⟨g5,2,none⟩ (.slice A3x yy.length c3x):=⟨_,rfl⟩;rw [← hw];have hk:Kept wC wl (fun k_=>k_=g5):=(by rw [hw];exact Kept.setCell (p:=⟨g5,2,none⟩) (S:=fun k_=>k_=g5) (Kept.refl _ _) (Or.inl rfl) _);replace HB:=am (show Below w.heap.size w wl from by rw [hw];exact below_set HB.out E5.out);replace J:=am (J.out.kept hk (fun k_ _ p_ e_=>by have:=F5.out;omega));replace B2:=am (blk_kept B2.out hk (fun e_=>by have:=F5.out;have:=LH.out;have:=D2.out;omega));replace B4:=am (blk_kept B4.out hk (fun e_=>by have:=F5.out;have:=LH.out;have:=D4.out;omega));have B5':Aside0 (wl.heap[g5]? = some (.cells #[.string n2,.int .i64 d2,.slice A3x yy.length c3x,.slice A3m m3.length c3m,.slice A4m m4.length c4m,.slice A5m m5.length c5m,.slice A6m m6.length c6m,.slice A7m m7.length c7m] 42 (0,0))):=⟨by rw [hw];exact kp B5⟩;clear B5;have B5:=B5';clear B5';replace T0:=am (Nat.le_trans T0.out hk.1);replace Y:=am (Kd.S_kept Y.out hk (fun k_ p_ e_=>by have:=Q5.out;omega));clear hk hw
     try go_wp2
     go_roundg k1
     case measure=>have:=HK1.out;omega
     case rel=>exact ⟨yy,_,_,A3x,c3x,rfl,rfl,H',⟨by have:=HK1.out;omega⟩,Y,B2,B4,B5,J,T0,HB⟩
   ·intro c9 H;obtain ⟨rfl,rfl⟩:=sj2 H;clear H;have H:=H2.out;clear H2;cases d
    focus
     replace H:=itF H;revert H;refine ip1 ?_;intro c12 H;have LX:=am c12;clear c12;try go_wp2
     obtain ⟨xx,hxx⟩:∃ y,y=x++[(⟨a1,1,1,[]⟩:S83)]:=⟨_,rfl⟩;rw [← hxx] at H;have NX:=am hxx;clear hxx
     (try clear z2);(try clear z4);(try clear z5);replace B2:=am (blk_drew B2.out);replace B4:=am (blk_drew B4.out);replace B5:=am (blk_drew B5.out);replace J:=am J.out.drew;replace Y:=am (Kd.S_drew Y.out);replace T0:=am (show s0≤wl.drew.heap.size from T0.out);replace HB:=am (below_drew1 HB.out);refine stad 8 [7] (hb8 B5) (fun hHeld=>?_);refine with_tabW (show rtab .any (opsOf Tryz.f12 20)=spec_GatePartner.TA from by kernel_rfl) (show waitsOk spec_GatePartner.TA.2 spec_GatePartner.BA=true from by kernel_rfl) (fun HT_ HW_=>?_)
     generalize wl.drew=wa at B2 B4 B5 J Y T0 HB hHeld ⊢
     refine pz1 0 ?_;refine pz1 2 ?_;refine ta 1 ?_;refine oA 3 77 HT_ (fun K hK=>?_);refine gA Tryz.func50 #[.string a1] ?_;refine (spec_PartnerNew.calls1 k a1 _ A2.out).mono ?_;rintro e wb ⟨rfl,hb⟩;refine ⟨_,rfl,?_⟩;replace Y:=am (Kd.S_below Y.out hb);replace J:=am (J.out.below hb);replace B2:=am (blk_below (ks B2) hb);replace B4:=am (blk_below (ks B4) hb);replace B5:=am (blk_below (ks B5) hb);replace T0:=am (Nat.le_trans T0.out hb.size);replace HB:=bq HB hb;clear hb;refine hK.out _ _ (hb8 B5).out (fun hHeld=>?_);clear hK K;refine nA 77 ?_;refine oA 4 78 HT_ (fun K hK=>?_);refine value_ (w1:=?_) (v:=?_) (by rfl) rfl ?_ ?_
     rotate_left 2
     ·go_simp
      constructor
      ·rfl
      ·rfl
     refine hK.out _ _ ⟨(blk_cell (blk_alloc B5.out _) 0).trans rfl,(blk_cell (blk_alloc B5.out _) 1).trans rfl,(blk_cell (blk_alloc B5.out _) 2).trans rfl,(blk_cell (blk_alloc B5.out _) 3).trans rfl,(blk_cell (blk_alloc B5.out _) 4).trans rfl,(blk_cell (blk_alloc B5.out _) 5).trans rfl,(blk_cell (blk_alloc B5.out _) 6).trans rfl,(blk_cell (blk_alloc B5.out _) 7).trans rfl⟩ (fun hHeld=>?_);clear hK K;refine nA 78 ?_
     refine oA 5 79 HT_ (fun K hK=>?_);refine Kd.S_append_step k83 (w0:=w) w.heap.size (by rfl) (.tmp 75) (.tmp 78) 33 83 ((.agg #[(.string ⟨#[]⟩),(.int .i64 0),(.int .i64 0),(.slice none 0 0)])) 56 rfl Tryz.underlying33 info83 rfl (by decide) (by omega) (.slice Ax x.length cx) x (⟨a1,1,1,[]⟩:S83) [.string a1,.int .i64 1,.int .i64 1,.slice none 0 0] (fun k_=>s0≤k_) (fun _=>False) rfl rfl (k83_mkM _ _ _ _ (Kd.R_nil _ _ _ _ _)) (fun _ h=>h.elim) (fun k_ q_=>Nat.le_trans T0.out q_) (Kd.S_mono Y.out (fun _ q_=>⟨q_,id⟩)) HB.out HB.out.size (by have:=LX.out;omega) ?_;intro vx wc ho hb hg hat;rw [← NX.out] at ho
     obtain ⟨A2x,c2x,e_⟩:=Kd.S_slice ho;subst e_;have hk:Kept wb wc (fun k_=>s0≤k_):=Kept.of_grown hg (Kept.refl _ _) (fun k_ q_=>by obtain ⟨_,h1,_⟩:=Y.out;exact Or.inl (h1 k_ q_));replace J:=am (J.out.kept hk (fun k_ _ p_ e_=>by have:=F5.out;have:=Q5.out;omega));replace B2:=am (blk_kept B2.out hk (fun e_=>by have:=F5.out;have:=Q5.out;have:=LH.out;have:=D2.out;omega));replace B4:=am (blk_kept B4.out hk (fun e_=>by have:=F5.out;have:=Q5.out;have:=LH.out;have:=D4.out;omega));replace B5:=am (blk_kept B5.out hk (fun e_=>by have:=Q5.out;omega));replace T0:=am (Nat.le_trans T0.out hk.1);replace HB:=am hb;replace Y:=am ho;clear ho hb hg hat hk;refine hK.out _ _ (hb8 B5).out (fun hHeld=>?_);clear hK K;refine nA 79 ?_;refine pz1 6 ?_;refine last_ (i:=7) (N:=none) #[true,true,true,true,true,true,true,true] rfl rfl (one_of HT_.out (by kernel_rfl)) (by decide) (fun K hK=>?_);have hs:=(blk_cell B5.out 2).trans rfl;have hf:=blk_frozen B5.out 2;refine skip_ (w1:=wc.setCell ⟨g5,2,none⟩ (.slice A2x xx.length c2x)) (by rfl) rfl (by first|(go_simp;done)|(go_simp;rfl)) ?_;refine hK.out _ _ ?_;clear hK K hs hf hHeld;refine done_ (done_of HT_.out (by kernel_rfl)) ?_;clear HT_ HW_;obtain ⟨wl,hw⟩:∃ W,W=wc.setCell ⟨g5,2,none⟩ (.slice A2x xx.length c2x):=⟨_,rfl⟩;rw [← hw];have hk:Kept wc wl (fun k_=>k_=g5):=(by rw [hw];exact Kept.setCell (p:=⟨g5,2,none⟩) (S:=fun k_=>k_=g5) (Kept.refl _ _) (Or.inl rfl) _);replace HB:=am (show Below w.heap.size w wl from by rw [hw];exact below_set HB.out E5.out);replace J:=am (J.out.kept hk (fun k_ _ p_ e_=>by have:=F5.out;omega));replace B2:=am (blk_kept B2.out hk (fun e_=>by have:=F5.out;have:=LH.out;have:=D2.out;omega));replace B4:=am (blk_kept B4.out hk (fun e_=>by have:=F5.out;have:=LH.out;have:=D4.out;omega));have B5':Aside0 (wl.heap[g5]? = some (.cells #[.string n2,.int .i64 d2,.slice A2x xx.length c2x,.slice A3m m3.length c3m,.slice A4m m4.length c4m,.slice A5m m5.length c5m,.slice A6m m6.length c6m,.slice A7m m7.length c7m] 42 (0,0))):=⟨by rw [hw];exact kp B5⟩;clear B5;have B5:=B5';clear B5';replace T0:=am (Nat.le_trans T0.out hk.1);replace Y:=am (Kd.S_kept Y.out hk (fun k_ p_ e_=>by have:=Q5.out;omega));clear hk hw;have z2:=cf8 B2;have z4:=cf14 B4;have z5:=cf8 B5
    rotate_left
    focus
     replace H:=itT H;(try clear z5);generalize x=xx at H Y B5 ⊢;generalize Ax=A2x at Y B5 ⊢;generalize cx=c2x at Y B5 ⊢;have z5:=cf8 B5
    all_goals
     replace H:=sj14 H;obtain ⟨rfl,rfl,rfl,rfl,rfl,rfl,rfl,rfl,rfl,rfl,rfl,rfl,rfl,rfl⟩:=H
     have key:∀ {W2:World},Kept wl W2 (fun k_=>k_=g4)→Below w.heap.size w W2→Kd.S k83 83 W2 w.heap.size (fun _=>True) (.slice A2x xx.length c2x) xx∧Kd.R k114 114 W2 w.heap.size (fun _=>True) (.slice A3m m3.length c3m) m3∧Kd.R k152 152 W2 w.heap.size (fun _=>True) (.slice A4m m4.length c4m) m4∧Kd.R k161 161 W2 w.heap.size (fun _=>True) (.slice A5m m5.length c5m) m5∧Kd.R k118 118 W2 w.heap.size (fun _=>True) (.slice A6m m6.length c6m) m6∧Kd.R k120 120 W2 w.heap.size (fun _=>True) (.slice A7m m7.length c7m) m7∧Below w.heap.size w W2:=fun hk hb=>⟨Kd.S_mono (Kd.S_kept Y.out hk (fun k_ p_ e_=>by have:=D4.out;have:=LH.out;have:=F5.out;have:=Q5.out;omega)) (fun _ _=>trivial),Kd.R_mono (Kd.R_kept J.out.2.1 hk (fun k_ p_ e_=>by have:=D4.out;have:=LH.out;have:=F5.out;have:=Q5.out;omega)) (fun _ _=>trivial),Kd.R_mono (Kd.R_kept J.out.2.2.1 hk (fun k_ p_ e_=>by have:=D4.out;have:=LH.out;have:=F5.out;have:=Q5.out;omega)) (fun _ _=>trivial),Kd.R_mono (Kd.R_kept J.out.2.2.2.1 hk (fun k_ p_ e_=>by have:=D4.out;have:=LH.out;have:=F5.out;have:=Q5.out;omega)) (fun _ _=>trivial),Kd.R_mono (Kd.R_kept J.out.2.2.2.2.1 hk (fun k_ p_ e_=>by have:=D4.out;have:=LH.out;have:=F5.out;have:=Q5.out;omega)) (fun _ _=>trivial),Kd.R_mono (Kd.R_kept J.out.2.2.2.2.2.1 hk (fun k_ p_ e_=>by have:=D4.out;have:=LH.out;have:=F5.out;have:=Q5.out;omega)) (fun _ _=>trivial),hb⟩
     try go_wp2
     refine bodyPost_ret (results_cell_row rfl _ _ g4 49 #[.string n2,.int .i64 d2,.slice A2x xx.length c2x,.slice A3m m3.length c3m,.slice A4m m4.length c4m,.slice A5m m5.length c5m,.slice A6m m6.length c6m,.slice A7m m7.length c7m,.string (⟨#[]⟩:ByteArray),.int .i64 0,.int .i64 0,.int .i64 0,.int .i64 0,.int .i64 0] (0,0) _ rfl (kp B4) Tryz.underlying49 rfl (by kernel_rfl)) rfl ?_
     exact ⟨_,_,_,_,_,_,ff,key kept14 (bs HB)⟩
theorem impl_longText_1.calls (a0:ByteArray) (r:Bool) (w:World) (H:impl_longText_1.f a0=some r) :
  Calls Tryz.prog 102 #[.string a0] w fun e w'=>e=.returned (.bool r)∧Drawn0 w w':=by
 unfold impl_longText_1.f at H;obtain rfl:=si H
 go_in
 go_wp2
 go_ret
 exact ⟨fg,dr⟩
theorem slices_IndexFunc_string_string_impl_longText_1.calls (k:Nat) (A0:Option Addr) (c0:Nat) (l0:List ByteArray)  (r:Int) (w:World) (hr0:Kd.C Kd.string w A0 l0.length l0) (hc0:l0.length≤c0) (H:slices_IndexFunc_string_string_impl_longText_1.f k l0=some r) :
  Calls Tryz.prog 138 #[.slice A0 l0.length c0,.func (.func 102) #[] #[]] w fun e w'=>e=.returned (.int .i64 r)∧Drawn0 w w':=by
 have HR0:=am hr0;have HC0:=am hc0;clear hr0 hc0;unfold slices_IndexFunc_string_string_impl_longText_1.f at H;have H':=am H;clear H
 go_in
 go_wp2
 go_loopg [8] k (fun kq v8 w'=>∃ (x8_1:Int),v8=.int .i64 x8_1∧Aside0 (slices_IndexFunc_string_string_impl_longText_1.l0 kq l0 (l0.length:Int) x8_1=some r)∧Aside0 (kq≤k)∧Drawn0 w w')
 case atStart=>exact ⟨(0),fg,H',⟨Nat.le_refl _⟩,by repeat (first|exact Drawn0.refl _|apply Drawn0.step)⟩
 case round =>
  clear H'
  obtain ⟨x8_1,rfl,HA,HK1,⟨m1,rfl⟩⟩:=hrel
  cases gk with
  | zero=>exact absurd HA.out (by simp [slices_IndexFunc_string_string_impl_longText_1.l0])
  | succ k1 =>
   have H:=HA.out;clear HA;simp only [slices_IndexFunc_string_string_impl_longText_1.l0] at H
   revert H;refine id2 ?_ ?_
   ·intro c3b0 H
    revert H;refine id1 ?_
    intro c4b0 H
    revert H;refine id1 ?_
    intro c5b0 H;replace H:=bo H;obtain ⟨t9,A6,H⟩:=H;have p7:0≤(x8_1:Int):=oa;have q7:x8_1<(l0.length:Int):=oa;obtain ⟨ad7,e7,hx7_0⟩:=Kd.at_string HR0.out x8_1 p7 q7
    cases e7
    replace p7:=eq_true p7;replace q7:=eq_true q7
    try go_wp2_with (fail)
    go_at_call 102;(with_reducible refine (impl_longText_1.calls (rdOf ByteArray.empty l0 x8_1) t9 _ A6.out).mono ?_);rintro e w' ⟨rfl,⟨nd,rfl⟩⟩
    obtain rfl|rfl:=bt t9
    ·replace H:=itT H;obtain rfl:=si H
     go_wp2
     go_ret
     exact ⟨fg,dr⟩
    ·replace H:=itF H;have H':=am H;clear H
     go_wp2
     go_roundg k1
     case measure=>have:=HK1.out;omega
     case rel=>exact ⟨(wrap64 (x8_1+1)),fg,H',⟨by have:=HK1.out;omega⟩,by repeat (first|exact Drawn0.refl _|apply Drawn0.step)⟩
   ·intro c3b0 H;obtain rfl:=si H
    go_wp2
    go_ret
    exact ⟨fg,dr⟩
theorem slices_ContainsFunc_string_string_impl_longText_1.calls (k:Nat) (A0:Option Addr) (c0:Nat) (l0:List ByteArray)  (r:Bool) (w:World) (hr0:Kd.C Kd.string w A0 l0.length l0) (hc0:l0.length≤c0) (H:slices_ContainsFunc_string_string_impl_longText_1.f k l0=some r) :
  Calls Tryz.prog 101 #[.slice A0 l0.length c0,.func (.func 102) #[] #[]] w fun e w'=>e=.returned (.bool r)∧Drawn0 w w':=by
 have HR0:=am hr0;have HC0:=am hc0;clear hr0 hc0;unfold slices_ContainsFunc_string_string_impl_longText_1.f at H;replace H:=bo H;obtain ⟨t4,A3,H⟩:=H;obtain rfl:=si H
 go_in
 go_wp2_with (first|((first|((with_reducible refine gate_callee (f:=138) rfl ?_);refine goesL_ (some 7) rfl rfl Tryz.func138 (by kernel_rfl) rfl #[.slice A0 l0.length c0,.func (.func 102) #[] #[]] rfl (by (try simp only [List.map_toArray,List.map_cons,List.map_nil]);first|done|rfl|(simp only [List.length_drop,List.length_take];rfl)) ?_;(with_reducible refine (slices_IndexFunc_string_string_impl_longText_1.calls k _ _ l0  t4 _ ?side1 HC0.out A3.out).mono ?_);(case side1=>exact sd HR0.out);rintro e w' ⟨rfl,⟨nd,rfl⟩⟩;refine ⟨_,rfl,?_⟩)|(go_at_call 138;(with_reducible refine (slices_IndexFunc_string_string_impl_longText_1.calls k _ _ l0  t4 _ ?side1 HC0.out A3.out).mono ?_);(case side1=>exact sd HR0.out);rintro e w' ⟨rfl,⟨nd,rfl⟩⟩))))
 go_ret
 exact ⟨fg,dr⟩
theorem impl_longText.calls (k:Nat) (A0:Option Addr) (c0:Nat) (l0:List ByteArray) (r:Bool) (w:World) (hr0:Kd.C Kd.string w A0 l0.length l0) (hc0:l0.length≤c0) (H:impl_longText.f k l0=some r) :
  Calls Tryz.prog 52 #[.slice A0 l0.length c0] w fun e w'=>e=.returned (.bool r)∧Drawn0 w w':=by
 have HR0:=am hr0;have HC0:=am hc0;clear hr0 hc0;unfold impl_longText.f at H;replace H:=bo H;obtain ⟨t3,A2,H⟩:=H;obtain rfl:=si H
 go_in
 go_wp2_with (first|((first|((with_reducible refine gate_callee (f:=101) rfl ?_);refine goesL_ (some 4) rfl rfl Tryz.func101 (by kernel_rfl) rfl #[.slice A0 l0.length c0,.func (.func 102) #[] #[]] rfl (by (try simp only [List.map_toArray,List.map_cons,List.map_nil]);first|done|rfl|(simp only [List.length_drop,List.length_take];rfl)) ?_;(with_reducible refine (slices_ContainsFunc_string_string_impl_longText_1.calls k _ _ l0  t3 _ ?side1 HC0.out A2.out).mono ?_);(case side1=>exact sd HR0.out);rintro e w' ⟨rfl,⟨nd,rfl⟩⟩;refine ⟨_,rfl,?_⟩)|(go_at_call 101;(with_reducible refine (slices_ContainsFunc_string_string_impl_longText_1.calls k _ _ l0  t3 _ ?side1 HC0.out A2.out).mono ?_);(case side1=>exact sd HR0.out);rintro e w' ⟨rfl,⟨nd,rfl⟩⟩))))
 go_ret
 exact ⟨fg,dr⟩
theorem impl_isGreat.calls (a0:Int) (r:Bool) (w:World) (H:impl_isGreat.f a0=some r) :
  Calls Tryz.prog 103 #[.int .u8 a0] w fun e w'=>e=.returned (.bool r)∧Drawn0 w w':=by
 unfold impl_isGreat.f at H
 revert H;refine ip2 ?_ ?_
 ·intro c2 H;have c2b0:decide (65≤a0)=true:=decide_eq_true c2;clear c2;obtain rfl:=si H
  go_in
  go_wp2
  go_ret
  exact ⟨fg,dr⟩
 ·intro c2 H;have c2b0:decide (65≤a0)=false:=decide_eq_false c2;clear c2;obtain rfl:=si H
  go_in
  go_wp2
  go_ret
  exact ⟨fg,dr⟩
theorem impl_isDigit.calls (a0:Int) (r:Bool) (w:World) (H:impl_isDigit.f a0=some r) :
  Calls Tryz.prog 104 #[.int .u8 a0] w fun e w'=>e=.returned (.bool r)∧Drawn0 w w':=by
 unfold impl_isDigit.f at H
 revert H;refine ip2 ?_ ?_
 ·intro c2 H;have c2b0:decide (48≤a0)=true:=decide_eq_true c2;clear c2;obtain rfl:=si H
  go_in
  go_wp2
  go_ret
  exact ⟨fg,dr⟩
 ·intro c2 H;have c2b0:decide (48≤a0)=false:=decide_eq_false c2;clear c2;obtain rfl:=si H
  go_in
  go_wp2
  go_ret
  exact ⟨fg,dr⟩
theorem impl_within.calls (a0:Int) (a1:Int) (a2:Int) (r:Bool) (w:World) (H:impl_within.f a0 a1 a2=some r) :
  Calls Tryz.prog 105 #[.int .i64 a0,.int .i64 a1,.int .i64 a2] w fun e w'=>e=.returned (.bool r)∧Drawn0 w w':=by
 unfold impl_within.f at H
 revert H;refine id2 ?_ ?_
 ·intro c4b0 H;obtain rfl:=si H
  go_in
  go_wp2
  go_ret
  exact ⟨fg,dr⟩
 ·intro c4b0 H;obtain rfl:=si H
  go_in
  go_wp2
  go_ret
  exact ⟨fg,dr⟩
theorem impl_isName.calls (k:Nat) (a0:ByteArray) (r:Bool) (w:World) (H:impl_isName.f k a0=some r) :
  Calls Tryz.prog 53 #[.string a0] w fun e w'=>e=.returned (.bool r)∧Drawn0 w w':=by
 unfold impl_isName.f at H;have H':=am H;clear H
 go_in
 go_wp2
 go_loopg [6] k (fun kq v6 w'=>∃ (x6_1:Int),v6=.int .i64 x6_1∧Aside0 (impl_isName.l0 kq a0 (a0.size:Int) x6_1=some r)∧Aside0 (kq≤k)∧Drawn0 w w')
 case atStart=>exact ⟨(0),fg,H',⟨Nat.le_refl _⟩,by repeat (first|exact Drawn0.refl _|apply Drawn0.step)⟩
 case round =>
  clear H';obtain ⟨x6_1,rfl,HA,HK1,⟨m1,rfl⟩⟩:=hrel
  cases gk with
  | zero=>exact absurd HA.out (by simp [impl_isName.l0])
  | succ k1 =>
   have H:=HA.out;clear HA;simp only [impl_isName.l0] at H
   revert H;refine id2 ?_ ?_
   ·intro c2b0 H
    revert H;refine id1 ?_
    intro c3b0 H
    revert H;refine id1 ?_
    intro c4b0 H;replace H:=bo H;obtain ⟨t7,A6,H⟩:=H;have p5:0≤(x6_1:Int):=oa;have q5:x6_1<(a0.size:Int):=oa;have hx5:=bt_at a0 x6_1;replace p5:=eq_true p5;replace q5:=eq_true q5
    try go_wp2_with (fail)
    go_at_call 103;(with_reducible refine (impl_isGreat.calls (bt a0 x6_1) t7 _ A6.out).mono ?_);rintro e w' ⟨rfl,⟨nd,rfl⟩⟩
    obtain rfl|rfl:=bt t7
    ·replace H:=itT H;have H':=am H;clear H
     go_wp2
     go_roundg k1
     case measure=>have:=HK1.out;omega
     case rel=>exact ⟨(wrap64 (x6_1+1)),fg,H',⟨by have:=HK1.out;omega⟩,by repeat (first|exact Drawn0.refl _|apply Drawn0.step)⟩
    ·replace H:=itF H
     revert H;refine ie2 ?_ ?_
     ·intro c8b0 c8b1 H;obtain rfl:=si H
      go_wp2
      go_ret
      exact ⟨fg,dr⟩
     ·intro c8 c8b0 c8b1 H;replace H:=bo H;obtain ⟨t11,A10,H⟩:=H;have p9:0≤(x6_1:Int):=oa;have q9:x6_1<(a0.size:Int):=oa;have hx9:=bt_at a0 x6_1;replace p9:=eq_true p9;replace q9:=eq_true q9
      try go_wp2_with (fail)
      go_at_call 104;(with_reducible refine (impl_isDigit.calls (bt a0 x6_1) t11 _ A10.out).mono ?_);rintro e w' ⟨rfl,⟨nd,rfl⟩⟩
      obtain rfl|rfl:=bt t11
      ·replace H:=itT H;have H':=am H;clear H
       go_wp2
       go_roundg k1
       case measure=>have:=HK1.out;omega
       case rel=>exact ⟨(wrap64 (x6_1+1)),fg,H',⟨by have:=HK1.out;omega⟩,by repeat (first|exact Drawn0.refl _|apply Drawn0.step)⟩
      ·replace H:=itF H
       revert H;refine ie2 ?_ ?_
       ·intro c13b0 c13b1 H;have H':=am H;clear H;have p12:0≤(x6_1:Int):=oa;have q12:x6_1<(a0.size:Int):=oa;have hx12:=bt_at a0 x6_1;replace p12:=eq_true p12;replace q12:=eq_true q12
        go_wp2
        go_roundg k1
        case measure=>have:=HK1.out;omega
        case rel=>exact ⟨(wrap64 (x6_1+1)),fg,H',⟨by have:=HK1.out;omega⟩,by repeat (first|exact Drawn0.refl _|apply Drawn0.step)⟩
       ·intro c13 c13b0 c13b1 H;obtain rfl:=si H;have p12:0≤(x6_1:Int):=oa;have q12:x6_1<(a0.size:Int):=oa;have hx12:=bt_at a0 x6_1;replace p12:=eq_true p12;replace q12:=eq_true q12
        go_wp2
        go_ret
        exact ⟨fg,dr⟩
   ·intro c2b0 H;replace H:=bo H;obtain ⟨t15,A14,H⟩:=H;obtain rfl:=si H
    go_wp2_with (first|((first|((with_reducible refine gate_callee (f:=105) rfl ?_);refine goesL_ (some 34) rfl rfl Tryz.func105 (by kernel_rfl) rfl #[.int .i64 (a0.size:Int),.int .i64 1,.int .i64 12] rfl (by (try simp only [List.map_toArray,List.map_cons,List.map_nil]);first|done|rfl|(simp only [List.length_drop,List.length_take];rfl)) ?_;(with_reducible refine (impl_within.calls (a0.size:Int) 1 12 t15 _ A14.out).mono ?_);rintro e w' ⟨rfl,⟨nd,rfl⟩⟩;refine ⟨_,rfl,?_⟩)|(go_at_call 105;(with_reducible refine (impl_within.calls (a0.size:Int) 1 12 t15 _ A14.out).mono ?_);rintro e w' ⟨rfl,⟨nd,rfl⟩⟩))))
    go_ret
    exact ⟨fg,dr⟩
theorem impl_isDay.calls (a0:Int) (r:Bool) (w:World) (H:impl_isDay.f a0=some r) :
  Calls Tryz.prog 82 #[.int .i64 a0] w fun e w'=>e=.returned (.bool r)∧Drawn0 w w':=by
 unfold impl_isDay.f at H;replace H:=bo H;obtain ⟨t1,A2,H⟩:=H;obtain rfl:=si H
 go_in
 go_wp2_with (first|((first|((with_reducible refine gate_callee (f:=105) rfl ?_);refine goesL_ (some 4) rfl rfl Tryz.func105 (by kernel_rfl) rfl #[.int .i64 a0,.int .i64 0,.int .i64 100000] rfl (by (try simp only [List.map_toArray,List.map_cons,List.map_nil]);first|done|rfl|(simp only [List.length_drop,List.length_take];rfl)) ?_;(with_reducible refine (impl_within.calls a0 0 100000 t1 _ A2.out).mono ?_);rintro e w' ⟨rfl,⟨nd,rfl⟩⟩;refine ⟨_,rfl,?_⟩)|(go_at_call 105;(with_reducible refine (impl_within.calls a0 0 100000 t1 _ A2.out).mono ?_);rintro e w' ⟨rfl,⟨nd,rfl⟩⟩))))
 go_ret
 exact ⟨fg,dr⟩
theorem impl_isControl.calls (a0:Int) (r:Bool) (w:World) (H:impl_isControl.f a0=some r) :
  Calls Tryz.prog 126 #[.int .i64 a0] w fun e w'=>e=.returned (.bool r)∧Drawn0 w w':=by
 unfold impl_isControl.f at H;replace H:=bo H;obtain ⟨t3,A2,H⟩:=H;obtain rfl:=si H
 go_in
 go_wp2_with (first|((first|((with_reducible refine gate_callee (f:=105) rfl ?_);refine goesL_ (some 4) rfl rfl Tryz.func105 (by kernel_rfl) rfl #[.int .i64 a0,.int .i64 1,.int .i64 999999] rfl (by (try simp only [List.map_toArray,List.map_cons,List.map_nil]);first|done|rfl|(simp only [List.length_drop,List.length_take];rfl)) ?_;(with_reducible refine (impl_within.calls a0 1 999999 t3 _ A2.out).mono ?_);rintro e w' ⟨rfl,⟨nd,rfl⟩⟩;refine ⟨_,rfl,?_⟩)|(go_at_call 105;(with_reducible refine (impl_within.calls a0 1 999999 t3 _ A2.out).mono ?_);rintro e w' ⟨rfl,⟨nd,rfl⟩⟩))))
 go_ret
 exact ⟨fg,dr⟩
theorem impl_isCode.calls (a0:Int) (r:Bool) (w:World) (H:impl_isCode.f a0=some r) :
  Calls Tryz.prog 127 #[.int .i64 a0] w fun e w'=>e=.returned (.bool r)∧Drawn0 w w':=by
 unfold impl_isCode.f at H;replace H:=bo H;obtain ⟨t1,A2,H⟩:=H;obtain rfl:=si H
 go_in
 go_wp2_with (first|((first|((with_reducible refine gate_callee (f:=105) rfl ?_);refine goesL_ (some 4) rfl rfl Tryz.func105 (by kernel_rfl) rfl #[.int .i64 a0,.int .i64 0,.int .i64 13] rfl (by (try simp only [List.map_toArray,List.map_cons,List.map_nil]);first|done|rfl|(simp only [List.length_drop,List.length_take];rfl)) ?_;(with_reducible refine (impl_within.calls a0 0 13 t1 _ A2.out).mono ?_);rintro e w' ⟨rfl,⟨nd,rfl⟩⟩;refine ⟨_,rfl,?_⟩)|(go_at_call 105;(with_reducible refine (impl_within.calls a0 0 13 t1 _ A2.out).mono ?_);rintro e w' ⟨rfl,⟨nd,rfl⟩⟩))))
 go_ret
 exact ⟨fg,dr⟩
end Go.Proofs.YtomoflpgdbjojaaGreat.QO
