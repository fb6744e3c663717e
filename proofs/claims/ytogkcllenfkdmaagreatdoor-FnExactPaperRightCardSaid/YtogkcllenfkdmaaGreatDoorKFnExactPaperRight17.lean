-- Merged by a program of this session (wip/tool/pack.py) out of its own texts for this claim.
import Derived.Test.YtogkcllenfkdmaaGreatDoorKFnExactPaperRight0
import Derived.Test.YtogkcllenfkdmaaGreatDoorKFnExactPaperRight1
import Derived.Test.YtogkcllenfkdmaaGreatDoorKFnExactPaperRight2
import Derived.Test.YtogkcllenfkdmaaGreatDoorKFnExactPaperRight3
import Derived.Test.YtogkcllenfkdmaaGreatDoorKFnExactPaperRight5
import Derived.Test.YtogkcllenfkdmaaGreatDoorKFnExactPaperRight11
import Derived.Test.YtogkcllenfkdmaaGreatDoorKFnExactPaperRight12
import Derived.Test.YtogkcllenfkdmaaGreatDoorKFnExactPaperRight16
namespace Go.Proofs.YtogkcllenfkdmaaGreatDoor.QR
open Go.RowKit Go.Proofs.YtogkcllenfkdmaaGreatDoorW.PrintWords Go.Proofs.YtogkcllenfkdmaaGreatDoorW.PrintLast Go.Proofs.YtogkcllenfkdmaaGreatDoorW.PrintMore
attribute [local go_sem] max2_int min2_int max_two min_two max_three min_three max_four min_four   -- for this text's walks alone
set_option linter.unusedVariables false
set_option linter.unusedSimpArgs false
set_option maxHeartbeats 8000000 in
set_option maxRecDepth 100000 in
theorem impl_same.calls (k:Nat) (a0_0:Int) (a0_1:ByteArray) (a0_2:ByteArray) (a0_3:Int) (A0_4:Option Addr) (c0_4:Nat) (l0_4:List ByteArray) (A0_5:Option Addr) (c0_5:Nat) (l0_5:List (S71)) (a1_0:Int) (a1_1:ByteArray) (a1_2:ByteArray) (a1_3:Int) (A1_4:Option Addr) (c1_4:Nat) (l1_4:List ByteArray) (A1_5:Option Addr) (c1_5:Nat) (l1_5:List (S71)) (r:Bool) (w:World) (hr0_4:Kd.C Kd.string w A0_4 l0_4.length l0_4) (hc0_4:l0_4.length≤c0_4) (hr0_5:Kd.C k71 w A0_5 l0_5.length l0_5) (hc0_5:l0_5.length≤c0_5) (hr1_4:Kd.C Kd.string w A1_4 l1_4.length l1_4) (hc1_4:l1_4.length≤c1_4) (hr1_5:Kd.C k71 w A1_5 l1_5.length l1_5) (hc1_5:l1_5.length≤c1_5) (H:impl_same.f k a0_0 a0_1 a0_2 a0_3 l0_4 l0_5 a1_0 a1_1 a1_2 a1_3 l1_4 l1_5=some r) :
  Calls Tryz.prog 42 #[.agg #[.int .i64 a0_0,.string a0_1,.string a0_2,.int .i64 a0_3,.slice A0_4 l0_4.length c0_4,.slice A0_5 l0_5.length c0_5],.agg #[.int .i64 a1_0,.string a1_1,.string a1_2,.int .i64 a1_3,.slice A1_4 l1_4.length c1_4,.slice A1_5 l1_5.length c1_5]] w fun e w'=>e=.returned (.bool r)∧Below w.heap.size w w':=by
 have hu30:=Tryz.underlying30;have HR0_4:=am hr0_4;have HC0_4:=am hc0_4;clear hr0_4 hc0_4;have HR0_5:=am hr0_5;have HC0_5:=am hc0_5;clear hr0_5 hc0_5;have HR1_4:=am hr1_4;have HC1_4:=am hc1_4;clear hr1_4 hc1_4;have HR1_5:=am hr1_5;have HC1_5:=am hc1_5;clear hr1_5 hc1_5;have HB:=am (Below.refl w.heap.size w);unfold impl_same.f at H
 revert H;refine ie2 ?_ ?_
 ·intro c3b0 c3b1 H
  revert H;refine ie2 ?_ ?_
  ·intro c4b0 c4b1 H
   revert H;refine ie2 ?_ ?_
   ·intro c5b0 c5b1 H
    revert H;refine ie2 ?_ ?_
    ·intro c6b0 c6b1 H;replace H:=bo H;obtain ⟨t644,A7,H⟩:=H
     go_in
     try go_wp2_with (first|((with_reducible refine gate_dst (N:=2) rfl ?_);refine bx 2 (cs:=#[.int .i64 a0_0,.string a0_1,.string a0_2,.int .i64 a0_3,.slice A0_4 l0_4.length c0_4,.slice A0_5 l0_5.length c0_5]) (t:=30) ?_;intro gb642 hg w8 hbox hb;have BK642:=am (hbox);have GW642:=am ((gs hg (bs HB)));have GE642:=am ((gs hg (bs HB)));replace HB:=am (below_step (bs HB) hb);clear hb hbox hg)|((with_reducible refine gate_dst (N:=3) rfl ?_);refine bx 3 (cs:=#[.int .i64 a1_0,.string a1_1,.string a1_2,.int .i64 a1_3,.slice A1_4 l1_4.length c1_4,.slice A1_5 l1_5.length c1_5]) (t:=30) ?_;intro gb643 hg w9 hbox hb;have BK643:=am (hbox);have GW643:=am ((gs hg (bs HB)));have GE643:=am ((gs hg (bs HB)));replace HB:=am (below_step (bs HB) hb);have NB642_643:=am ((gn hg (ks BK642)));have NB643_642:=am ((gm hg (ks BK642)));replace BK642:=am (blk_below (ks BK642) hb);clear hb hbox hg;have hnb10:=NB642_643.out;have hnc10:=NB643_642.out;have hcz11:=cf6 BK642;have hcz12:=cf6 BK643))
     go_at_call 85;(with_reducible refine (slices_Equal_string_string.calls k _ _ l0_4 _ _ l1_4 t644 _ (Kd.C_below HR0_4.out (bs HB)) HC0_4.out (Kd.C_below HR1_4.out (bs HB)) HC1_4.out A7.out).mono ?_);rintro e w' ⟨rfl,⟨nd,rfl⟩⟩
     obtain rfl|rfl:=bt t644
     ·replace H:=itT H;replace H:=bo H;obtain ⟨t645,A14,H⟩:=H;obtain rfl:=si H;have hnb15:=NB642_643.out;have hnc15:=NB643_642.out;have hcz16:=cf6 BK642;have hcz17:=cf6 BK643
      go_wp2_with (first|(go_at_call 86;(with_reducible refine (impl_Line.calls k _ _ l0_5 _ _ l1_5 t645 _ ?side1 HC0_5.out ?side3 HC1_5.out A14.out).mono ?_);(case side1=>repeat (first|exact (Kd.C_below HR0_5.out (bs HB))|(with_reducible refine Kd.C_alloc ?_ _)|(with_reducible refine Kd.C_drewN ?_ _)|(with_reducible refine Kd.C_drew ?_)));(case side3=>repeat (first|exact (Kd.C_below HR1_5.out (bs HB))|(with_reducible refine Kd.C_alloc ?_ _)|(with_reducible refine Kd.C_drewN ?_ _)|(with_reducible refine Kd.C_drew ?_)));rintro e w' ⟨rfl,⟨nd,rfl⟩⟩))
      go_ret
      exact ⟨ff,bs HB⟩
     ·replace H:=itF H;obtain rfl:=si H
      go_wp2
      go_ret
      exact ⟨ff,bs HB⟩
    ·intro c6 c6b0 c6b1 H;obtain rfl:=si H
     go_in
     go_wp2_with (first|((with_reducible refine gate_dst (N:=2) rfl ?_);refine bx 2 (cs:=#[.int .i64 a0_0,.string a0_1,.string a0_2,.int .i64 a0_3,.slice A0_4 l0_4.length c0_4,.slice A0_5 l0_5.length c0_5]) (t:=30) ?_;intro gb642 hg w18 hbox hb;have BK642:=am (hbox);have GW642:=am ((gs hg (bs HB)));have GE642:=am ((gs hg (bs HB)));replace HB:=am (below_step (bs HB) hb);clear hb hbox hg)|((with_reducible refine gate_dst (N:=3) rfl ?_);refine bx 3 (cs:=#[.int .i64 a1_0,.string a1_1,.string a1_2,.int .i64 a1_3,.slice A1_4 l1_4.length c1_4,.slice A1_5 l1_5.length c1_5]) (t:=30) ?_;intro gb643 hg w19 hbox hb;have BK643:=am (hbox);have GW643:=am ((gs hg (bs HB)));have GE643:=am ((gs hg (bs HB)));replace HB:=am (below_step (bs HB) hb);have NB642_643:=am ((gn hg (ks BK642)));have NB643_642:=am ((gm hg (ks BK642)));replace BK642:=am (blk_below (ks BK642) hb);clear hb hbox hg;have hnb20:=NB642_643.out;have hnc20:=NB643_642.out;have hcz21:=cf6 BK642;have hcz22:=cf6 BK643))
     go_ret
     exact ⟨ff,bs HB⟩
   ·intro c5 c5b0 c5b1 H;obtain rfl:=si H
    go_in
    go_wp2_with (first|((with_reducible refine gate_dst (N:=2) rfl ?_);refine bx 2 (cs:=#[.int .i64 a0_0,.string a0_1,.string a0_2,.int .i64 a0_3,.slice A0_4 l0_4.length c0_4,.slice A0_5 l0_5.length c0_5]) (t:=30) ?_;intro gb642 hg w23 hbox hb;have BK642:=am (hbox);have GW642:=am ((gs hg (bs HB)));have GE642:=am ((gs hg (bs HB)));replace HB:=am (below_step (bs HB) hb);clear hb hbox hg)|((with_reducible refine gate_dst (N:=3) rfl ?_);refine bx 3 (cs:=#[.int .i64 a1_0,.string a1_1,.string a1_2,.int .i64 a1_3,.slice A1_4 l1_4.length c1_4,.slice A1_5 l1_5.length c1_5]) (t:=30) ?_;intro gb643 hg w24 hbox hb;have BK643:=am (hbox);have GW643:=am ((gs hg (bs HB)));have GE643:=am ((gs hg (bs HB)));replace HB:=am (below_step (bs HB) hb);have NB642_643:=am ((gn hg (ks BK642)));have NB643_642:=am ((gm hg (ks BK642)));replace BK642:=am (blk_below (ks BK642) hb);clear hb hbox hg;have hnb25:=NB642_643.out;have hnc25:=NB643_642.out;have hcz26:=cf6 BK642;have hcz27:=cf6 BK643))
    go_ret
    exact ⟨ff,bs HB⟩
  ·intro c4 c4b0 c4b1 H;obtain rfl:=si H
   go_in
   go_wp2_with (first|((with_reducible refine gate_dst (N:=2) rfl ?_);refine bx 2 (cs:=#[.int .i64 a0_0,.string a0_1,.string a0_2,.int .i64 a0_3,.slice A0_4 l0_4.length c0_4,.slice A0_5 l0_5.length c0_5]) (t:=30) ?_;intro gb642 hg w28 hbox hb;have BK642:=am (hbox);have GW642:=am ((gs hg (bs HB)));have GE642:=am ((gs hg (bs HB)));replace HB:=am (below_step (bs HB) hb);clear hb hbox hg)|((with_reducible refine gate_dst (N:=3) rfl ?_);refine bx 3 (cs:=#[.int .i64 a1_0,.string a1_1,.string a1_2,.int .i64 a1_3,.slice A1_4 l1_4.length c1_4,.slice A1_5 l1_5.length c1_5]) (t:=30) ?_;intro gb643 hg w29 hbox hb;have BK643:=am (hbox);have GW643:=am ((gs hg (bs HB)));have GE643:=am ((gs hg (bs HB)));replace HB:=am (below_step (bs HB) hb);have NB642_643:=am ((gn hg (ks BK642)));have NB643_642:=am ((gm hg (ks BK642)));replace BK642:=am (blk_below (ks BK642) hb);clear hb hbox hg;have hnb30:=NB642_643.out;have hnc30:=NB643_642.out;have hcz31:=cf6 BK642;have hcz32:=cf6 BK643))
   go_ret
   exact ⟨ff,bs HB⟩
 ·intro c3 c3b0 c3b1 H;obtain rfl:=si H
  go_in
  go_wp2_with (first|((with_reducible refine gate_dst (N:=2) rfl ?_);refine bx 2 (cs:=#[.int .i64 a0_0,.string a0_1,.string a0_2,.int .i64 a0_3,.slice A0_4 l0_4.length c0_4,.slice A0_5 l0_5.length c0_5]) (t:=30) ?_;intro gb642 hg w33 hbox hb;have BK642:=am (hbox);have GW642:=am ((gs hg (bs HB)));have GE642:=am ((gs hg (bs HB)));replace HB:=am (below_step (bs HB) hb);clear hb hbox hg)|((with_reducible refine gate_dst (N:=3) rfl ?_);refine bx 3 (cs:=#[.int .i64 a1_0,.string a1_1,.string a1_2,.int .i64 a1_3,.slice A1_4 l1_4.length c1_4,.slice A1_5 l1_5.length c1_5]) (t:=30) ?_;intro gb643 hg w34 hbox hb;have BK643:=am (hbox);have GW643:=am ((gs hg (bs HB)));have GE643:=am ((gs hg (bs HB)));replace HB:=am (below_step (bs HB) hb);have NB642_643:=am ((gn hg (ks BK642)));have NB643_642:=am ((gm hg (ks BK642)));replace BK642:=am (blk_below (ks BK642) hb);clear hb hbox hg;have hnb35:=NB642_643.out;have hnc35:=NB643_642.out;have hcz36:=cf6 BK642;have hcz37:=cf6 BK643))
  go_ret
  exact ⟨ff,bs HB⟩
set_option maxHeartbeats 8000000 in
set_option maxRecDepth 100000 in
theorem impl_counts.calls (a0:Int) (r:Bool) (w:World) (H:impl_counts.f a0=some r) :
  Calls Tryz.prog 89 #[.int .i64 a0] w fun e w'=>e=.returned (.bool r)∧Drawn0 w w':=by
 unfold impl_counts.f at H;replace H:=bo H;obtain ⟨t646,A2,H⟩:=H;obtain rfl:=si H
 go_in
 go_wp2_with (first|((first|((with_reducible refine gate_callee (f:=40) rfl ?_);refine goesL_ (some 4) rfl rfl Tryz.func40 (by kernel_rfl) rfl #[.int .i64 a0,.int .i64 1,.int .i64 4] rfl (by (try simp only [List.map_toArray,List.map_cons,List.map_nil]);first|done|rfl|(simp only [List.length_drop,List.length_take];rfl)) ?_;(with_reducible refine (impl_within.calls a0 1 4 t646 _ A2.out).mono ?_);rintro e w' ⟨rfl,⟨nd,rfl⟩⟩;refine ⟨_,rfl,?_⟩)|(go_at_call 40;(with_reducible refine (impl_within.calls a0 1 4 t646 _ A2.out).mono ?_);rintro e w' ⟨rfl,⟨nd,rfl⟩⟩))))
 go_ret
 exact ⟨fg,by repeat (first|exact Drawn0.refl _|apply Drawn0.step)⟩
set_option maxHeartbeats 8000000 in
set_option maxRecDepth 100000 in
theorem impl_namesItems.calls (a0:Int) (r:Bool) (w:World) (H:impl_namesItems.f a0=some r) :
  Calls Tryz.prog 90 #[.int .i64 a0] w fun e w'=>e=.returned (.bool r)∧Drawn0 w w':=by
 unfold impl_namesItems.f at H
 revert H;refine ie2 ?_ ?_
 ·intro c2b0 c2b1 H;obtain rfl:=si H
  go_in
  go_wp2
  go_ret
  exact ⟨fg,by repeat (first|exact Drawn0.refl _|apply Drawn0.step)⟩
 ·intro c2 c2b0 c2b1 H
  revert H;refine ie2 ?_ ?_
  ·intro c3b0 c3b1 H;obtain rfl:=si H
   go_in
   go_wp2
   go_ret
   exact ⟨fg,by repeat (first|exact Drawn0.refl _|apply Drawn0.step)⟩
  ·intro c3 c3b0 c3b1 H;obtain rfl:=si H
   go_in
   go_wp2
   go_ret
   exact ⟨fg,by repeat (first|exact Drawn0.refl _|apply Drawn0.step)⟩
def IsS71 (w0 W:World) (g:Nat) (f0:Int) (f1:ByteArray) (f2:Int) (f3:Int) (f4:ByteArray):Prop:=W.heap[g]? = some (.cells #[.int .i64 f0,.string f1,.int .i64 f2,.int .i64 f3,.string f4] 71 (0,0))∧w0.heap.size≤g
theorem IsS71.grown {w0 W:World} {g:Nat} {f0:Int} {f1:ByteArray} {f2:Int} {f3:Int} {f4:ByteArray} {W1:World} {row:Option Nat} (h:IsS71 w0 W g f0 f1 f2 f3 f4) (hw:W.grownBy W1 row) (hne:some g≠row):IsS71 w0 W1 g f0 f1 f2 f3 f4:=by
 obtain ⟨hb,hg⟩:=h
 exact ⟨blk_grown hb hw hne,hg⟩
theorem IsS71.kept {w0 W:World} {g:Nat} {f0:Int} {f1:ByteArray} {f2:Int} {f3:Int} {f4:ByteArray} {W1:World} {S:Nat→Prop} (h:IsS71 w0 W g f0 f1 f2 f3 f4) (hk:Kept W W1 S) (hne:¬ S g):IsS71 w0 W1 g f0 f1 f2 f3 f4:=by
 obtain ⟨hb,hg⟩:=h
 exact ⟨blk_kept hb hk hne,hg⟩
theorem IsS71.below {w0 W:World} {g:Nat} {f0:Int} {f1:ByteArray} {f2:Int} {f3:Int} {f4:ByteArray} {W1:World} (h:IsS71 w0 W g f0 f1 f2 f3 f4) (hw:Below W.heap.size W W1):IsS71 w0 W1 g f0 f1 f2 f3 f4:=h.grown (grown_of_below hw none) (by simp)
theorem IsS71.alloc {w0 W:World} {g:Nat} {f0:Int} {f1:ByteArray} {f2:Int} {f3:Int} {f4:ByteArray} (h:IsS71 w0 W g f0 f1 f2 f3 f4) (o:Obj):IsS71 w0 (W.alloc o) g f0 f1 f2 f3 f4:=h.below (below_alloc (Below.refl _ _) o)
theorem IsS71.drewN {w0 W:World} {g:Nat} {f0:Int} {f1:ByteArray} {f2:Int} {f3:Int} {f4:ByteArray} (h:IsS71 w0 W g f0 f1 f2 f3 f4) (m:Nat):IsS71 w0 (W.drewN m) g f0 f1 f2 f3 f4:=h
theorem IsS71.drew {w0 W:World} {g:Nat} {f0:Int} {f1:ByteArray} {f2:Int} {f3:Int} {f4:ByteArray} (h:IsS71 w0 W g f0 f1 f2 f3 f4):IsS71 w0 W.drew g f0 f1 f2 f3 f4:=h
theorem IsS71.at_ {w0 W:World} {g:Nat} {f0:Int} {f1:ByteArray} {f2:Int} {f3:Int} {f4:ByteArray} {w':World} {m:Nat} (hq:W.drewN m=w') (h:IsS71 w0 W g f0 f1 f2 f3 f4):IsS71 w0 w' g f0 f1 f2 f3 f4:=by subst hq;exact IsS71.drewN h m
theorem IsS71.apart {w0 W:World} {g:Nat} {f0:Int} {f1:ByteArray} {f2:Int} {f3:Int} {f4:ByteArray} {α:Type} {d:Kd α} {e:Nat} {base:Nat} {ok:Nat→Prop} {v:Value} {xs:List α} (h:IsS71 w0 W g f0 f1 f2 f3 f4) (ho:d.R e W base ok v xs) (ht:∀ q,q ∈ e :: d.E→q≠71):d.R e W base (fun k=>ok k∧k≠g) v xs:=by
 obtain ⟨hb,hg⟩:=h
 exact Kd.R_types ho hb ht
theorem IsS71.own_ne {w0 W:World} {g:Nat} {f0:Int} {f1:ByteArray} {f2:Int} {f3:Int} {f4:ByteArray} {α:Type} {d:Kd α} {e:Nat} {base:Nat} {ok:Nat→Prop} {v:Value} {xs:List α} (h:IsS71 w0 W g f0 f1 f2 f3 f4) (ho:d.R e W base ok v xs) (ht:e≠71):some g≠v.ownBlock:=by
 obtain ⟨hb,hg⟩:=h
 exact Kd.R_ne ho hb ht
theorem IsS71.lt {w0 W:World} {g:Nat} {f0:Int} {f1:ByteArray} {f2:Int} {f3:Int} {f4:ByteArray} (h:IsS71 w0 W g f0 f1 f2 f3 f4):g<W.heap.size:=by
 obtain ⟨hb,hg⟩:=h
 exact blk_lt hb
theorem IsS71.ge {w0 W:World} {g:Nat} {f0:Int} {f1:ByteArray} {f2:Int} {f3:Int} {f4:ByteArray} (h:IsS71 w0 W g f0 f1 f2 f3 f4):w0.heap.size≤g:=by
 obtain ⟨hb,hg⟩:=h
 exact hg
theorem IsS71.far {w0 W:World} {g:Nat} {f0:Int} {f1:ByteArray} {f2:Int} {f3:Int} {f4:ByteArray} {p:Addr} (h:IsS71 w0 W g f0 f1 f2 f3 f4) (hne:g≠p.block) (u:Value):IsS71 w0 (W.setCell p u) g f0 f1 f2 f3 f4:=by
 obtain ⟨hb,hg⟩:=h
 exact ⟨blk_far hb hne u,hg⟩
theorem cellS71_0 {W:World} {g:Nat} {f0:Int} {f1:ByteArray} {f2:Int} {f3:Int} {f4:ByteArray} (h:W.heap[g]? = some (.cells #[.int .i64 f0,.string f1,.int .i64 f2,.int .i64 f3,.string f4] 71 (0,0))):W.cell? ⟨g,0,none⟩=some (.int .i64 f0):=(blk_cell h 0).trans rfl
theorem IsS71.set_0 {w0 W:World} {g:Nat} {f0:Int} {f1:ByteArray} {f2:Int} {f3:Int} {f4:ByteArray} (h:IsS71 w0 W g f0 f1 f2 f3 f4) (x:Int):IsS71 w0 (W.setCell ⟨g,0,none⟩ (.int .i64 x)) g x f1 f2 f3 f4:=by
 obtain ⟨hb,hg⟩:=h
 exact ⟨by simpa using blk_set hb 0 (.int .i64 x),hg⟩
theorem cellS71_1 {W:World} {g:Nat} {f0:Int} {f1:ByteArray} {f2:Int} {f3:Int} {f4:ByteArray} (h:W.heap[g]? = some (.cells #[.int .i64 f0,.string f1,.int .i64 f2,.int .i64 f3,.string f4] 71 (0,0))):W.cell? ⟨g,1,none⟩=some (.string f1):=(blk_cell h 1).trans rfl
theorem IsS71.set_1 {w0 W:World} {g:Nat} {f0:Int} {f1:ByteArray} {f2:Int} {f3:Int} {f4:ByteArray} (h:IsS71 w0 W g f0 f1 f2 f3 f4) (x:ByteArray):IsS71 w0 (W.setCell ⟨g,1,none⟩ (.string x)) g f0 x f2 f3 f4:=by
 obtain ⟨hb,hg⟩:=h
 exact ⟨by simpa using blk_set hb 1 (.string x),hg⟩
theorem cellS71_2 {W:World} {g:Nat} {f0:Int} {f1:ByteArray} {f2:Int} {f3:Int} {f4:ByteArray} (h:W.heap[g]? = some (.cells #[.int .i64 f0,.string f1,.int .i64 f2,.int .i64 f3,.string f4] 71 (0,0))):W.cell? ⟨g,2,none⟩=some (.int .i64 f2):=(blk_cell h 2).trans rfl
theorem IsS71.set_2 {w0 W:World} {g:Nat} {f0:Int} {f1:ByteArray} {f2:Int} {f3:Int} {f4:ByteArray} (h:IsS71 w0 W g f0 f1 f2 f3 f4) (x:Int):IsS71 w0 (W.setCell ⟨g,2,none⟩ (.int .i64 x)) g f0 f1 x f3 f4:=by
 obtain ⟨hb,hg⟩:=h
 exact ⟨by simpa using blk_set hb 2 (.int .i64 x),hg⟩
theorem cellS71_3 {W:World} {g:Nat} {f0:Int} {f1:ByteArray} {f2:Int} {f3:Int} {f4:ByteArray} (h:W.heap[g]? = some (.cells #[.int .i64 f0,.string f1,.int .i64 f2,.int .i64 f3,.string f4] 71 (0,0))):W.cell? ⟨g,3,none⟩=some (.int .i64 f3):=(blk_cell h 3).trans rfl
theorem IsS71.set_3 {w0 W:World} {g:Nat} {f0:Int} {f1:ByteArray} {f2:Int} {f3:Int} {f4:ByteArray} (h:IsS71 w0 W g f0 f1 f2 f3 f4) (x:Int):IsS71 w0 (W.setCell ⟨g,3,none⟩ (.int .i64 x)) g f0 f1 f2 x f4:=by
 obtain ⟨hb,hg⟩:=h
 exact ⟨by simpa using blk_set hb 3 (.int .i64 x),hg⟩
theorem cellS71_4 {W:World} {g:Nat} {f0:Int} {f1:ByteArray} {f2:Int} {f3:Int} {f4:ByteArray} (h:W.heap[g]? = some (.cells #[.int .i64 f0,.string f1,.int .i64 f2,.int .i64 f3,.string f4] 71 (0,0))):W.cell? ⟨g,4,none⟩=some (.string f4):=(blk_cell h 4).trans rfl
theorem IsS71.set_4 {w0 W:World} {g:Nat} {f0:Int} {f1:ByteArray} {f2:Int} {f3:Int} {f4:ByteArray} (h:IsS71 w0 W g f0 f1 f2 f3 f4) (x:ByteArray):IsS71 w0 (W.setCell ⟨g,4,none⟩ (.string x)) g f0 f1 f2 f3 x:=by
 obtain ⟨hb,hg⟩:=h
 exact ⟨by simpa using blk_set hb 4 (.string x),hg⟩
set_option maxHeartbeats 8000000 in
set_option maxRecDepth 100000 in
theorem impl_wrongLine_1.calls (a0_0:Int) (a0_1:ByteArray) (a0_2:Int) (a0_3:Int) (a0_4:ByteArray) (g:Nat) (s1_0:Int) (s1_1:ByteArray) (s1_2:Int) (s1_3:Int) (s1_4:ByteArray) (r1:Bool) (r2:Int) (r3:ByteArray) (r4:Int) (r5:Int) (r6:ByteArray) (w0 w:World) (hI:IsS71 w0 w g s1_0 s1_1 s1_2 s1_3 s1_4) (hB:Below w0.heap.size w0 w) (H:impl_wrongLine_1.f a0_0 a0_1 a0_2 a0_3 a0_4 s1_0 s1_1 s1_2 s1_3 s1_4=some (r1,r2,r3,r4,r5,r6)) :
  Calls Tryz.prog 92 #[.agg #[.int .i64 a0_0,.string a0_1,.int .i64 a0_2,.int .i64 a0_3,.string a0_4],.pointer (some ⟨g,0,none⟩)] w fun e w'=>e=.returned (.bool r1)∧IsS71 w0 w' g r2 r3 r4 r5 r6∧Below w0.heap.size w0 w'∧KeepBut w w' g none:=by
 have hu71:=Tryz.underlying71;have HI1:=am hI;have HK:=am (KeepBut.refl w g none);have HL:=am hB.size;clear hI;have HW0:=am hB.size;have HB:=am hB;clear hB;unfold impl_wrongLine_1.f at H;replace H:=sj6 H;obtain ⟨rfl,rfl,rfl,rfl,rfl,rfl⟩:=H
 go_in
 go_wp2_with (first|((with_reducible refine gate_dst (N:=2) rfl ?_);refine bx 2 (cs:=#[.int .i64 a0_0,.string a0_1,.int .i64 a0_2,.int .i64 a0_3,.string a0_4]) (t:=71) ?_;intro gb647 hg w3 hbox hb;have n0_:=am (IsS71.below (by repeat (first|(with_reducible first|exact HI1.out|apply IsS71.alloc|apply IsS71.drewN|apply IsS71.drew|apply IsS71.set_0|apply IsS71.set_1|apply IsS71.set_2|apply IsS71.set_3|apply IsS71.set_4)|exact HI1.out)) hb);have n1_:=am (KeepBut.trans (by repeat (first|(with_reducible first|exact HK.out|apply KeepBut.set_|apply keep_drewN|apply keep_drew|apply keep_alloc)|exact HK.out)) (KeepBut.of_below hb g none) (.inl rfl));have n2_:=am (below_step (by repeat (first|(with_reducible first|exact HB.out|apply below_alloc|apply pw_below_drewN|apply below_drew1|refine below_set ?_ (IsS71.ge HI1.out))|exact HB.out)) hb);have n3_:=am (hbox);have n4_:=am ((by rw [hg];exact (keep_size (w:=w) (g:=g) (row:=none) (by repeat (first|(with_reducible first|exact HK.out|apply KeepBut.set_|apply keep_drewN|apply keep_drew|apply keep_alloc)|exact HK.out))):w.heap.size≤gb647));have n5_:=am ((Nat.le_trans HW0.out (by rw [hg];exact (keep_size (w:=w) (g:=g) (row:=none) (by repeat (first|(with_reducible first|exact HK.out|apply KeepBut.set_|apply keep_drewN|apply keep_drew|apply keep_alloc)|exact HK.out))):w.heap.size≤gb647):w0.heap.size≤gb647));have n6_:=am ((by rw [hg];exact Nat.ne_of_lt (IsS71.lt (show IsS71 w0 _ g s1_0 s1_1 s1_2 s1_3 s1_4 from by repeat (first|(with_reducible first|exact HI1.out|apply IsS71.alloc|apply IsS71.drewN|apply IsS71.drew|apply IsS71.set_0|apply IsS71.set_1|apply IsS71.set_2|apply IsS71.set_3|apply IsS71.set_4)|exact HI1.out))):g≠gb647));have n7_:=am ((by rw [hg];exact Nat.ne_of_gt (IsS71.lt (show IsS71 w0 _ g s1_0 s1_1 s1_2 s1_3 s1_4 from by repeat (first|(with_reducible first|exact HI1.out|apply IsS71.alloc|apply IsS71.drewN|apply IsS71.drew|apply IsS71.set_0|apply IsS71.set_1|apply IsS71.set_2|apply IsS71.set_3|apply IsS71.set_4)|exact HI1.out))):gb647≠g));clear HI1;clear HK;clear HB;have HI1:=n0_;have HK:=n1_;have HB:=n2_;have BK647:=n3_;have GW647:=n4_;have GE647:=n5_;have NB1_647:=n6_;have NB647_1:=n7_;clear n0_ n1_ n2_ n3_ n4_ n5_ n6_ n7_;clear hb hbox hg;have hnb4:=NB647_1.out;have hnc4:=NB1_647.out;have hcz5:=cf5 BK647;obtain ⟨HGz6,hgz6⟩:=HI1.out;have hcz6_0:=cellS71_0 HGz6;have hcz6_1:=cellS71_1 HGz6;have hcz6_2:=cellS71_2 HGz6;have hcz6_3:=cellS71_3 HGz6;have hcz6_4:=cellS71_4 HGz6;have hfz6_0:=blk_frozen HGz6 0;have hfz6_1:=blk_frozen HGz6 1;have hfz6_2:=blk_frozen HGz6 2;have hfz6_3:=blk_frozen HGz6 3;have hfz6_4:=blk_frozen HGz6 4;clear HGz6 hgz6))
 go_ret
 exact ⟨ff,by repeat (first|(with_reducible first|exact HI1.out|apply IsS71.alloc|apply IsS71.drewN|apply IsS71.drew|apply IsS71.set_0|apply IsS71.set_1|apply IsS71.set_2|apply IsS71.set_3|apply IsS71.set_4|refine IsS71.far ?_ NB1_647.out _)|exact HI1.out),by repeat (first|(with_reducible first|exact HB.out|apply below_alloc|apply pw_below_drewN|apply below_drew1|refine below_set ?_ (IsS71.ge HI1.out)|refine below_set ?_ GE647.out)|exact HB.out),by repeat (first|(with_reducible first|exact HK.out|apply KeepBut.set_|apply keep_drewN|apply keep_drew|apply keep_alloc|refine keep_far ?_ GW647.out _)|exact HK.out)⟩
set_option maxHeartbeats 8000000 in
set_option maxRecDepth 100000 in
theorem impl_Line_impl_wrongLine_1_121.calls (k:Nat) (A0:Option Addr) (c0:Nat) (l0:List (S71)) (g:Nat) (s1_0:Int) (s1_1:ByteArray) (s1_2:Int) (s1_3:Int) (s1_4:ByteArray) (r1:Int) (r2:Int) (r3:ByteArray) (r4:Int) (r5:Int) (r6:ByteArray) (w0 w:World) (hI:IsS71 w0 w g s1_0 s1_1 s1_2 s1_3 s1_4) (hB:Below w0.heap.size w0 w) (hr0:∀ W_,KeepBut w W_ g none→Kd.C k71 W_ A0 l0.length l0) (hc0:l0.length≤c0) (H:impl_Line_impl_wrongLine_1_121.f k l0 s1_0 s1_1 s1_2 s1_3 s1_4=some (r1,r2,r3,r4,r5,r6)) :
  Calls Tryz.prog 121 #[.slice A0 l0.length c0,.func (.func 92) #[] #[.pointer (some ⟨g,0,none⟩)]] w fun e w'=>e=.returned (.int .i64 r1)∧IsS71 w0 w' g r2 r3 r4 r5 r6∧Below w0.heap.size w0 w'∧KeepBut w w' g none:=by
 have hu71:=Tryz.underlying71;have HR0:=am hr0;have HC0:=am hc0;clear hr0 hc0;have HI1:=am hI;have HK:=am (KeepBut.refl w g none);have HL:=am hB.size;clear hI;have HW0:=am hB.size;have HB:=am hB;clear hB;unfold impl_Line_impl_wrongLine_1_121.f at H;have H':=am H;clear H
 go_in
 go_wp2
 go_loopg [8] k (fun kq v8 w'=>∃ (x8_1:Int) (x2000_1:Int) (x2001_1:ByteArray) (x2002_1:Int) (x2003_1:Int) (x2004_1:ByteArray),v8=.int .i64 x8_1∧Aside0 (impl_Line_impl_wrongLine_1_121.l0 kq l0 (l0.length:Int) x8_1 x2000_1 x2001_1 x2002_1 x2003_1 x2004_1=some (r1,r2,r3,r4,r5,r6))∧Aside0 (kq≤k)∧Aside0 (IsS71 w0 w' g x2000_1 x2001_1 x2002_1 x2003_1 x2004_1)∧Aside0 (KeepBut w w' g none)∧Aside0 (Below w0.heap.size w0 w'))
 case atStart=>exact ⟨(0),(s1_0),(s1_1),(s1_2),(s1_3),(s1_4),fg,H',⟨Nat.le_refl _⟩,⟨by repeat (first|(with_reducible first|exact HI1.out|apply IsS71.alloc|apply IsS71.drewN|apply IsS71.drew|apply IsS71.set_0|apply IsS71.set_1|apply IsS71.set_2|apply IsS71.set_3|apply IsS71.set_4)|exact HI1.out)⟩,⟨by repeat (first|(with_reducible first|exact HK.out|apply KeepBut.set_|apply keep_drewN|apply keep_drew|apply keep_alloc)|exact HK.out)⟩,⟨by repeat (first|(with_reducible first|exact HB.out|apply below_alloc|apply pw_below_drewN|apply below_drew1|refine below_set ?_ (IsS71.ge HI1.out))|exact HB.out)⟩⟩
 case round =>
  clear H'
  obtain ⟨x8_1,x2000_1,x2001_1,x2002_1,x2003_1,x2004_1,rfl,HA,HK1,HI1,HK,HB⟩:=hrel
  cases gk with
  | zero=>exact absurd HA.out (by simp [impl_Line_impl_wrongLine_1_121.l0])
  | succ k1 =>
   have H:=HA.out;clear HA;simp only [impl_Line_impl_wrongLine_1_121.l0] at H
   revert H;refine id2 ?_ ?_
   ·intro c3b0 H
    revert H;refine id1 ?_
    intro c4b0 H
    revert H;refine id1 ?_
    intro c5b0 H;replace H:=bo H;obtain ⟨⟨t649,t650,t651,t652,t653,t654⟩,A6,H⟩:=H;(try dsimp only at H);have p648:0≤(x8_1:Int):=oa;have q648:x8_1<(l0.length:Int):=oa;obtain ⟨ad648,e648,hx648_0,hx648_1,hx648_2,hx648_3,hx648_4⟩:=at_T71 (Kd.C_foot_now HR0.out HK.out) x8_1 p648 q648
    cases e648
    replace p648:=eq_true p648;replace q648:=eq_true q648
    try go_wp2_with (fail)
    go_at_call 92;(with_reducible refine (impl_wrongLine_1.calls ((rd_T71 l0 x8_1).f0) ((rd_T71 l0 x8_1).f1) ((rd_T71 l0 x8_1).f2) ((rd_T71 l0 x8_1).f3) ((rd_T71 l0 x8_1).f4) g x2000_1 x2001_1 x2002_1 x2003_1 x2004_1 t649 t650 t651 t652 t653 t654 w0 _ ?side1 ?side2 A6.out).mono ?_);(case side1=>repeat (first|(with_reducible first|exact HI1.out|apply IsS71.alloc|apply IsS71.drewN|apply IsS71.drew|apply IsS71.set_0|apply IsS71.set_1|apply IsS71.set_2|apply IsS71.set_3|apply IsS71.set_4)|exact HI1.out));(case side2=>repeat (first|(with_reducible first|exact HB.out|apply below_alloc|apply pw_below_drewN|apply below_drew1|refine below_set ?_ (IsS71.ge HI1.out))|exact HB.out));rintro e w7 ⟨rfl,hi,hb,hk⟩;replace HK:=am (KeepBut.trans (by repeat (first|(with_reducible first|exact HK.out|apply KeepBut.set_|apply keep_drewN|apply keep_drew|apply keep_alloc)|exact HK.out)) hk (.inl rfl));replace HB:=am (hb);replace HI1:=am (hi);(try clear hb);(try clear hb2);(try clear hk);(try clear hi)
    obtain rfl|rfl:=bt t649
    ·replace H:=itT H;replace H:=sj6 H;obtain ⟨rfl,rfl,rfl,rfl,rfl,rfl⟩:=H
     go_wp2
     go_ret
     exact ⟨ff,by repeat (first|(with_reducible first|exact HI1.out|apply IsS71.alloc|apply IsS71.drewN|apply IsS71.drew|apply IsS71.set_0|apply IsS71.set_1|apply IsS71.set_2|apply IsS71.set_3|apply IsS71.set_4)|exact HI1.out),by repeat (first|(with_reducible first|exact HB.out|apply below_alloc|apply pw_below_drewN|apply below_drew1|refine below_set ?_ (IsS71.ge HI1.out))|exact HB.out),by repeat (first|(with_reducible first|exact HK.out|apply KeepBut.set_|apply keep_drewN|apply keep_drew|apply keep_alloc)|exact HK.out)⟩
    ·replace H:=itF H;have H':=am H;clear H
     go_wp2
     go_roundg k1
     case measure=>have:=HK1.out;omega
     case rel=>exact ⟨(wrap64 (x8_1+1)),(t650),(t651),(t652),(t653),(t654),fg,H',⟨by have:=HK1.out;omega⟩,⟨by repeat (first|(with_reducible first|exact HI1.out|apply IsS71.alloc|apply IsS71.drewN|apply IsS71.drew|apply IsS71.set_0|apply IsS71.set_1|apply IsS71.set_2|apply IsS71.set_3|apply IsS71.set_4)|exact HI1.out)⟩,⟨by repeat (first|(with_reducible first|exact HK.out|apply KeepBut.set_|apply keep_drewN|apply keep_drew|apply keep_alloc)|exact HK.out)⟩,⟨by repeat (first|(with_reducible first|exact HB.out|apply below_alloc|apply pw_below_drewN|apply below_drew1|refine below_set ?_ (IsS71.ge HI1.out))|exact HB.out)⟩⟩
   ·intro c3b0 H;replace H:=sj6 H;obtain ⟨rfl,rfl,rfl,rfl,rfl,rfl⟩:=H
    go_wp2
    go_ret
    exact ⟨ff,by repeat (first|(with_reducible first|exact HI1.out|apply IsS71.alloc|apply IsS71.drewN|apply IsS71.drew|apply IsS71.set_0|apply IsS71.set_1|apply IsS71.set_2|apply IsS71.set_3|apply IsS71.set_4)|exact HI1.out),by repeat (first|(with_reducible first|exact HB.out|apply below_alloc|apply pw_below_drewN|apply below_drew1|refine below_set ?_ (IsS71.ge HI1.out))|exact HB.out),by repeat (first|(with_reducible first|exact HK.out|apply KeepBut.set_|apply keep_drewN|apply keep_drew|apply keep_alloc)|exact HK.out)⟩
set_option maxHeartbeats 8000000 in
set_option maxRecDepth 100000 in
theorem impl_Line_impl_wrongLine_1_91.calls (k:Nat) (A0:Option Addr) (c0:Nat) (l0:List (S71)) (g:Nat) (s1_0:Int) (s1_1:ByteArray) (s1_2:Int) (s1_3:Int) (s1_4:ByteArray) (r1:Bool) (r2:Int) (r3:ByteArray) (r4:Int) (r5:Int) (r6:ByteArray) (w0 w:World) (hI:IsS71 w0 w g s1_0 s1_1 s1_2 s1_3 s1_4) (hB:Below w0.heap.size w0 w) (hr0:∀ W_,KeepBut w W_ g none→Kd.C k71 W_ A0 l0.length l0) (hc0:l0.length≤c0) (H:impl_Line_impl_wrongLine_1_91.f k l0 s1_0 s1_1 s1_2 s1_3 s1_4=some (r1,r2,r3,r4,r5,r6)) :
  Calls Tryz.prog 91 #[.slice A0 l0.length c0,.func (.func 92) #[] #[.pointer (some ⟨g,0,none⟩)]] w fun e w'=>e=.returned (.bool r1)∧IsS71 w0 w' g r2 r3 r4 r5 r6∧Below w0.heap.size w0 w'∧KeepBut w w' g none:=by
 have HR0:=am hr0;have HC0:=am hc0;clear hr0 hc0;have HI1:=am hI;have HK:=am (KeepBut.refl w g none);have HL:=am hB.size;clear hI;have HW0:=am hB.size;have HB:=am hB;clear hB;unfold impl_Line_impl_wrongLine_1_91.f at H;replace H:=bo H;obtain ⟨⟨t655,t656,t657,t658,t659,t660⟩,A3,H⟩:=H;(try dsimp only at H);replace H:=sj6 H;obtain ⟨rfl,rfl,rfl,rfl,rfl,rfl⟩:=H
 go_in
 go_wp2_with (first|((first|((with_reducible refine gate_callee (f:=121) rfl ?_);refine goesL_ (some 7) rfl rfl Tryz.func121 (by kernel_rfl) rfl #[.slice A0 l0.length c0,.func (.func 92) #[] #[.pointer (some ⟨g,0,none⟩)]] rfl (by (try simp only [List.map_toArray,List.map_cons,List.map_nil]);first|done|rfl|(simp only [List.length_drop,List.length_take];rfl)) ?_;(with_reducible refine (impl_Line_impl_wrongLine_1_121.calls k _ _ l0 g s1_0 s1_1 s1_2 s1_3 s1_4 t655 t656 t657 t658 t659 t660 w0 _ ?side1 ?side2 ?side3 HC0.out A3.out).mono ?_);(case side1=>repeat (first|(with_reducible first|exact HI1.out|apply IsS71.alloc|apply IsS71.drewN|apply IsS71.drew|apply IsS71.set_0|apply IsS71.set_1|apply IsS71.set_2|apply IsS71.set_3|apply IsS71.set_4)|exact HI1.out));(case side2=>repeat (first|(with_reducible first|exact HB.out|apply below_alloc|apply pw_below_drewN|apply below_drew1|refine below_set ?_ (IsS71.ge HI1.out))|exact HB.out));(case side3=>exact Kd.C_foot_step HR0.out (by repeat (first|(with_reducible first|exact HK.out|apply KeepBut.set_|apply keep_drewN|apply keep_drew|apply keep_alloc)|exact HK.out)));rintro e w4 ⟨rfl,hi,hb,hk⟩;refine ⟨_,rfl,?_⟩)|(go_at_call 121;(with_reducible refine (impl_Line_impl_wrongLine_1_121.calls k _ _ l0 g s1_0 s1_1 s1_2 s1_3 s1_4 t655 t656 t657 t658 t659 t660 w0 _ ?side1 ?side2 ?side3 HC0.out A3.out).mono ?_);(case side1=>repeat (first|(with_reducible first|exact HI1.out|apply IsS71.alloc|apply IsS71.drewN|apply IsS71.drew|apply IsS71.set_0|apply IsS71.set_1|apply IsS71.set_2|apply IsS71.set_3|apply IsS71.set_4)|exact HI1.out));(case side2=>repeat (first|(with_reducible first|exact HB.out|apply below_alloc|apply pw_below_drewN|apply below_drew1|refine below_set ?_ (IsS71.ge HI1.out))|exact HB.out));(case side3=>exact Kd.C_foot_step HR0.out (by repeat (first|(with_reducible first|exact HK.out|apply KeepBut.set_|apply keep_drewN|apply keep_drew|apply keep_alloc)|exact HK.out)));rintro e w4 ⟨rfl,hi,hb,hk⟩));replace HK:=am (KeepBut.trans (by repeat (first|(with_reducible first|exact HK.out|apply KeepBut.set_|apply keep_drewN|apply keep_drew|apply keep_alloc)|exact HK.out)) hk (.inl rfl));replace HB:=am (hb);replace HI1:=am (hi);(try clear hb);(try clear hb2);(try clear hk);(try clear hi)))
 go_ret
 exact ⟨ff,by repeat (first|(with_reducible first|exact HI1.out|apply IsS71.alloc|apply IsS71.drewN|apply IsS71.drew|apply IsS71.set_0|apply IsS71.set_1|apply IsS71.set_2|apply IsS71.set_3|apply IsS71.set_4)|exact HI1.out),by repeat (first|(with_reducible first|exact HB.out|apply below_alloc|apply pw_below_drewN|apply below_drew1|refine below_set ?_ (IsS71.ge HI1.out))|exact HB.out),by repeat (first|(with_reducible first|exact HK.out|apply KeepBut.set_|apply keep_drewN|apply keep_drew|apply keep_alloc)|exact HK.out)⟩
def impl_wrongLine.T4:Bool × List (List Nat × List Nat):=(true,[([],[]),([0],[0]),([1],[1]),([2,2],[2]),([3],[3]),([4,3],[3,4]),([5,3,3],[3,5]),([6,3],[3,6]),([7,6,3],[3,7]),([8],[8]),([9,8],[8,9]),([10,8,8],[8,10]),([11],[11]),([12,11],[11,12]),([11],[11]),([14,11],[11,14]),([11],[11]),([16,11],[11,16]),([15,17,11],[11,15,17]),([18,11],[11,18]),([19,11],[11,19]),([13,20,11],[11,13,20]),([11,21,8],[8,11,21]),([8,22,3],[3,8,22]),([3,23],[3,23])])
def impl_wrongLine.B4:List Nat:=[0,1,3,7,15,31,63,127,255,511,1023,2047,4095,8191,4095,20479,4095,69631,249855,511999,1036287,2097151,4194303,8388607,16777215]
theorem impl_wrongLine.tab4:rtab .any (opsOf Tryz.f44 4)=impl_wrongLine.T4:=by kernel_rfl
theorem impl_wrongLine.bits4:waitsOk impl_wrongLine.T4.2 impl_wrongLine.B4=true:=by kernel_rfl
set_option maxHeartbeats 8000000 in
set_option maxRecDepth 100000 in
theorem impl_wrongLine.calls (k:Nat) (a0_0:Int) (a0_1:ByteArray) (a0_2:ByteArray) (a0_3:Int) (A0_4:Option Addr) (c0_4:Nat) (l0_4:List ByteArray) (A0_5:Option Addr) (c0_5:Nat) (l0_5:List (S71)) (r:Int) (w:World) (hr0_4:Kd.C Kd.string w A0_4 l0_4.length l0_4) (hc0_4:l0_4.length≤c0_4) (hr0_5:Kd.C k71 w A0_5 l0_5.length l0_5) (hc0_5:l0_5.length≤c0_5) (H:impl_wrongLine.f k a0_0 a0_1 a0_2 a0_3 l0_4 l0_5=some r) :
  Calls Tryz.prog 44 #[.agg #[.int .i64 a0_0,.string a0_1,.string a0_2,.int .i64 a0_3,.slice A0_4 l0_4.length c0_4,.slice A0_5 l0_5.length c0_5]] w fun e w'=>e=.returned (.int .i64 r)∧Below w.heap.size w w':=by
 have hu30:=Tryz.underlying30;have hu71:=Tryz.underlying71
 have hmf:∀ (fn:Fn) (first cap:Array Value) (w:World),(Instr.makeFunc fn first cap).run Tryz.prog w=.ok (.func fn first cap) w:=fun _ _ _ _=>rfl
 have HR0_4:=am hr0_4;have HC0_4:=am hc0_4;clear hr0_4 hc0_4;have HR0_5:=am hr0_5;have HC0_5:=am hc0_5;clear hr0_5 hc0_5;have HB:=am (Below.refl w.heap.size w);unfold impl_wrongLine.f at H;have H':=am H;clear H
 go_in
 go_wp2_with (first|((with_reducible refine gate_dst (N:=1) rfl ?_);refine bx 1 (cs:=#[.int .i64 a0_0,.string a0_1,.string a0_2,.int .i64 a0_3,.slice A0_4 l0_4.length c0_4,.slice A0_5 l0_5.length c0_5]) (t:=30) ?_;intro gb661 hg w2 hbox hb;have BK661:=am (hbox);have GW661:=am ((gs hg (bs HB)));have GE661:=am ((gs hg (bs HB)));replace HB:=am (below_step (bs HB) hb);clear hb hbox hg;have hcz3:=cf6 BK661))
 go_loopg [8] k (fun kq v8 w'=>∃ (x8_1:Int),v8=.int .i64 x8_1∧Aside0 (impl_wrongLine.l0 kq l0_5 (l0_5.length:Int) x8_1 a0_0 a0_1 a0_2 a0_3 l0_4 l0_5=some r)∧Aside0 (kq≤k)∧Aside0 (w'.heap[gb661]? = some (.cells #[.int .i64 a0_0,.string a0_1,.string a0_2,.int .i64 a0_3,(.slice A0_4 l0_4.length c0_4),(.slice A0_5 l0_5.length c0_5)] 30 (0,0)))∧Aside0 (Below w.heap.size w w'))
 case atStart=>exact ⟨(0),fg,H',⟨Nat.le_refl _⟩,⟨ks BK661⟩,⟨bs HB⟩⟩
 case round =>
  clear H'
  try clear hcz3
  obtain ⟨x8_1,rfl,HA,HK1,BK661,HB⟩:=hrel
  cases gk with
  | zero=>exact absurd HA.out (by simp [impl_wrongLine.l0])
  | succ k1 =>
   have H:=HA.out;clear HA;simp only [impl_wrongLine.l0] at H
   revert H;refine id2 ?_ ?_
   ·intro c4b0 H
    revert H;refine id1 ?_
    intro c5b0 H
    revert H;refine id1 ?_
    intro c6b0 H;have HC7:=am H;clear H;have p662:0≤(x8_1:Int):=oa;have q662:x8_1<(l0_5.length:Int):=oa;obtain ⟨ad662,e662,hx662_0,hx662_1,hx662_2,hx662_3,hx662_4⟩:=at_T71 HR0_5.out x8_1 p662 q662
    cases e662
    replace hx662_0:=cb HB hx662_0;replace hx662_1:=cb HB hx662_1;replace hx662_2:=cb HB hx662_2;replace hx662_3:=cb HB hx662_3;replace hx662_4:=cb HB hx662_4;replace p662:=eq_true p662;replace q662:=eq_true q662
    go_upto_region 4 with (first|((with_reducible refine gate_dst (N:=4) rfl ?_);refine bx 4 (cs:=#[.int .i64 0,.string (⟨#[]⟩:ByteArray),.int .i64 0,.int .i64 0,.string (⟨#[]⟩:ByteArray)]) (t:=71) ?_;intro gb663 hg w8 hbox hb;have GW663:=am ((gs hg (bs HB)));have GE663:=am ((gs hg (bs HB)));have NB661_663:=am ((gn hg (ks BK661)));have NB663_661:=am ((gm hg (ks BK661)));replace BK661:=am (blk_below (ks BK661) hb);have HI663:=am ((show IsS71 w w8 gb663 0 (⟨#[]⟩:ByteArray) 0 0 (⟨#[]⟩:ByteArray) from ⟨hbox,(gs hg (bs HB))⟩));replace HB:=am (below_step (bs HB) hb);clear hb hbox hg;obtain ⟨HGz9,hgz9⟩:=HI663.out;have hcz9_0:=cellS71_0 HGz9;have hcz9_1:=cellS71_1 HGz9;have hcz9_2:=cellS71_2 HGz9;have hcz9_3:=cellS71_3 HGz9;have hcz9_4:=cellS71_4 HGz9;have hfz9_0:=blk_frozen HGz9 0;have hfz9_1:=blk_frozen HGz9 1;have hfz9_2:=blk_frozen HGz9 2;have hfz9_3:=blk_frozen HGz9 3;have hfz9_4:=blk_frozen HGz9 4;clear HGz9 hgz9))
    (try simp only [Act.put,List.setIfInBounds_toArray,List.set_cons_zero,List.set_cons_succ])
    go_cut [37] (fun v37 wc=>∃ (kq:Nat) (x37_6:Bool),v37=.bool x37_6∧Aside0 (impl_wrongLine.j1 kq x8_1 l0_5 (l0_5.length:Int) x8_1 x37_6 a0_0 a0_1 a0_2 a0_3 l0_4 l0_5 ((rd_T71 l0_5 x8_1).f0) ((rd_T71 l0_5 x8_1).f1) ((rd_T71 l0_5 x8_1).f2) ((rd_T71 l0_5 x8_1).f3) ((rd_T71 l0_5 x8_1).f4)=some r)∧Aside0 (kq≤k1)∧Aside0 (wc.heap[gb661]? = some (.cells #[.int .i64 a0_0,.string a0_1,.string a0_2,.int .i64 a0_3,(.slice A0_4 l0_4.length c0_4),(.slice (some ad662) l0_5.length c0_5)] 30 (0,0)))∧Aside0 (IsS71 w wc gb663 ((rd_T71 l0_5 x8_1).f0) ((rd_T71 l0_5 x8_1).f1) ((rd_T71 l0_5 x8_1).f2) ((rd_T71 l0_5 x8_1).f3) ((rd_T71 l0_5 x8_1).f4))∧Aside0 (Below w.heap.size w wc))
    case first =>
     have H:=HC7.out;clear HC7;replace H:=bo H;obtain ⟨t664,A10,H⟩:=H
     obtain rfl|rfl:=bt t664
     ·replace H:=itT H;replace H:=bo H;obtain ⟨t665,A12,H⟩:=H
      obtain rfl|rfl:=bt t665
      ·replace H:=itT H
       revert H;refine ip2 ?_ ?_
       ·intro c14 H;have c14b0:decide (0<x8_1)=true:=decide_eq_true c14;clear c14
        (first|rw [c14b0]|(simp only [i64_w,i32_w];rw [c14b0])|skip)
        obtain ⟨ji15,hji15⟩:∃ j_:Int,(wrap64 (x8_1 - 1))=j_:=⟨_,rfl⟩
        replace H:(if 0≤(ji15) then (if (ji15)<(l0_5.length:Int) then (impl_wrongLine.j1 k1 x8_1 l0_5 (l0_5.length:Int) x8_1 (decide (((rd_T71 l0_5 x8_1).f0)≤((rd_T71 l0_5 (ji15)).f0))) a0_0 a0_1 a0_2 a0_3 l0_4 l0_5 ((rd_T71 l0_5 x8_1).f0) ((rd_T71 l0_5 x8_1).f1) ((rd_T71 l0_5 x8_1).f2) ((rd_T71 l0_5 x8_1).f3) ((rd_T71 l0_5 x8_1).f4)) else (none)) else (none))=some r:=by first|(rw [hji15] at H;exact H)|(simp only [hji15] at H ⊢;exact H)
        (try rw [hji15] at A10)
        (try rw [hji15] at A12)
        have hji15w:(IntKind.i64.wrap (x8_1 - 1))=ji15:=(i64_w _).trans hji15
        revert H;refine id1 ?_
        intro c16b0 H
        revert H;refine id1 ?_
        intro c17b0 H;have H':=am H;clear H
        try go_wp2
        have n0_:=kz (((((w8.setCell ⟨gb663,0,none⟩ (.int .i64 ((rd_T71 l0_5 x8_1).f0))).setCell ⟨gb663,1,none⟩ (.string ((rd_T71 l0_5 x8_1).f1))).setCell ⟨gb663,2,none⟩ (.int .i64 ((rd_T71 l0_5 x8_1).f2))).setCell ⟨gb663,3,none⟩ (.int .i64 ((rd_T71 l0_5 x8_1).f3))).setCell ⟨gb663,4,none⟩ (.string ((rd_T71 l0_5 x8_1).f4))) BK661;have n1_:Aside0 (IsS71 w (((((w8.setCell ⟨gb663,0,none⟩ (.int .i64 ((rd_T71 l0_5 x8_1).f0))).setCell ⟨gb663,1,none⟩ (.string ((rd_T71 l0_5 x8_1).f1))).setCell ⟨gb663,2,none⟩ (.int .i64 ((rd_T71 l0_5 x8_1).f2))).setCell ⟨gb663,3,none⟩ (.int .i64 ((rd_T71 l0_5 x8_1).f3))).setCell ⟨gb663,4,none⟩ (.string ((rd_T71 l0_5 x8_1).f4))) gb663 ((rd_T71 l0_5 x8_1).f0) ((rd_T71 l0_5 x8_1).f1) ((rd_T71 l0_5 x8_1).f2) ((rd_T71 l0_5 x8_1).f3) ((rd_T71 l0_5 x8_1).f4)):=⟨by repeat (first|(with_reducible first|exact HI663.out|apply IsS71.alloc|apply IsS71.drewN|apply IsS71.drew|apply IsS71.set_0|apply IsS71.set_1|apply IsS71.set_2|apply IsS71.set_3|apply IsS71.set_4|refine IsS71.far ?_ NB663_661.out _)|exact HI663.out)⟩;have n2_:Aside0 (Below w.heap.size w (((((w8.setCell ⟨gb663,0,none⟩ (.int .i64 ((rd_T71 l0_5 x8_1).f0))).setCell ⟨gb663,1,none⟩ (.string ((rd_T71 l0_5 x8_1).f1))).setCell ⟨gb663,2,none⟩ (.int .i64 ((rd_T71 l0_5 x8_1).f2))).setCell ⟨gb663,3,none⟩ (.int .i64 ((rd_T71 l0_5 x8_1).f3))).setCell ⟨gb663,4,none⟩ (.string ((rd_T71 l0_5 x8_1).f4)))):=⟨by repeat (first|(with_reducible first|exact HB.out|apply below_alloc|apply pw_below_drewN|apply below_drew1|refine below_set ?_ (IsS71.ge HI663.out)|refine below_set ?_ GE661.out)|exact HB.out)⟩;(try clear BK661);(try clear HI663);(try clear HB)
        generalize (((((w8.setCell ⟨gb663,0,none⟩ (.int .i64 ((rd_T71 l0_5 x8_1).f0))).setCell ⟨gb663,1,none⟩ (.string ((rd_T71 l0_5 x8_1).f1))).setCell ⟨gb663,2,none⟩ (.int .i64 ((rd_T71 l0_5 x8_1).f2))).setCell ⟨gb663,3,none⟩ (.int .i64 ((rd_T71 l0_5 x8_1).f3))).setCell ⟨gb663,4,none⟩ (.string ((rd_T71 l0_5 x8_1).f4)))=w18 at n0_ n1_ n2_ ⊢
        have BK661:=n0_;have HI663:=n1_;have HB:=n2_;clear n0_ n1_ n2_;replace BK661:=am (blk_drew BK661.out);replace HI663:=am (IsS71.drew HI663.out);replace HB:=am (below_drew1 HB.out);have p666:0≤((ji15):Int):=oa;have q666:(ji15)<(l0_5.length:Int):=oa;obtain ⟨ad666,e666,hx666_0,hx666_1,hx666_2,hx666_3,hx666_4⟩:=at_T71 HR0_5.out (ji15) p666 q666;have hw666_4:=hx666_4;have hw666_3:=hx666_3;have hw666_2:=hx666_2;have hw666_1:=hx666_1;have hw666_0:=hx666_0;obtain rfl:ad662=ad666:=(by injection e666);replace hx666_0:=cb HB hx666_0;replace hx666_1:=cb HB hx666_1;replace hx666_2:=cb HB hx666_2;replace hx666_3:=cb HB hx666_3;replace hx666_4:=cb HB hx666_4;replace p666:=eq_true p666;replace q666:=eq_true q666;refine start_ (n:=25) (S:=fun w'=>qk6a w' gb661 (.int .i64 a0_0) (.string a0_1) (.string a0_2) (.int .i64 a0_3) (.slice A0_4 l0_4.length c0_4) (.slice (some ad662) l0_5.length c0_5) (qk5a w' gb663 (.int .i64 ((rd_T71 l0_5 x8_1).f0)) (.string ((rd_T71 l0_5 x8_1).f1)) (.int .i64 ((rd_T71 l0_5 x8_1).f2)) (.int .i64 ((rd_T71 l0_5 x8_1).f3)) (.string ((rd_T71 l0_5 x8_1).f4)) (qe5 w' (ad662.add (((ji15)).toNat * 5)) (.int .i64 ((rd_T71 l0_5 (ji15)).f0)) (.string ((rd_T71 l0_5 (ji15)).f1)) (.int .i64 ((rd_T71 l0_5 (ji15)).f2)) (.int .i64 ((rd_T71 l0_5 (ji15)).f3)) (.string ((rd_T71 l0_5 (ji15)).f4))))) (ds:=[]) _ (by kernel_rfl) rfl rfl (qb6a BK661 ⟨(by obtain ⟨hb_,_⟩:=HI663.out;exact (cellS71_0 hb_).trans rfl),(by obtain ⟨hb_,_⟩:=HI663.out;exact (cellS71_1 hb_).trans rfl),(by obtain ⟨hb_,_⟩:=HI663.out;exact (cellS71_2 hb_).trans rfl),(by obtain ⟨hb_,_⟩:=HI663.out;exact (cellS71_3 hb_).trans rfl),(by obtain ⟨hb_,_⟩:=HI663.out;exact (cellS71_4 hb_).trans rfl),((cb HB hw666_0).trans rfl),((cb HB hw666_1).trans rfl),((cb HB hw666_2).trans rfl),((cb HB hw666_3).trans rfl),((cb HB hw666_4).trans rfl)⟩) (fun hHeld=>?_);refine with_tabW impl_wrongLine.tab4 impl_wrongLine.bits4 (fun HT_ HW_=>?_)
        generalize w18.drew=w19 at BK661 HI663 HB hx666_0 hx666_1 hx666_2 hx666_3 hx666_4 hHeld ⊢
        refine pA 0 13 HT_ ?_;refine tA 1 14 HT_ HW_ hHeld ?_;refine oA 2 15 HT_ (fun K hK=>?_);refine gA Tryz.func89 #[.int .i64 a0_0] ?_;(with_reducible refine (impl_counts.calls a0_0 true _ A10.out).mono ?_);rintro e w' ⟨rfl,⟨nd,rfl⟩⟩;refine ⟨_,rfl,?_⟩;refine hK.out _ _ (qb6a BK661 ⟨(by obtain ⟨hb_,_⟩:=HI663.out;exact (cellS71_0 hb_).trans rfl),(by obtain ⟨hb_,_⟩:=HI663.out;exact (cellS71_1 hb_).trans rfl),(by obtain ⟨hb_,_⟩:=HI663.out;exact (cellS71_2 hb_).trans rfl),(by obtain ⟨hb_,_⟩:=HI663.out;exact (cellS71_3 hb_).trans rfl),(by obtain ⟨hb_,_⟩:=HI663.out;exact (cellS71_4 hb_).trans rfl),((cb HB hw666_0).trans rfl),((cb HB hw666_1).trans rfl),((cb HB hw666_2).trans rfl),((cb HB hw666_3).trans rfl),((cb HB hw666_4).trans rfl)⟩) (fun hHeld=>?_);clear hK K;refine nA 15 ?_;refine pA 3 16 HT_ ?_;refine pA 4 17 HT_ ?_;refine tA 5 18 HT_ HW_ hHeld ?_;refine oA 6 19 HT_ (fun K hK=>?_);refine gA Tryz.func40 #[.int .i64 ((rd_T71 l0_5 x8_1).f0),.int .i64 1,.int .i64 999] ?_;(with_reducible refine (impl_within.calls ((rd_T71 l0_5 x8_1).f0) 1 999 true _ A12.out).mono ?_);rintro e w' ⟨rfl,⟨nd,rfl⟩⟩;refine ⟨_,rfl,?_⟩;refine hK.out _ _ (qb6a BK661 ⟨(by obtain ⟨hb_,_⟩:=HI663.out;exact (cellS71_0 hb_).trans rfl),(by obtain ⟨hb_,_⟩:=HI663.out;exact (cellS71_1 hb_).trans rfl),(by obtain ⟨hb_,_⟩:=HI663.out;exact (cellS71_2 hb_).trans rfl),(by obtain ⟨hb_,_⟩:=HI663.out;exact (cellS71_3 hb_).trans rfl),(by obtain ⟨hb_,_⟩:=HI663.out;exact (cellS71_4 hb_).trans rfl),((cb HB hw666_0).trans rfl),((cb HB hw666_1).trans rfl),((cb HB hw666_2).trans rfl),((cb HB hw666_3).trans rfl),((cb HB hw666_4).trans rfl)⟩) (fun hHeld=>?_);clear hK K;refine nA 19 ?_;refine pA 7 20 HT_ ?_;refine pA 8 21 HT_ ?_;refine pA 9 22 HT_ ?_;refine pA 10 23 HT_ ?_;refine pA 11 24 HT_ ?_;refine pA 12 25 HT_ ?_;refine pA 14 27 HT_ ?_;refine pA 16 29 HT_ ?_;refine pA 17 30 HT_ ?_;refine tA 13 26 HT_ HW_ hHeld ?_;refine tA 15 28 HT_ HW_ hHeld ?_;refine pA 18 31 HT_ ?_;refine pA 19 32 HT_ ?_;refine tA 20 33 HT_ HW_ hHeld ?_;refine pA 21 34 HT_ ?_;refine pA 22 35 HT_ ?_;refine pA 23 36 HT_ ?_;refine pA 24 37 HT_ ?_;refine done_ (done_of HT_.out (by kernel_rfl)) ?_
        try go_wp2
        go_meet
        case rel=>exact ⟨_,(decide (((rd_T71 l0_5 x8_1).f0)≤((rd_T71 l0_5 (ji15)).f0))),(by first|rfl|(simp;done)|(simp only [← hji15] <;> (first|rfl|simp))|(simp [*];done)),H',⟨by have:=HK1.out;first|omega|exact Nat.le_refl _⟩,⟨ks BK661⟩,⟨by repeat (first|(with_reducible first|exact HI663.out|apply IsS71.alloc|apply IsS71.drewN|apply IsS71.drew|apply IsS71.set_0|apply IsS71.set_1|apply IsS71.set_2|apply IsS71.set_3|apply IsS71.set_4|refine IsS71.far ?_ NB663_661.out _)|exact HI663.out)⟩,⟨by repeat (first|(with_reducible first|exact HB.out|apply below_alloc|apply pw_below_drewN|apply below_drew1|refine below_set ?_ (IsS71.ge HI663.out)|refine below_set ?_ GE661.out)|exact HB.out)⟩⟩
       ·intro c14 H;have c14b0:decide (0<x8_1)=false:=decide_eq_false c14;clear c14
        (first|rw [c14b0]|(simp only [i64_w,i32_w];rw [c14b0])|skip)
        have H':=am H;clear H
        try go_wp2
        have n0_:=kz (((((w8.setCell ⟨gb663,0,none⟩ (.int .i64 ((rd_T71 l0_5 x8_1).f0))).setCell ⟨gb663,1,none⟩ (.string ((rd_T71 l0_5 x8_1).f1))).setCell ⟨gb663,2,none⟩ (.int .i64 ((rd_T71 l0_5 x8_1).f2))).setCell ⟨gb663,3,none⟩ (.int .i64 ((rd_T71 l0_5 x8_1).f3))).setCell ⟨gb663,4,none⟩ (.string ((rd_T71 l0_5 x8_1).f4))) BK661;have n1_:Aside0 (IsS71 w (((((w8.setCell ⟨gb663,0,none⟩ (.int .i64 ((rd_T71 l0_5 x8_1).f0))).setCell ⟨gb663,1,none⟩ (.string ((rd_T71 l0_5 x8_1).f1))).setCell ⟨gb663,2,none⟩ (.int .i64 ((rd_T71 l0_5 x8_1).f2))).setCell ⟨gb663,3,none⟩ (.int .i64 ((rd_T71 l0_5 x8_1).f3))).setCell ⟨gb663,4,none⟩ (.string ((rd_T71 l0_5 x8_1).f4))) gb663 ((rd_T71 l0_5 x8_1).f0) ((rd_T71 l0_5 x8_1).f1) ((rd_T71 l0_5 x8_1).f2) ((rd_T71 l0_5 x8_1).f3) ((rd_T71 l0_5 x8_1).f4)):=⟨by repeat (first|(with_reducible first|exact HI663.out|apply IsS71.alloc|apply IsS71.drewN|apply IsS71.drew|apply IsS71.set_0|apply IsS71.set_1|apply IsS71.set_2|apply IsS71.set_3|apply IsS71.set_4|refine IsS71.far ?_ NB663_661.out _)|exact HI663.out)⟩;have n2_:Aside0 (Below w.heap.size w (((((w8.setCell ⟨gb663,0,none⟩ (.int .i64 ((rd_T71 l0_5 x8_1).f0))).setCell ⟨gb663,1,none⟩ (.string ((rd_T71 l0_5 x8_1).f1))).setCell ⟨gb663,2,none⟩ (.int .i64 ((rd_T71 l0_5 x8_1).f2))).setCell ⟨gb663,3,none⟩ (.int .i64 ((rd_T71 l0_5 x8_1).f3))).setCell ⟨gb663,4,none⟩ (.string ((rd_T71 l0_5 x8_1).f4)))):=⟨by repeat (first|(with_reducible first|exact HB.out|apply below_alloc|apply pw_below_drewN|apply below_drew1|refine below_set ?_ (IsS71.ge HI663.out)|refine below_set ?_ GE661.out)|exact HB.out)⟩;(try clear BK661);(try clear HI663);(try clear HB)
        generalize (((((w8.setCell ⟨gb663,0,none⟩ (.int .i64 ((rd_T71 l0_5 x8_1).f0))).setCell ⟨gb663,1,none⟩ (.string ((rd_T71 l0_5 x8_1).f1))).setCell ⟨gb663,2,none⟩ (.int .i64 ((rd_T71 l0_5 x8_1).f2))).setCell ⟨gb663,3,none⟩ (.int .i64 ((rd_T71 l0_5 x8_1).f3))).setCell ⟨gb663,4,none⟩ (.string ((rd_T71 l0_5 x8_1).f4)))=w20 at n0_ n1_ n2_ ⊢
        have BK661:=n0_;have HI663:=n1_;have HB:=n2_;clear n0_ n1_ n2_;replace BK661:=am (blk_drew BK661.out);replace HI663:=am (IsS71.drew HI663.out);replace HB:=am (below_drew1 HB.out);refine start_ (n:=25) (S:=fun w'=>qk6a w' gb661 (.int .i64 a0_0) (.string a0_1) (.string a0_2) (.int .i64 a0_3) (.slice A0_4 l0_4.length c0_4) (.slice (some ad662) l0_5.length c0_5) (qk5 w' gb663 (.int .i64 ((rd_T71 l0_5 x8_1).f0)) (.string ((rd_T71 l0_5 x8_1).f1)) (.int .i64 ((rd_T71 l0_5 x8_1).f2)) (.int .i64 ((rd_T71 l0_5 x8_1).f3)) (.string ((rd_T71 l0_5 x8_1).f4)))) (ds:=[]) _ (by kernel_rfl) rfl rfl (qb6a BK661 ⟨(by obtain ⟨hb_,_⟩:=HI663.out;exact (cellS71_0 hb_).trans rfl),(by obtain ⟨hb_,_⟩:=HI663.out;exact (cellS71_1 hb_).trans rfl),(by obtain ⟨hb_,_⟩:=HI663.out;exact (cellS71_2 hb_).trans rfl),(by obtain ⟨hb_,_⟩:=HI663.out;exact (cellS71_3 hb_).trans rfl),(by obtain ⟨hb_,_⟩:=HI663.out;exact (cellS71_4 hb_).trans rfl)⟩) (fun hHeld=>?_);refine with_tabW impl_wrongLine.tab4 impl_wrongLine.bits4 (fun HT_ HW_=>?_)
        generalize w20.drew=w21 at BK661 HI663 HB hHeld ⊢
        refine pA 0 13 HT_ ?_;refine tA 1 14 HT_ HW_ hHeld ?_;refine oA 2 15 HT_ (fun K hK=>?_);refine gA Tryz.func89 #[.int .i64 a0_0] ?_;(with_reducible refine (impl_counts.calls a0_0 true _ A10.out).mono ?_);rintro e w' ⟨rfl,⟨nd,rfl⟩⟩;refine ⟨_,rfl,?_⟩;refine hK.out _ _ (qb6a BK661 ⟨(by obtain ⟨hb_,_⟩:=HI663.out;exact (cellS71_0 hb_).trans rfl),(by obtain ⟨hb_,_⟩:=HI663.out;exact (cellS71_1 hb_).trans rfl),(by obtain ⟨hb_,_⟩:=HI663.out;exact (cellS71_2 hb_).trans rfl),(by obtain ⟨hb_,_⟩:=HI663.out;exact (cellS71_3 hb_).trans rfl),(by obtain ⟨hb_,_⟩:=HI663.out;exact (cellS71_4 hb_).trans rfl)⟩) (fun hHeld=>?_);clear hK K;refine nA 15 ?_;refine pA 3 16 HT_ ?_;refine pA 4 17 HT_ ?_;refine tA 5 18 HT_ HW_ hHeld ?_;refine oA 6 19 HT_ (fun K hK=>?_);refine gA Tryz.func40 #[.int .i64 ((rd_T71 l0_5 x8_1).f0),.int .i64 1,.int .i64 999] ?_;(with_reducible refine (impl_within.calls ((rd_T71 l0_5 x8_1).f0) 1 999 true _ A12.out).mono ?_);rintro e w' ⟨rfl,⟨nd,rfl⟩⟩;refine ⟨_,rfl,?_⟩;refine hK.out _ _ (qb6a BK661 ⟨(by obtain ⟨hb_,_⟩:=HI663.out;exact (cellS71_0 hb_).trans rfl),(by obtain ⟨hb_,_⟩:=HI663.out;exact (cellS71_1 hb_).trans rfl),(by obtain ⟨hb_,_⟩:=HI663.out;exact (cellS71_2 hb_).trans rfl),(by obtain ⟨hb_,_⟩:=HI663.out;exact (cellS71_3 hb_).trans rfl),(by obtain ⟨hb_,_⟩:=HI663.out;exact (cellS71_4 hb_).trans rfl)⟩) (fun hHeld=>?_);clear hK K;refine nA 19 ?_;refine pA 7 20 HT_ ?_;refine pA 8 21 HT_ ?_;refine pA 9 22 HT_ ?_;refine pA 10 23 HT_ ?_;refine pA 11 24 HT_ ?_;refine pB 12 25 HT_ ?_;refine pB 13 26 HT_ ?_;refine pB 14 27 HT_ ?_;refine pB 15 28 HT_ ?_;refine pB 16 29 HT_ ?_;refine pB 17 30 HT_ ?_;refine pB 18 31 HT_ ?_;refine pB 19 32 HT_ ?_;refine pB 20 33 HT_ ?_;refine pB 21 34 HT_ ?_;refine pA 22 35 HT_ ?_;refine pA 23 36 HT_ ?_;refine pA 24 37 HT_ ?_;refine done_ (done_of HT_.out (by kernel_rfl)) ?_
        try go_wp2
        go_meet
        case rel=>exact ⟨_,(false),fg,H',⟨by have:=HK1.out;first|omega|exact Nat.le_refl _⟩,⟨ks BK661⟩,⟨by repeat (first|(with_reducible first|exact HI663.out|apply IsS71.alloc|apply IsS71.drewN|apply IsS71.drew|apply IsS71.set_0|apply IsS71.set_1|apply IsS71.set_2|apply IsS71.set_3|apply IsS71.set_4|refine IsS71.far ?_ NB663_661.out _)|exact HI663.out)⟩,⟨by repeat (first|(with_reducible first|exact HB.out|apply below_alloc|apply pw_below_drewN|apply below_drew1|refine below_set ?_ (IsS71.ge HI663.out)|refine below_set ?_ GE661.out)|exact HB.out)⟩⟩
      ·replace H:=itF H;have H':=am H;clear H
       try go_wp2
       have n0_:=kz (((((w8.setCell ⟨gb663,0,none⟩ (.int .i64 ((rd_T71 l0_5 x8_1).f0))).setCell ⟨gb663,1,none⟩ (.string ((rd_T71 l0_5 x8_1).f1))).setCell ⟨gb663,2,none⟩ (.int .i64 ((rd_T71 l0_5 x8_1).f2))).setCell ⟨gb663,3,none⟩ (.int .i64 ((rd_T71 l0_5 x8_1).f3))).setCell ⟨gb663,4,none⟩ (.string ((rd_T71 l0_5 x8_1).f4))) BK661;have n1_:Aside0 (IsS71 w (((((w8.setCell ⟨gb663,0,none⟩ (.int .i64 ((rd_T71 l0_5 x8_1).f0))).setCell ⟨gb663,1,none⟩ (.string ((rd_T71 l0_5 x8_1).f1))).setCell ⟨gb663,2,none⟩ (.int .i64 ((rd_T71 l0_5 x8_1).f2))).setCell ⟨gb663,3,none⟩ (.int .i64 ((rd_T71 l0_5 x8_1).f3))).setCell ⟨gb663,4,none⟩ (.string ((rd_T71 l0_5 x8_1).f4))) gb663 ((rd_T71 l0_5 x8_1).f0) ((rd_T71 l0_5 x8_1).f1) ((rd_T71 l0_5 x8_1).f2) ((rd_T71 l0_5 x8_1).f3) ((rd_T71 l0_5 x8_1).f4)):=⟨by repeat (first|(with_reducible first|exact HI663.out|apply IsS71.alloc|apply IsS71.drewN|apply IsS71.drew|apply IsS71.set_0|apply IsS71.set_1|apply IsS71.set_2|apply IsS71.set_3|apply IsS71.set_4|refine IsS71.far ?_ NB663_661.out _)|exact HI663.out)⟩;have n2_:Aside0 (Below w.heap.size w (((((w8.setCell ⟨gb663,0,none⟩ (.int .i64 ((rd_T71 l0_5 x8_1).f0))).setCell ⟨gb663,1,none⟩ (.string ((rd_T71 l0_5 x8_1).f1))).setCell ⟨gb663,2,none⟩ (.int .i64 ((rd_T71 l0_5 x8_1).f2))).setCell ⟨gb663,3,none⟩ (.int .i64 ((rd_T71 l0_5 x8_1).f3))).setCell ⟨gb663,4,none⟩ (.string ((rd_T71 l0_5 x8_1).f4)))):=⟨by repeat (first|(with_reducible first|exact HB.out|apply below_alloc|apply pw_below_drewN|apply below_drew1|refine below_set ?_ (IsS71.ge HI663.out)|refine below_set ?_ GE661.out)|exact HB.out)⟩;(try clear BK661);(try clear HI663);(try clear HB)
       generalize (((((w8.setCell ⟨gb663,0,none⟩ (.int .i64 ((rd_T71 l0_5 x8_1).f0))).setCell ⟨gb663,1,none⟩ (.string ((rd_T71 l0_5 x8_1).f1))).setCell ⟨gb663,2,none⟩ (.int .i64 ((rd_T71 l0_5 x8_1).f2))).setCell ⟨gb663,3,none⟩ (.int .i64 ((rd_T71 l0_5 x8_1).f3))).setCell ⟨gb663,4,none⟩ (.string ((rd_T71 l0_5 x8_1).f4)))=w22 at n0_ n1_ n2_ ⊢
       have BK661:=n0_;have HI663:=n1_;have HB:=n2_;clear n0_ n1_ n2_;replace BK661:=am (blk_drew BK661.out);replace HI663:=am (IsS71.drew HI663.out);replace HB:=am (below_drew1 HB.out);refine start_ (n:=25) (S:=fun w'=>qk6a w' gb661 (.int .i64 a0_0) (.string a0_1) (.string a0_2) (.int .i64 a0_3) (.slice A0_4 l0_4.length c0_4) (.slice (some ad662) l0_5.length c0_5) (qk5 w' gb663 (.int .i64 ((rd_T71 l0_5 x8_1).f0)) (.string ((rd_T71 l0_5 x8_1).f1)) (.int .i64 ((rd_T71 l0_5 x8_1).f2)) (.int .i64 ((rd_T71 l0_5 x8_1).f3)) (.string ((rd_T71 l0_5 x8_1).f4)))) (ds:=[]) _ (by kernel_rfl) rfl rfl (qb6a BK661 ⟨(by obtain ⟨hb_,_⟩:=HI663.out;exact (cellS71_0 hb_).trans rfl),(by obtain ⟨hb_,_⟩:=HI663.out;exact (cellS71_1 hb_).trans rfl),(by obtain ⟨hb_,_⟩:=HI663.out;exact (cellS71_2 hb_).trans rfl),(by obtain ⟨hb_,_⟩:=HI663.out;exact (cellS71_3 hb_).trans rfl),(by obtain ⟨hb_,_⟩:=HI663.out;exact (cellS71_4 hb_).trans rfl)⟩) (fun hHeld=>?_);refine with_tabW impl_wrongLine.tab4 impl_wrongLine.bits4 (fun HT_ HW_=>?_)
       generalize w22.drew=w23 at BK661 HI663 HB hHeld ⊢
       refine pA 0 13 HT_ ?_;refine tA 1 14 HT_ HW_ hHeld ?_;refine oA 2 15 HT_ (fun K hK=>?_);refine gA Tryz.func89 #[.int .i64 a0_0] ?_;(with_reducible refine (impl_counts.calls a0_0 true _ A10.out).mono ?_);rintro e w' ⟨rfl,⟨nd,rfl⟩⟩;refine ⟨_,rfl,?_⟩;refine hK.out _ _ (qb6a BK661 ⟨(by obtain ⟨hb_,_⟩:=HI663.out;exact (cellS71_0 hb_).trans rfl),(by obtain ⟨hb_,_⟩:=HI663.out;exact (cellS71_1 hb_).trans rfl),(by obtain ⟨hb_,_⟩:=HI663.out;exact (cellS71_2 hb_).trans rfl),(by obtain ⟨hb_,_⟩:=HI663.out;exact (cellS71_3 hb_).trans rfl),(by obtain ⟨hb_,_⟩:=HI663.out;exact (cellS71_4 hb_).trans rfl)⟩) (fun hHeld=>?_);clear hK K;refine nA 15 ?_;refine pA 3 16 HT_ ?_;refine pA 4 17 HT_ ?_;refine tA 5 18 HT_ HW_ hHeld ?_;refine oA 6 19 HT_ (fun K hK=>?_);refine gA Tryz.func40 #[.int .i64 ((rd_T71 l0_5 x8_1).f0),.int .i64 1,.int .i64 999] ?_;(with_reducible refine (impl_within.calls ((rd_T71 l0_5 x8_1).f0) 1 999 false _ A12.out).mono ?_);rintro e w' ⟨rfl,⟨nd,rfl⟩⟩;refine ⟨_,rfl,?_⟩;refine hK.out _ _ (qb6a BK661 ⟨(by obtain ⟨hb_,_⟩:=HI663.out;exact (cellS71_0 hb_).trans rfl),(by obtain ⟨hb_,_⟩:=HI663.out;exact (cellS71_1 hb_).trans rfl),(by obtain ⟨hb_,_⟩:=HI663.out;exact (cellS71_2 hb_).trans rfl),(by obtain ⟨hb_,_⟩:=HI663.out;exact (cellS71_3 hb_).trans rfl),(by obtain ⟨hb_,_⟩:=HI663.out;exact (cellS71_4 hb_).trans rfl)⟩) (fun hHeld=>?_);clear hK K;refine nA 19 ?_;refine pA 7 20 HT_ ?_;refine pA 8 21 HT_ ?_;refine pB 9 22 HT_ ?_;refine pB 10 23 HT_ ?_;refine pB 11 24 HT_ ?_;refine pB 12 25 HT_ ?_;refine pB 13 26 HT_ ?_;refine pB 14 27 HT_ ?_;refine pB 15 28 HT_ ?_;refine pB 16 29 HT_ ?_;refine pB 17 30 HT_ ?_;refine pB 18 31 HT_ ?_;refine pB 19 32 HT_ ?_;refine pB 20 33 HT_ ?_;refine pB 21 34 HT_ ?_;refine pB 22 35 HT_ ?_;refine pA 23 36 HT_ ?_;refine pA 24 37 HT_ ?_;refine done_ (done_of HT_.out (by kernel_rfl)) ?_
       try go_wp2
       go_meet
       case rel=>exact ⟨_,(true),fg,H',⟨by have:=HK1.out;first|omega|exact Nat.le_refl _⟩,⟨ks BK661⟩,⟨by repeat (first|(with_reducible first|exact HI663.out|apply IsS71.alloc|apply IsS71.drewN|apply IsS71.drew|apply IsS71.set_0|apply IsS71.set_1|apply IsS71.set_2|apply IsS71.set_3|apply IsS71.set_4|refine IsS71.far ?_ NB663_661.out _)|exact HI663.out)⟩,⟨by repeat (first|(with_reducible first|exact HB.out|apply below_alloc|apply pw_below_drewN|apply below_drew1|refine below_set ?_ (IsS71.ge HI663.out)|refine below_set ?_ GE661.out)|exact HB.out)⟩⟩
     ·replace H:=itF H;have H':=am H;clear H
      try go_wp2
      have n0_:=kz (((((w8.setCell ⟨gb663,0,none⟩ (.int .i64 ((rd_T71 l0_5 x8_1).f0))).setCell ⟨gb663,1,none⟩ (.string ((rd_T71 l0_5 x8_1).f1))).setCell ⟨gb663,2,none⟩ (.int .i64 ((rd_T71 l0_5 x8_1).f2))).setCell ⟨gb663,3,none⟩ (.int .i64 ((rd_T71 l0_5 x8_1).f3))).setCell ⟨gb663,4,none⟩ (.string ((rd_T71 l0_5 x8_1).f4))) BK661;have n1_:Aside0 (IsS71 w (((((w8.setCell ⟨gb663,0,none⟩ (.int .i64 ((rd_T71 l0_5 x8_1).f0))).setCell ⟨gb663,1,none⟩ (.string ((rd_T71 l0_5 x8_1).f1))).setCell ⟨gb663,2,none⟩ (.int .i64 ((rd_T71 l0_5 x8_1).f2))).setCell ⟨gb663,3,none⟩ (.int .i64 ((rd_T71 l0_5 x8_1).f3))).setCell ⟨gb663,4,none⟩ (.string ((rd_T71 l0_5 x8_1).f4))) gb663 ((rd_T71 l0_5 x8_1).f0) ((rd_T71 l0_5 x8_1).f1) ((rd_T71 l0_5 x8_1).f2) ((rd_T71 l0_5 x8_1).f3) ((rd_T71 l0_5 x8_1).f4)):=⟨by repeat (first|(with_reducible first|exact HI663.out|apply IsS71.alloc|apply IsS71.drewN|apply IsS71.drew|apply IsS71.set_0|apply IsS71.set_1|apply IsS71.set_2|apply IsS71.set_3|apply IsS71.set_4|refine IsS71.far ?_ NB663_661.out _)|exact HI663.out)⟩;have n2_:Aside0 (Below w.heap.size w (((((w8.setCell ⟨gb663,0,none⟩ (.int .i64 ((rd_T71 l0_5 x8_1).f0))).setCell ⟨gb663,1,none⟩ (.string ((rd_T71 l0_5 x8_1).f1))).setCell ⟨gb663,2,none⟩ (.int .i64 ((rd_T71 l0_5 x8_1).f2))).setCell ⟨gb663,3,none⟩ (.int .i64 ((rd_T71 l0_5 x8_1).f3))).setCell ⟨gb663,4,none⟩ (.string ((rd_T71 l0_5 x8_1).f4)))):=⟨by repeat (first|(with_reducible first|exact HB.out|apply below_alloc|apply pw_below_drewN|apply below_drew1|refine below_set ?_ (IsS71.ge HI663.out)|refine below_set ?_ GE661.out)|exact HB.out)⟩;(try clear BK661);(try clear HI663);(try clear HB)
      generalize (((((w8.setCell ⟨gb663,0,none⟩ (.int .i64 ((rd_T71 l0_5 x8_1).f0))).setCell ⟨gb663,1,none⟩ (.string ((rd_T71 l0_5 x8_1).f1))).setCell ⟨gb663,2,none⟩ (.int .i64 ((rd_T71 l0_5 x8_1).f2))).setCell ⟨gb663,3,none⟩ (.int .i64 ((rd_T71 l0_5 x8_1).f3))).setCell ⟨gb663,4,none⟩ (.string ((rd_T71 l0_5 x8_1).f4)))=w24 at n0_ n1_ n2_ ⊢
      have BK661:=n0_;have HI663:=n1_;have HB:=n2_;clear n0_ n1_ n2_;replace BK661:=am (blk_drew BK661.out);replace HI663:=am (IsS71.drew HI663.out);replace HB:=am (below_drew1 HB.out);refine sta 25 (hb6 BK661) (fun hHeld=>?_);refine with_tabW impl_wrongLine.tab4 impl_wrongLine.bits4 (fun HT_ HW_=>?_)
      generalize w24.drew=w25 at BK661 HI663 HB hHeld ⊢
      refine pA 0 13 HT_ ?_;refine tA 1 14 HT_ HW_ hHeld ?_;refine oA 2 15 HT_ (fun K hK=>?_);refine gA Tryz.func89 #[.int .i64 a0_0] ?_;(with_reducible refine (impl_counts.calls a0_0 false _ A10.out).mono ?_);rintro e w' ⟨rfl,⟨nd,rfl⟩⟩;refine ⟨_,rfl,?_⟩;refine hK.out _ _ (hb6 BK661).out (fun hHeld=>?_);clear hK K;refine nA 15 ?_;refine pA 3 16 HT_ ?_;refine pB 4 17 HT_ ?_;refine pB 5 18 HT_ ?_;refine pB 6 19 HT_ ?_;refine pB 7 20 HT_ ?_;refine pB 8 21 HT_ ?_;refine pB 9 22 HT_ ?_;refine pB 10 23 HT_ ?_;refine pB 11 24 HT_ ?_;refine pB 12 25 HT_ ?_;refine pB 13 26 HT_ ?_;refine pB 14 27 HT_ ?_;refine pB 15 28 HT_ ?_;refine pB 16 29 HT_ ?_;refine pB 17 30 HT_ ?_;refine pB 18 31 HT_ ?_;refine pB 19 32 HT_ ?_;refine pB 20 33 HT_ ?_;refine pB 21 34 HT_ ?_;refine pB 22 35 HT_ ?_;refine pB 23 36 HT_ ?_;refine pA 24 37 HT_ ?_;refine done_ (done_of HT_.out (by kernel_rfl)) ?_
      try go_wp2
      go_meet
      case rel=>exact ⟨_,(false),fg,H',⟨by have:=HK1.out;first|omega|exact Nat.le_refl _⟩,⟨ks BK661⟩,⟨by repeat (first|(with_reducible first|exact HI663.out|apply IsS71.alloc|apply IsS71.drewN|apply IsS71.drew|apply IsS71.set_0|apply IsS71.set_1|apply IsS71.set_2|apply IsS71.set_3|apply IsS71.set_4|refine IsS71.far ?_ NB663_661.out _)|exact HI663.out)⟩,⟨by repeat (first|(with_reducible first|exact HB.out|apply below_alloc|apply pw_below_drewN|apply below_drew1|refine below_set ?_ (IsS71.ge HI663.out)|refine below_set ?_ GE661.out)|exact HB.out)⟩⟩
    case rest =>
     clear HC7
     obtain ⟨kq,x37_6,rfl,HA,HJ6,BK661,HI663,HB⟩:=hcut
     cases kq with
     | zero=>exact absurd HA.out (by simp [impl_wrongLine.j1])
     | succ kj6 =>
      have H:=HA.out;clear HA;simp only [impl_wrongLine.j1] at H
      obtain rfl|rfl:=bt x37_6
      ·replace H:=itT H;obtain rfl:=si H
       go_wp2
       go_ret
       exact ⟨ff,by repeat (first|(with_reducible first|exact HB.out|apply below_alloc|apply pw_below_drewN|apply below_drew1|refine below_set ?_ (IsS71.ge HI663.out)|refine below_set ?_ GE661.out)|exact HB.out)⟩
      ·replace H:=itF H;replace H:=bo H;obtain ⟨t667,A27,H⟩:=H;have hnb28:=NB661_663.out;have hnc28:=NB663_661.out;have hcz29:=cf6 BK661
       try go_wp2_with (fail)
       go_at_call 90;(with_reducible refine (impl_namesItems.calls a0_0 t667 _ A27.out).mono ?_);rintro e w' ⟨rfl,⟨nd,rfl⟩⟩
       obtain rfl|rfl:=bt t667
       ·replace H:=itT H
        revert H;refine ip1 ?_
        intro c31 H;have c31b0:=eq_true c31;have c31b1:decide (0≤x8_1)=true:=decide_eq_true c31;clear c31
        revert H;refine ip1 ?_
        intro c32 H;have c32b0:=eq_true c32;have c32b1:decide (x8_1≤(l0_5.length:Int))=true:=decide_eq_true c32;clear c32;obtain ⟨y668,hy668⟩:∃ y_:List (S71),y_=(l0_5.take (x8_1:Int).toNat):=⟨_,rfl⟩
        replace H:((impl_Line_impl_wrongLine_1_91.f kj6 y668 ((rd_T71 l0_5 x8_1).f0) ((rd_T71 l0_5 x8_1).f1) ((rd_T71 l0_5 x8_1).f2) ((rd_T71 l0_5 x8_1).f3) ((rd_T71 l0_5 x8_1).f4)).bind fun bt672=>(if bt672.1=true then (some x8_1) else (impl_wrongLine.l0 kj6 l0_5 (l0_5.length:Int) (wrap64 (x8_1+1)) a0_0 a0_1 a0_2 a0_3 l0_4 l0_5)))=some r:=ye hy668 H
        have Ny668:=am hy668;clear hy668;replace H:=bo H;obtain ⟨⟨t672,t673,t674,t675,t676,t677⟩,A33,H⟩:=H;(try dsimp only at H);have hnb34:=NB661_663.out;have hnc34:=NB663_661.out;have hcz35:=cf6 BK661;have q36:(x8_1:Int)≤((l0_5.length:Int):Int):=oa;obtain ⟨i036,hi036,_,hsz36,_⟩:=info_parts info71;have hroom36:l0_5.length≤c0_5:=HC0_5.out;have hC36:Kd.C k71 _ (some ad662) l0_5.length l0_5:=HR0_5.out;have hcut36:=cut_to (P:=Tryz.prog) 28 71 .i64 Tryz.underlying28 hi036 (some ad662) l0_5.length c0_5 x8_1 (oa) q36 hroom36;have hr36:=Kd.C_take (m:=(x8_1:Int).toNat) hC36 (by omega);have hy36:y668.length=(x8_1:Int).toNat:=(by rw [Ny668.out,List.length_take];omega)
        rw [← Ny668.out] at hr36
        rw [← hy36] at hcut36
        have HR671:=am hr36;have HC671:=am (show y668.length≤c0_5 from by omega);clear hr36 hC36 hroom36 hi036 hsz36;have KY36:=am hy36;clear hy36;replace q36:=eq_true q36
        try go_wp2_with (fail)
        go_at_call 91;(with_reducible refine (impl_Line_impl_wrongLine_1_91.calls kj6 _ _ y668 gb663 ((rd_T71 l0_5 x8_1).f0) ((rd_T71 l0_5 x8_1).f1) ((rd_T71 l0_5 x8_1).f2) ((rd_T71 l0_5 x8_1).f3) ((rd_T71 l0_5 x8_1).f4) t672 t673 t674 t675 t676 t677 w _ ?side1 ?side2 ?side3 HC671.out A33.out).mono ?_);(case side1=>repeat (first|(with_reducible first|exact HI663.out|apply IsS71.alloc|apply IsS71.drewN|apply IsS71.drew|apply IsS71.set_0|apply IsS71.set_1|apply IsS71.set_2|apply IsS71.set_3|apply IsS71.set_4|refine IsS71.far ?_ NB663_661.out _)|exact HI663.out));(case side2=>repeat (first|(with_reducible first|exact HB.out|apply below_alloc|apply pw_below_drewN|apply below_drew1|refine below_set ?_ (IsS71.ge HI663.out)|refine below_set ?_ GE661.out)|exact HB.out));(case side3=>exact Kd.C_foot_came k71_heap HR671.out (by repeat (first|(with_reducible first|exact HB.out|apply below_alloc|apply pw_below_drewN|apply below_drew1|refine below_set ?_ (IsS71.ge HI663.out)|refine below_set ?_ GE661.out)|exact HB.out)) (IsS71.ge HI663.out));rintro e w37 ⟨rfl,hi,hb,hk⟩;replace BK661:=am (KeepBut.blk hk (g':=gb661) (o:=.cells #[.int .i64 a0_0,.string a0_1,.string a0_2,.int .i64 a0_3,.slice A0_4 l0_4.length c0_4,.slice (some ad662) l0_5.length c0_5] 30 (0,0)) (ks BK661) NB661_663.out (by simp));replace HB:=am (hb);replace HI663:=am (hi);(try clear hb);(try clear hb2);(try clear hk);(try clear hi)
        obtain rfl|rfl:=bt t672
        ·replace H:=itT H;obtain rfl:=si H
         go_wp2
         go_ret
         exact ⟨ff,by repeat (first|(with_reducible first|exact HB.out|apply below_alloc|apply pw_below_drewN|apply below_drew1|refine below_set ?_ (IsS71.ge HI663.out)|refine below_set ?_ GE661.out)|exact HB.out)⟩
        ·replace H:=itF H;have H':=am H;clear H
         go_wp2
         go_roundg kj6
         case measure=>have:=HK1.out;have:=HJ6.out;omega
         case rel=>exact ⟨(wrap64 (x8_1+1)),fg,H',⟨by have:=HK1.out;have:=HJ6.out;omega⟩,⟨ks BK661⟩,⟨by repeat (first|(with_reducible first|exact HB.out|apply below_alloc|apply pw_below_drewN|apply below_drew1|refine below_set ?_ (IsS71.ge HI663.out)|refine below_set ?_ GE661.out)|exact HB.out)⟩⟩
       ·replace H:=itF H;have H':=am H;clear H
        go_wp2
        go_roundg kj6
        case measure=>have:=HK1.out;have:=HJ6.out;omega
        case rel=>exact ⟨(wrap64 (x8_1+1)),fg,H',⟨by have:=HK1.out;have:=HJ6.out;omega⟩,⟨ks BK661⟩,⟨by repeat (first|(with_reducible first|exact HB.out|apply below_alloc|apply pw_below_drewN|apply below_drew1|refine below_set ?_ (IsS71.ge HI663.out)|refine below_set ?_ GE661.out)|exact HB.out)⟩⟩
   ·intro c4b0 H;obtain rfl:=si H
    go_wp2
    go_ret
    exact ⟨ff,bs HB⟩
end Go.Proofs.YtogkcllenfkdmaaGreatDoor.QR
