-- Merged by a program of this session (wip/tool/pack.py) out of its own texts for this claim.
import Derived.Test.YtjbdljhjplidmaaDoorKFnTables0
import Derived.Test.YtjbdljhjplidmaaDoorKFnTables1
import Derived.Test.YtjbdljhjplidmaaDoorKFnTables2
import Derived.Test.YtjbdljhjplidmaaDoorKFnTables3
import Derived.Test.YtjbdljhjplidmaaDoorKFnTables4
import Derived.Test.YtjbdljhjplidmaaDoorKFnTables8
import Derived.Test.YtjbdljhjplidmaaDoorKFnTables10
import Derived.Test.YtjbdljhjplidmaaDoorKFnTables11
import Derived.Test.YtjbdljhjplidmaaDoorKFnTables15
namespace Go.Proofs.YtjbdljhjplidmaaDoor.QF
open Go.RowKit Go.Proofs.YtjbdljhjplidmaaDoorW.PrintWords Go.Proofs.YtjbdljhjplidmaaDoorW.PrintLast Go.Proofs.YtjbdljhjplidmaaDoorW.PrintMore
attribute [local go_sem] max2_int min2_int max_two min_two max_three min_three max_four min_four   -- for this text's walks alone
set_option linter.unusedVariables false
set_option linter.unusedSimpArgs false
set_option maxHeartbeats 8000000 in
set_option maxRecDepth 100000 in
theorem spec_DrawTableCheck.calls (k:Nat) (A0:Option Addr) (c0:Nat) (l0:List Int) (r1:Int) (r2:List (S36)) (w:World) (hr0:Kd.C (Kd.int .u8) w A0 l0.length l0) (hc0:l0.length≤c0) (h:spec_DrawTableCheck.f k l0=some (r1,r2)) :
  Calls Tryd.prog 22 #[.slice A0 l0.length c0] w fun e w'=>∃ v1_:Value,e=.returned (.tuple #[.int .i64 r1,v1_])∧Kd.N k36 36 w' w.heap.size (fun k_=>(w.heap.size≤k_)) v1_ r2∧Below w.heap.size w w':=by
 have HR0:=am hr0;have HC0:=am hc0;clear hr0 hc0;have HB:=am (Below.refl w.heap.size w);have H:((spec_l01Source.f k l0).bind fun bt682=>((spec_l01Src_n.f bt682.1 bt682.2.1 bt682.2.2.1 bt682.2.2.2 7).bind fun bt687=>((spec_l01Src_l04Body.f k bt682.1 bt687.2.1 bt687.2.2.1 bt687.2.2.2 (wrap64 (1+bt687.1))).bind fun bt691=>((spec_l01Src_one.f bt682.1 bt691.2.1 bt691.2.2.1 bt691.2.2.2 15).bind fun bt697=>(if bt697.1=true then ((spec_l01Src_n.f bt682.1 bt697.2.1 bt697.2.2.1 bt697.2.2.2 10).bind fun bt701=>(some (wrap64 (bt701.1 - 1),bt691.1))) else (some (wrap64 (1+bt687.1),bt691.1)))))))=some (r1,r2):=h;clear h;replace H:=Option.bind_eq_some_iff.mp H;obtain ⟨⟨t682,t683,t684,t685⟩,A20,H⟩:=H;replace H:((spec_l01Src_n.f t682 t683 t684 t685 7).bind fun bt687=>((spec_l01Src_l04Body.f k t682 bt687.2.1 bt687.2.2.1 bt687.2.2.2 (wrap64 (1+bt687.1))).bind fun bt691=>((spec_l01Src_one.f t682 bt691.2.1 bt691.2.2.1 bt691.2.2.2 15).bind fun bt697=>(if bt697.1=true then ((spec_l01Src_n.f t682 bt697.2.1 bt697.2.2.1 bt697.2.2.2 10).bind fun bt701=>(some (wrap64 (bt701.1 - 1),bt691.1))) else (some (wrap64 (1+bt687.1),bt691.1))))))=some (r1,r2):=H;have A2:=am A20;clear A20
 go_enter Tryd.func22,Tryd.ntmps22
 try go_wp2_with (fail)
 go_at_call 41;(with_reducible refine (spec_l01Source.calls k _ _ l0 t682 t683 t684 t685 w _ ?side1 HR0.out HC0.out A2.out).mono ?_);(case side1=>repeat (first|(with_reducible first|exact HB.out|apply below_alloc|apply pw_below_drewN|apply below_drew1)|exact HB.out));rintro e w3 ⟨g686,rfl,hi,hb,hb2⟩;replace HB:=am (hb);have HI686:=am (hi);(try clear hb);(try clear hb2);(try clear hk);(try clear hi);replace H:=Option.bind_eq_some_iff.mp H;obtain ⟨⟨t687,t688,t689,t690⟩,A40,H⟩:=H;replace H:((spec_l01Src_l04Body.f k t682 t688 t689 t690 (wrap64 (1+t687))).bind fun bt691=>((spec_l01Src_one.f t682 bt691.2.1 bt691.2.2.1 bt691.2.2.2 15).bind fun bt697=>(if bt697.1=true then ((spec_l01Src_n.f t682 bt697.2.1 bt697.2.2.1 bt697.2.2.2 10).bind fun bt701=>(some (wrap64 (bt701.1 - 1),bt691.1))) else (some (wrap64 (1+t687),bt691.1)))))=some (r1,r2):=H;have A4:=am A40;clear A40
 try go_wp2_with (fail)
 go_at_call 42;(with_reducible refine (spec_l01Src_n.calls g686 t682 t683 t684 t685 7 t687 t688 t689 t690 w _ ?side1 ?side2 A4.out).mono ?_);(case side1=>repeat (first|(with_reducible first|exact HI686.out|apply IsS103.alloc|apply IsS103.drewN|apply IsS103.drew|apply IsS103.set_1|apply IsS103.set_2|apply IsS103.set_3)|exact HI686.out));(case side2=>repeat (first|(with_reducible first|exact HB.out|apply below_alloc|apply pw_below_drewN|apply below_drew1|refine below_set ?_ (IsS103.ge HI686.out))|exact HB.out));rintro e w5 ⟨rfl,hi,hb,hk⟩;replace HB:=am (hb);replace HI686:=am (hi);(try clear hb);(try clear hb2);(try clear hk);(try clear hi);replace H:=Option.bind_eq_some_iff.mp H;obtain ⟨⟨t691,t694,t695,t696⟩,A60,H⟩:=H;replace H:((spec_l01Src_one.f t682 t694 t695 t696 15).bind fun bt697=>(if bt697.1=true then ((spec_l01Src_n.f t682 bt697.2.1 bt697.2.2.1 bt697.2.2.2 10).bind fun bt701=>(some (wrap64 (bt701.1 - 1),t691))) else (some (wrap64 (1+t687),t691))))=some (r1,r2):=H;have A6:=am A60;clear A60
 try go_wp2_with (fail)
 go_at_call 43;(with_reducible refine (spec_l01Src_l04Body.calls k g686 t682 t688 t689 t690 (wrap64 (1+t687)) t691 t694 t695 t696 w _ ?side1 ?side2 A6.out).mono ?_);(case side1=>repeat (first|(with_reducible first|exact HI686.out|apply IsS103.alloc|apply IsS103.drewN|apply IsS103.drew|apply IsS103.set_1|apply IsS103.set_2|apply IsS103.set_3)|exact HI686.out));(case side2=>repeat (first|(with_reducible first|exact HB.out|apply below_alloc|apply pw_below_drewN|apply below_drew1|refine below_set ?_ (IsS103.ge HI686.out))|exact HB.out));rintro e w7 ⟨v692,rfl,ho0,hi,hb,hk⟩;have HO693:=am (Kd.N_lower (Kd.N_mono (ok':=fun k_=>(w.heap.size≤k_)∧k_≠g686) ho0 (fun k_ hk_=>⟨(Nat.le_trans (below_size (by repeat (first|(with_reducible first|exact HB.out|apply below_alloc|apply pw_below_drewN|apply below_drew1|refine below_set ?_ (IsS103.ge HI686.out))|exact HB.out))) hk_),(IsS103.fresh (by repeat (first|(with_reducible first|exact HI686.out|apply IsS103.alloc|apply IsS103.drewN|apply IsS103.drew|apply IsS103.set_1|apply IsS103.set_2|apply IsS103.set_3)|exact HI686.out)) k_ hk_)⟩)) (below_size (by repeat (first|(with_reducible first|exact HB.out|apply below_alloc|apply pw_below_drewN|apply below_drew1|refine below_set ?_ (IsS103.ge HI686.out))|exact HB.out))));replace HB:=am (hb);replace HI686:=am (hi);(try clear hb);(try clear hb2);(try clear hk);(try clear hi);(try clear ho0);replace H:=Option.bind_eq_some_iff.mp H;obtain ⟨⟨t697,t698,t699,t700⟩,A80,H⟩:=H;replace H:(if t697=true then ((spec_l01Src_n.f t682 t698 t699 t700 10).bind fun bt701=>(some (wrap64 (bt701.1 - 1),t691))) else (some (wrap64 (1+t687),t691)))=some (r1,r2):=H;have A8:=am A80;clear A80
 try go_wp2_with (fail)
 go_at_call 44;(with_reducible refine (spec_l01Src_one.calls g686 t682 t694 t695 t696 15 t697 t698 t699 t700 w _ ?side1 ?side2 A8.out).mono ?_);(case side1=>repeat (first|(with_reducible first|exact HI686.out|apply IsS103.alloc|apply IsS103.drewN|apply IsS103.drew|apply IsS103.set_1|apply IsS103.set_2|apply IsS103.set_3)|exact HI686.out));(case side2=>repeat (first|(with_reducible first|exact HB.out|apply below_alloc|apply pw_below_drewN|apply below_drew1|refine below_set ?_ (IsS103.ge HI686.out))|exact HB.out));rintro e w9 ⟨rfl,hi,hb,hk⟩;have n0_:=am (Kd.N_mono (Kd.N_keep (Kd.N_mono (ok:=fun k_=>(((w.heap.size≤k_))∧k_≠g686)) (by (with_reducible repeat (first|apply Kd.N_alloc|apply Kd.N_drewN|apply Kd.N_drew));exact HO693.out) (fun k_ hk_=>(⟨hk_,hk_.2⟩:_∧k_≠g686))) hk (fun _ h=>h.2)) (fun _ h=>h.1));have n1_:=am (hb);have n2_:=am (hi);clear HO693;clear HB;clear HI686;have HO693:=n0_;have HB:=n1_;have HI686:=n2_;clear n0_ n1_ n2_;(try clear hb);(try clear hb2);(try clear hk);(try clear hi)
 by_cases c10:t697=true
 ·subst c10
  have H1:((spec_l01Src_n.f t682 t698 t699 t700 10).bind fun bt701=>(some (wrap64 (bt701.1 - 1),t691)))=some (r1,r2):=by rw [if_pos rfl] at H;exact H
  clear H;have H:=H1;clear H1;replace H:=Option.bind_eq_some_iff.mp H;obtain ⟨⟨t701,t702,t703,t704⟩,A110,H⟩:=H;replace H:(some (wrap64 (t701 - 1),t691))=some (r1,r2):=H;have A11:=am A110;clear A110;simp only [Option.some.injEq,Prod.mk.injEq] at H;obtain ⟨rfl,rfl⟩:=H
  go_wp2_with (first|((first|((with_reducible refine gate_callee (f:=42) rfl ?_);refine goesL_ (some 18) rfl rfl Tryd.func42 (by kernel_rfl) rfl #[.pointer (some ⟨g686,0,none⟩),.int .i64 10] rfl (by (try simp only [List.map_toArray,List.map_cons,List.map_nil]);first|done|rfl|(simp only [List.length_drop,List.length_take];rfl)) ?_;(with_reducible refine (spec_l01Src_n.calls g686 t682 t698 t699 t700 10 t701 t702 t703 t704 w _ ?side1 ?side2 A11.out).mono ?_);(case side1=>repeat (first|(with_reducible first|exact HI686.out|apply IsS103.alloc|apply IsS103.drewN|apply IsS103.drew|apply IsS103.set_1|apply IsS103.set_2|apply IsS103.set_3)|exact HI686.out));(case side2=>repeat (first|(with_reducible first|exact HB.out|apply below_alloc|apply pw_below_drewN|apply below_drew1|refine below_set ?_ (IsS103.ge HI686.out))|exact HB.out));rintro e w12 ⟨rfl,hi,hb,hk⟩;refine ⟨_,rfl,?_⟩)|(go_at_call 42;(with_reducible refine (spec_l01Src_n.calls g686 t682 t698 t699 t700 10 t701 t702 t703 t704 w _ ?side1 ?side2 A11.out).mono ?_);(case side1=>repeat (first|(with_reducible first|exact HI686.out|apply IsS103.alloc|apply IsS103.drewN|apply IsS103.drew|apply IsS103.set_1|apply IsS103.set_2|apply IsS103.set_3)|exact HI686.out));(case side2=>repeat (first|(with_reducible first|exact HB.out|apply below_alloc|apply pw_below_drewN|apply below_drew1|refine below_set ?_ (IsS103.ge HI686.out))|exact HB.out));rintro e w12 ⟨rfl,hi,hb,hk⟩));have n0_:=am (Kd.N_mono (Kd.N_keep (Kd.N_mono (ok:=fun k_=>(((w.heap.size≤k_))∧k_≠g686)) (by (with_reducible repeat (first|apply Kd.N_alloc|apply Kd.N_drewN|apply Kd.N_drew));exact HO693.out) (fun k_ hk_=>(⟨hk_,hk_.2⟩:_∧k_≠g686))) hk (fun _ h=>h.2)) (fun _ h=>h.1));have n1_:=am (hb);have n2_:=am (hi);clear HO693;clear HB;clear HI686;have HO693:=n0_;have HB:=n1_;have HI686:=n2_;clear n0_ n1_ n2_;(try clear hb);(try clear hb2);(try clear hk);(try clear hi)))
  go_ret2
  exact ⟨_,ff,by (with_reducible repeat (first|apply Kd.N_alloc|apply Kd.N_drewN|apply Kd.N_drew));exact Kd.N_mono HO693.out (fun _ hk=>hk.1),by repeat (first|(with_reducible first|exact HB.out|apply below_alloc|apply pw_below_drewN|apply below_drew1|refine below_set ?_ (IsS103.ge HI686.out))|exact HB.out)⟩
 ·replace c10:=Bool.eq_false_iff.mpr c10;subst c10
  have H1:(some (wrap64 (1+t687),t691))=some (r1,r2):=by rw [if_neg (show ¬ (false=true) by decide)] at H;exact H
  clear H;have H:=H1;clear H1;simp only [Option.some.injEq,Prod.mk.injEq] at H;obtain ⟨rfl,rfl⟩:=H
  go_wp2
  go_ret2
  exact ⟨_,ff,by (with_reducible repeat (first|apply Kd.N_alloc|apply Kd.N_drewN|apply Kd.N_drew));exact Kd.N_mono HO693.out (fun _ hk=>hk.1),by repeat (first|(with_reducible first|exact HB.out|apply below_alloc|apply pw_below_drewN|apply below_drew1|refine below_set ?_ (IsS103.ge HI686.out))|exact HB.out)⟩
set_option maxHeartbeats 8000000 in
set_option maxRecDepth 100000 in
theorem impl_TableOf.calls (k:Nat) (a0:Int) (r:List (S57)) (w:World) (h:impl_TableOf.f k a0=some r) :
  Calls Tryd.prog 23 #[.int .i64 a0] w fun e w'=>∃ v0_:Value,e=.returned (v0_)∧Kd.R k57 57 w' w.heap.size (fun _=>True) v0_ r∧Below w.heap.size w w':=by
 have HB:=am (Below.refl w.heap.size w);have H:((impl_tableOf.f k a0).bind fun t705=>(some t705))=some r:=h;clear h;replace H:=Option.bind_eq_some_iff.mp H;obtain ⟨t705,A20,H⟩:=H;replace H:(some t705)=some r:=H;have A2:=am A20;clear A20;obtain rfl:=Option.some.inj H
 go_enter Tryd.func23,Tryd.ntmps23
 go_wp2_with (first|((first|((with_reducible refine gate_callee (f:=40) rfl ?_);refine goesL_ (some 4) rfl rfl Tryd.func40 (by kernel_rfl) rfl #[.int .i64 a0] rfl (by (try simp only [List.map_toArray,List.map_cons,List.map_nil]);first|done|rfl|(simp only [List.length_drop,List.length_take];rfl)) ?_;(with_reducible refine (impl_tableOf.calls k a0 t705 _ A2.out).mono ?_);rintro e w3 ⟨v706,rfl,ho0,hb⟩;refine ⟨_,rfl,?_⟩)|(go_at_call 40;(with_reducible refine (impl_tableOf.calls k a0 t705 _ A2.out).mono ?_);rintro e w3 ⟨v706,rfl,ho0,hb⟩));have HO707:=am (Kd.R_lower ho0 (below_size (bs HB)));replace HB:=am (below_step (bs HB) hb);(try clear hb);(try clear hb2);(try clear hk);(try clear hi);(try clear ho0)))
 go_ret
 exact ⟨_,ff,by (with_reducible repeat (first|apply Kd.R_alloc|apply Kd.R_drewN|apply Kd.R_drew));exact HO707.out,bs HB⟩
set_option maxHeartbeats 8000000 in
set_option maxRecDepth 100000 in
theorem impl_KindName.calls (a0:Int) (r:ByteArray) (w:World) (h:impl_KindName.f a0=some r) :
  Calls Tryd.prog 24 #[.int .i64 a0] w fun e w'=>e=.returned (.string r)∧Below w.heap.size w w':=by
 have HB:=am (Below.refl w.heap.size w);have H:((impl_within.f a0 1 7).bind fun t708=>(if t708=true then ((some (([(⟨#[79,82,68,69,82]⟩:ByteArray),(⟨#[65,78,83,87,69,82]⟩:ByteArray),(⟨#[83,69,78,84]⟩:ByteArray),(⟨#[71,79,84]⟩:ByteArray),(⟨#[83,84,79,67,75]⟩:ByteArray),(⟨#[65,68,74,85,83,84]⟩:ByteArray),(⟨#[72,69,65,82,68]⟩:ByteArray)]:List ByteArray):List ByteArray)).bind fun y709=>(if 0≤(wrap64 (a0 - 1)) then (if (wrap64 (a0 - 1))<(y709.length:Int) then (some (rdOf ByteArray.empty y709 (wrap64 (a0 - 1)))) else (none)) else (none))) else (some (⟨#[]⟩:ByteArray))))=some r:=h;clear h;replace H:=Option.bind_eq_some_iff.mp H;obtain ⟨t708,A20,H⟩:=H;replace H:(if t708=true then ((some (([(⟨#[79,82,68,69,82]⟩:ByteArray),(⟨#[65,78,83,87,69,82]⟩:ByteArray),(⟨#[83,69,78,84]⟩:ByteArray),(⟨#[71,79,84]⟩:ByteArray),(⟨#[83,84,79,67,75]⟩:ByteArray),(⟨#[65,68,74,85,83,84]⟩:ByteArray),(⟨#[72,69,65,82,68]⟩:ByteArray)]:List ByteArray):List ByteArray)).bind fun y709=>(if 0≤(wrap64 (a0 - 1)) then (if (wrap64 (a0 - 1))<(y709.length:Int) then (some (rdOf ByteArray.empty y709 (wrap64 (a0 - 1)))) else (none)) else (none))) else (some (⟨#[]⟩:ByteArray)))=some r:=H;have A2:=am A20;clear A20
 go_enter Tryd.func24,Tryd.ntmps24
 try go_wp2_with (fail)
 go_at_call 39;(with_reducible refine (impl_within.calls a0 1 7 t708 _ A2.out).mono ?_);rintro e w' ⟨rfl,⟨nd,rfl⟩⟩
 by_cases c3:t708=true
 ·subst c3
  have H1:((some (([(⟨#[79,82,68,69,82]⟩:ByteArray),(⟨#[65,78,83,87,69,82]⟩:ByteArray),(⟨#[83,69,78,84]⟩:ByteArray),(⟨#[71,79,84]⟩:ByteArray),(⟨#[83,84,79,67,75]⟩:ByteArray),(⟨#[65,68,74,85,83,84]⟩:ByteArray),(⟨#[72,69,65,82,68]⟩:ByteArray)]:List ByteArray):List ByteArray)).bind fun y709=>(if 0≤(wrap64 (a0 - 1)) then (if (wrap64 (a0 - 1))<(y709.length:Int) then (some (rdOf ByteArray.empty y709 (wrap64 (a0 - 1)))) else (none)) else (none)))=some r:=by rw [if_pos rfl] at H;exact H
  clear H;have H:=H1;clear H1;obtain ⟨y709,hy709⟩:∃ y_:List ByteArray,y_=(([(⟨#[79,82,68,69,82]⟩:ByteArray),(⟨#[65,78,83,87,69,82]⟩:ByteArray),(⟨#[83,69,78,84]⟩:ByteArray),(⟨#[71,79,84]⟩:ByteArray),(⟨#[83,84,79,67,75]⟩:ByteArray),(⟨#[65,68,74,85,83,84]⟩:ByteArray),(⟨#[72,69,65,82,68]⟩:ByteArray)]:List ByteArray)):=⟨_,rfl⟩
  replace H:(if 0≤(wrap64 (a0 - 1)) then (if (wrap64 (a0 - 1))<(y709.length:Int) then (some (rdOf ByteArray.empty y709 (wrap64 (a0 - 1)))) else (none)) else (none))=some r:=by first|(rw [hy709];with_reducible exact H)|(have H2_:=(Option.bind_some _ _).symm.trans H;rw [hy709];with_reducible exact H2_)|(have H2_:=(Option.bind_some _ _).symm.trans H;with_reducible exact H2_)|with_reducible exact H|(rw [hy709];exact H)|exact H
  have Ny709:=am hy709;clear hy709;obtain ⟨ji4,hji4⟩:∃ j_:Int,(wrap64 (a0 - 1))=j_:=⟨_,rfl⟩
  replace H:(if 0≤(ji4) then (if (ji4)<(y709.length:Int) then (some (rdOf ByteArray.empty y709 (ji4))) else (none)) else (none))=some r:=by first|(rw [hji4] at H;exact H)|(simp only [hji4] at H ⊢;exact H)
  have hji4w:(IntKind.i64.wrap (a0 - 1))=ji4:=(i64_w _).trans hji4
  by_cases c5:0≤(ji4)
  ·rw [if_pos c5] at H;have c5b0:decide (0≤(ji4))=true:=decide_eq_true c5;clear c5
   by_cases c6:(ji4)<(y709.length:Int)
   ·rw [if_pos c6] at H;have c6b0:decide ((ji4)<(y709.length:Int))=true:=decide_eq_true c6;clear c6;obtain rfl:=Option.some.inj H
    go_wp2_with (first|((with_reducible refine gate_dst (N:=6) rfl ?_);refine Kd.R_lit Kd.string _ 9 ?hg (N:=6) ?hd (xs:=([(⟨#[79,82,68,69,82]⟩:ByteArray),(⟨#[65,78,83,87,69,82]⟩:ByteArray),(⟨#[83,69,78,84]⟩:ByteArray),(⟨#[71,79,84]⟩:ByteArray),(⟨#[83,84,79,67,75]⟩:ByteArray),(⟨#[65,68,74,85,83,84]⟩:ByteArray),(⟨#[72,69,65,82,68]⟩:ByteArray)]:List ByteArray)) (inner:=[.string (⟨#[79,82,68,69,82]⟩:ByteArray),.string (⟨#[65,78,83,87,69,82]⟩:ByteArray),.string (⟨#[83,69,78,84]⟩:ByteArray),.string (⟨#[71,79,84]⟩:ByteArray),.string (⟨#[83,84,79,67,75]⟩:ByteArray),.string (⟨#[65,68,74,85,83,84]⟩:ByteArray),.string (⟨#[72,69,65,82,68]⟩:ByteArray)]) (ok:=fun _=>True) (okp:=fun _=>True) ?hr ?hp (fun _ hk=>hk) trivial (Below.refl _ _) (Nat.le_refl _) (by simp) ?_;(case hd=>rfl);(case hg=>rfl);(case hr=>first|(go_simp;done)|(go_simp;rfl));(case hp=>exact (Reps.one (show Kd.M Kd.string _ _ _ (⟨#[79,82,68,69,82]⟩:ByteArray) [.string (⟨#[79,82,68,69,82]⟩:ByteArray)] from rfl) (Reps.one (show Kd.M Kd.string _ _ _ (⟨#[65,78,83,87,69,82]⟩:ByteArray) [.string (⟨#[65,78,83,87,69,82]⟩:ByteArray)] from rfl) (Reps.one (show Kd.M Kd.string _ _ _ (⟨#[83,69,78,84]⟩:ByteArray) [.string (⟨#[83,69,78,84]⟩:ByteArray)] from rfl) (Reps.one (show Kd.M Kd.string _ _ _ (⟨#[71,79,84]⟩:ByteArray) [.string (⟨#[71,79,84]⟩:ByteArray)] from rfl) (Reps.one (show Kd.M Kd.string _ _ _ (⟨#[83,84,79,67,75]⟩:ByteArray) [.string (⟨#[83,84,79,67,75]⟩:ByteArray)] from rfl) (Reps.one (show Kd.M Kd.string _ _ _ (⟨#[65,68,74,85,83,84]⟩:ByteArray) [.string (⟨#[65,68,74,85,83,84]⟩:ByteArray)] from rfl) (Reps.one (show Kd.M Kd.string _ _ _ (⟨#[72,69,65,82,68]⟩:ByteArray) [.string (⟨#[72,69,65,82,68]⟩:ByteArray)] from rfl) (Reps.none _ _)))))))));intro v710 w7 ho8 hb hg_ hnew_;clear hg_ hnew_;(first|rw [← Ny709.out] at ho8|(simp only [Int.reduceToNat] at ho8;rw [← Ny709.out] at ho8));have HO711:=am (Kd.R_lower ho8 (below_size (bs HB)));replace HB:=am (below_step (bs HB) hb);clear hb ho8;obtain ⟨Ao9,co9,eo9⟩:=Kd.R_slice HO711.out;subst eo9;have p712:0≤((ji4):Int):=oa;have q712:(ji4)<(y709.length:Int):=oa;obtain ⟨ad712,e712,hx712_0⟩:=Kd.at_string (Kd.R_reads' HO711.out).2.2 (ji4) p712 q712;cases e712;replace p712:=eq_true p712;replace q712:=eq_true q712))
    go_ret
    exact ⟨by first|rfl|(simp [errW_none,errW_some] <;> rfl)|(simp only [← hji4];first|rfl|(simp [errW_none,errW_some] <;> rfl))|(simp [*,errW_none,errW_some] <;> rfl),bs HB⟩
   ·rw [if_neg c6] at H
    exact absurd H (by simp)
  ·rw [if_neg c5] at H
   exact absurd H (by simp)
 ·replace c3:=Bool.eq_false_iff.mpr c3;subst c3
  have H1:(some (⟨#[]⟩:ByteArray))=some r:=by rw [if_neg (show ¬ (false=true) by decide)] at H;exact H
  clear H;have H:=H1;clear H1;obtain rfl:=Option.some.inj H
  go_wp2
  go_ret
  exact ⟨ff,bs HB⟩
set_option maxHeartbeats 8000000 in
set_option maxRecDepth 100000 in
theorem impl_TagOf.calls (k:Nat) (a0:Int) (a1:Int) (r:ByteArray) (w:World) (h:impl_TagOf.f k a0 a1=some r) :
  Calls Tryd.prog 25 #[.int .i64 a0,.int .i64 a1] w fun e w'=>e=.returned (.string r)∧Below w.heap.size w w':=by
 have HB:=am (Below.refl w.heap.size w);have H:((impl_tableOf.f k a0).bind fun t713=>((impl_within.f a1 0 (wrap64 ((t713.length:Int) - 1))).bind fun t716=>(if t716=true then (if 0≤a1 then (if a1<(t713.length:Int) then (some ((rd_T57 t713 a1).f0)) else (none)) else (none)) else (some (⟨#[]⟩:ByteArray)))))=some r:=h;clear h;replace H:=Option.bind_eq_some_iff.mp H;obtain ⟨t713,A30,H⟩:=H;replace H:((impl_within.f a1 0 (wrap64 ((t713.length:Int) - 1))).bind fun t716=>(if t716=true then (if 0≤a1 then (if a1<(t713.length:Int) then (some ((rd_T57 t713 a1).f0)) else (none)) else (none)) else (some (⟨#[]⟩:ByteArray))))=some r:=H;have A3:=am A30;clear A30
 go_enter Tryd.func25,Tryd.ntmps25
 try go_wp2_with (fail)
 go_at_call 40;(with_reducible refine (impl_tableOf.calls k a0 t713 _ A3.out).mono ?_);rintro e w4 ⟨v714,rfl,ho0,hb⟩;have HO715:=am (Kd.R_lower ho0 (below_size (bs HB)));replace HB:=am (below_step (bs HB) hb);(try clear hb);(try clear hb2);(try clear hk);(try clear hi);(try clear ho0);replace H:=Option.bind_eq_some_iff.mp H;obtain ⟨t716,A50,H⟩:=H;replace H:(if t716=true then (if 0≤a1 then (if a1<(t713.length:Int) then (some ((rd_T57 t713 a1).f0)) else (none)) else (none)) else (some (⟨#[]⟩:ByteArray)))=some r:=H;have A5:=am A50;clear A50;obtain ⟨Ao6,co6,eo6⟩:=Kd.R_slice HO715.out;subst eo6
 try go_wp2_with (fail)
 go_at_call 39;(with_reducible refine (impl_within.calls a1 0 (wrap64 ((t713.length:Int) - 1)) t716 _ A5.out).mono ?_);rintro e w' ⟨rfl,⟨nd,rfl⟩⟩
 by_cases c7:t716=true
 ·subst c7
  have H1:(if 0≤a1 then (if a1<(t713.length:Int) then (some ((rd_T57 t713 a1).f0)) else (none)) else (none))=some r:=by rw [if_pos rfl] at H;exact H
  clear H;have H:=H1;clear H1
  by_cases c8:0≤a1
  ·rw [if_pos c8] at H;have c8b0:decide (0≤a1)=true:=decide_eq_true c8;clear c8
   by_cases c9:a1<(t713.length:Int)
   ·rw [if_pos c9] at H;have c9b0:decide (a1<(t713.length:Int))=true:=decide_eq_true c9;clear c9;obtain rfl:=Option.some.inj H;have p717:0≤(a1:Int):=oa;have q717:a1<(t713.length:Int):=oa;obtain ⟨ad717,e717,hx717_0,hx717_1,hx717_2,hx717_3⟩:=at_T57 (Kd.R_reads' HO715.out).2.2 a1 p717 q717
    cases e717
    replace p717:=eq_true p717;replace q717:=eq_true q717
    go_wp2
    go_ret
    exact ⟨ff,bs HB⟩
   ·rw [if_neg c9] at H
    exact absurd H (by simp)
  ·rw [if_neg c8] at H
   exact absurd H (by simp)
 ·replace c7:=Bool.eq_false_iff.mpr c7;subst c7
  have H1:(some (⟨#[]⟩:ByteArray))=some r:=by rw [if_neg (show ¬ (false=true) by decide)] at H;exact H
  clear H;have H:=H1;clear H1;obtain rfl:=Option.some.inj H
  go_wp2
  go_ret
  exact ⟨ff,bs HB⟩
end Go.Proofs.YtjbdljhjplidmaaDoor.QF
