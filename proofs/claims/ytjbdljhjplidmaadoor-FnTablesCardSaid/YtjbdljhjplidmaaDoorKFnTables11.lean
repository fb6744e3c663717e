-- Merged by a program of this session (wip/tool/pack.py) out of its own texts for this claim.
import Derived.Test.YtjbdljhjplidmaaDoorKFnTables0
import Derived.Test.YtjbdljhjplidmaaDoorKFnTables1
import Derived.Test.YtjbdljhjplidmaaDoorKFnTables2
import Derived.Test.YtjbdljhjplidmaaDoorKFnTables3
import Derived.Test.YtjbdljhjplidmaaDoorKFnTables4
import Derived.Test.YtjbdljhjplidmaaDoorKFnTables8
import Derived.Test.YtjbdljhjplidmaaDoorKFnTables9
import Derived.Test.YtjbdljhjplidmaaDoorKFnTables10
namespace Go.Proofs.YtjbdljhjplidmaaDoor.QF
open Go.RowKit Go.Proofs.YtjbdljhjplidmaaDoorW.PrintWords Go.Proofs.YtjbdljhjplidmaaDoorW.PrintLast Go.Proofs.YtjbdljhjplidmaaDoorW.PrintMore
attribute [local go_sem] max2_int min2_int max_two min_two max_three min_three max_four min_four   -- for this text's walks alone
set_option linter.unusedVariables false
set_option linter.unusedSimpArgs false
def impl_TableCheck.T10 : Bool × List (List Nat × List Nat) := (true, [([], []), ([], []), ([1], [1]), ([0, 2], [0, 2]), ([3], [3]), ([4], [4]), ([4], [4]), ([6, 4], [4, 6]), ([5, 7, 4], [4, 5, 7]), ([4, 8], [4, 8]), ([9, 4], [9]), ([10], [10]), ([10], [10]), ([11, 12, 10], [10, 11, 12]), ([13, 10], [10, 13]), ([14, 10], [10, 14]), ([10], [10]), ([16, 10], [10, 16]), ([15, 17, 10], [10, 15, 17]), ([10, 18], [10, 18])])
def impl_TableCheck.B10 : List Nat := [0, 0, 2, 7, 15, 31, 31, 95, 255, 511, 1023, 2047, 2047, 8191, 16383, 32767, 2047, 67583, 262143, 524287]
theorem impl_TableCheck.tab10 : rtab .any (opsOf Tryd.f19 10) = impl_TableCheck.T10 := by kernel_rfl
theorem impl_TableCheck.bits10 : waitsOk impl_TableCheck.T10.2 impl_TableCheck.B10 = true := by kernel_rfl
def impl_TableCheck.T12 : Bool × List (List Nat × List Nat) := (true, [([], []), ([0], [0]), ([], []), ([], []), ([2, 3], [2, 3]), ([4], [4]), ([1, 5], [1, 5]), ([6, 6, 0, 1, 2, 3, 4, 5, 6], [6])])
def impl_TableCheck.B12 : List Nat := [0, 1, 0, 0, 12, 28, 63, 127]
theorem impl_TableCheck.tab12 : rtab .any (opsOf Tryd.f19 12) = impl_TableCheck.T12 := by kernel_rfl
theorem impl_TableCheck.bits12 : waitsOk impl_TableCheck.T12.2 impl_TableCheck.B12 = true := by kernel_rfl
set_option maxHeartbeats 8000000 in
set_option maxRecDepth 100000 in
theorem impl_TableCheck.calls (k:Nat) (a0:Int) (A1:Option Addr) (c1:Nat) (l1:List (S36)) (r1:Int) (r2:Int) (r3:Int) (w:World) (hr1:Kd.C k36 w A1 l1.length l1) (hc1:l1.length≤c1) (hTC:TbC w) (hTP:TbP w) (h:impl_TableCheck.f k a0 l1=some (r1,r2,r3)) :
  Calls Tryd.prog 19 #[.int .i64 a0,.slice A1 l1.length c1] w fun e w'=>e=.returned (.agg #[.int .i64 r1,.int .i64 r2,.int .i64 r3])∧Below w.heap.size w w':=by
 have HTC:=am hTC;clear hTC;have HTP:=am hTP;clear hTP
 have hu43:=Tryd.underlying43;have hu57:=Tryd.underlying57;have hu36:=Tryd.underlying36;have HR1:=am hr1;have HC1:=am hc1;clear hr1 hc1;have HB:=am (Below.refl w.heap.size w);have H:((impl_Segment.f l1).bind fun t320=>(if t320=true then (some (0,0,2)) else ((impl_within.f a0 1 7).bind fun t321=>(if t321=true then ((impl_tableOf.f k a0).bind fun t322=>(impl_TableCheck.l0 k l1 0 (⟨#[]⟩:ByteArray) t322 (t322.length:Int) 0)) else (some (0,0,1))))))=some (r1,r2,r3):=h;clear h;replace H:=Option.bind_eq_some_iff.mp H;obtain ⟨t320,A30,H⟩:=H;replace H:(if t320=true then (some (0,0,2)) else ((impl_within.f a0 1 7).bind fun t321=>(if t321=true then ((impl_tableOf.f k a0).bind fun t322=>(impl_TableCheck.l0 k l1 0 (⟨#[]⟩:ByteArray) t322 (t322.length:Int) 0)) else (some (0,0,1)))))=some (r1,r2,r3):=H;have A3:=am A30;clear A30
 go_enter Tryd.func19,Tryd.ntmps19
 try go_wp2_with (first|((with_reducible refine gate_dst (N:=4) rfl ?_);(try (refine gate_guard (by rfl) ?_;dsimp only));refine bx 4 (cs:=#[.int .i64 0,.int .i64 0,.int .i64 0]) (t:=43) ?_;intro gb319 hg w4 hbox hb;have BK319:=am (hbox);have GW319:=am ((gs hg (bs HB)));have GE319:=am ((gs hg (bs HB)));replace HB:=am (below_step (bs HB) hb);clear hb hbox hg))
 go_at_call 38;(with_reducible refine (impl_Segment.calls _ _ l1 t320 _ (Kd.C_below HR1.out (bs HB)) HC1.out A3.out).mono ?_);rintro e w' ⟨rfl,⟨nd,rfl⟩⟩
 by_cases c5:t320=true
 ·subst c5
  have H1:(some (0,0,2))=some (r1,r2,r3):=by rw [if_pos rfl] at H;exact H
  clear H;have H:=H1;clear H1;simp only [Option.some.injEq,Prod.mk.injEq] at H;obtain ⟨rfl,rfl,rfl⟩:=H;obtain ⟨hcz6_0,hcz6_1,hcz6_2,hfz6_0,hfz6_1,hfz6_2⟩:=cf3 BK319
  go_wp2
  refine bodyPost_ret (results_cell_row rfl _ _ gb319 43 #[.int .i64 0,.int .i64 0,.int .i64 2] (0,0) _ rfl (kp BK319) Tryd.underlying43 rfl (by kernel_rfl)) rfl ?_
  exact ⟨ff,bs HB⟩
 ·replace c5:=Bool.eq_false_iff.mpr c5;subst c5
  have H1:((impl_within.f a0 1 7).bind fun t321=>(if t321=true then ((impl_tableOf.f k a0).bind fun t322=>(impl_TableCheck.l0 k l1 0 (⟨#[]⟩:ByteArray) t322 (t322.length:Int) 0)) else (some (0,0,1))))=some (r1,r2,r3):=by rw [if_neg (show ¬ (false=true) by decide)] at H;exact H
  clear H;have H:=H1;clear H1;replace H:=Option.bind_eq_some_iff.mp H;obtain ⟨t321,A70,H⟩:=H;replace H:(if t321=true then ((impl_tableOf.f k a0).bind fun t322=>(impl_TableCheck.l0 k l1 0 (⟨#[]⟩:ByteArray) t322 (t322.length:Int) 0)) else (some (0,0,1)))=some (r1,r2,r3):=H;have A7:=am A70;clear A70
  try go_wp2_with (fail)
  go_at_call 39;(with_reducible refine (impl_within.calls a0 1 7 t321 _ A7.out).mono ?_);rintro e w' ⟨rfl,⟨nd,rfl⟩⟩
  by_cases c8:t321=true
  ·subst c8
   have H1:((impl_tableOf.f k a0).bind fun t322=>(impl_TableCheck.l0 k l1 0 (⟨#[]⟩:ByteArray) t322 (t322.length:Int) 0))=some (r1,r2,r3):=by rw [if_pos rfl] at H;exact H
   clear H;have H:=H1;clear H1;replace H:=Option.bind_eq_some_iff.mp H;obtain ⟨t322,A90,H⟩:=H;replace H:(impl_TableCheck.l0 k l1 0 (⟨#[]⟩:ByteArray) t322 (t322.length:Int) 0)=some (r1,r2,r3):=H;have A9:=am A90;clear A90;have H':=am H;clear H
   go_wp2_with (first|((first|((with_reducible refine gate_callee (f:=40) rfl ?_);refine goesL_ (some 21) rfl rfl Tryd.func40 (by kernel_rfl) rfl #[.int .i64 a0] rfl (by (try simp only [List.map_toArray,List.map_cons,List.map_nil]);first|done|rfl|(simp only [List.length_drop,List.length_take];rfl)) ?_;(with_reducible refine (impl_tableOf.calls k a0 t322 _ A9.out).mono ?_);rintro e w10 ⟨v323,rfl,ho0,hb⟩;refine ⟨_,rfl,?_⟩)|(go_at_call 40;(with_reducible refine (impl_tableOf.calls k a0 t322 _ A9.out).mono ?_);rintro e w10 ⟨v323,rfl,ho0,hb⟩));have HO324:=am (Kd.R_lower ho0 (below_size (bs HB)));replace BK319:=am (blk_below (ks BK319) hb);replace HB:=am (below_step (bs HB) hb);(try clear hb);(try clear hb2);(try clear hk);(try clear hi);(try clear ho0);obtain ⟨Ao11,co11,eo11⟩:=Kd.R_slice HO324.out;subst eo11))
   go_loopg [5,6,23] k (fun kq v5 v6 v23 w'=>∃ (x5_1:Int) (x6_1:ByteArray) (x23_1:Int) (x320000_1:Int) (x320001_1:Int) (x320002_1:Int),v5=.int .i64 x5_1∧v6=.string x6_1∧v23=.int .i64 x23_1∧Aside0 (impl_TableCheck.l0 kq l1 x5_1 x6_1 t322 (t322.length:Int) x23_1=some (r1,r2,r3))∧Aside0 (kq≤k)∧Aside0 (Kd.R k57 57 w' w.heap.size (fun _=>True) (.slice Ao11 t322.length co11) t322)∧Aside0 (w'.heap[gb319]? = some (.cells #[.int .i64 x320000_1,.int .i64 x320001_1,.int .i64 x320002_1] 43 (0,0)))∧Aside0 (Below w.heap.size w w'))
   case atStart=>exact ⟨(0),((⟨#[]⟩:ByteArray)),(0),(0),(0),(0),fg,fg,fg,H',⟨Nat.le_refl _⟩,⟨by (with_reducible repeat (first|apply Kd.R_alloc|apply Kd.R_drewN|apply Kd.R_drew));exact HO324.out⟩,⟨ks BK319⟩,⟨bs HB⟩⟩
   case round =>
    clear H'
    try clear c1
    try clear p2
    try clear c4
    try clear c5
    try clear c8
    try clear hcz6_0
    try clear hcz6_1
    try clear hcz6_2
    try clear hfz6_0
    try clear hfz6_1
    try clear hfz6_2
    obtain ⟨x5_1,x6_1,x23_1,x320000_1,x320001_1,x320002_1,rfl,rfl,rfl,HA,HK1,HO_21,BK319,HB⟩:=hrel
    cases gk with
    | zero=>exact absurd HA.out (by simp [impl_TableCheck.l0])
    | succ k1 =>
     have H:=HA.out;clear HA;simp only [impl_TableCheck.l0] at H
     by_cases c12:x23_1<(t322.length:Int)
     ·rw [if_pos c12] at H;have c12b0:decide (x23_1<(t322.length:Int))=true:=decide_eq_true c12;clear c12
      by_cases c13:0≤x23_1
      ·rw [if_pos c13] at H;have c13b0:decide (0≤x23_1)=true:=decide_eq_true c13;clear c13
       by_cases c14:x23_1<(t322.length:Int)
       ·rw [if_pos c14] at H;have c14b0:decide (x23_1<(t322.length:Int))=true:=decide_eq_true c14;clear c14;have H':=am H;clear H;have p325:0≤(x23_1:Int):=oa;have q325:x23_1<(t322.length:Int):=oa;obtain ⟨ad325,e325,hx325_0,hx325_1,hx325_2,hx325_3⟩:=at_T57 (Kd.R_reads' HO_21.out).2.2 x23_1 p325 q325
        cases e325
        replace p325:=eq_true p325;replace q325:=eq_true q325
        go_wp2_with (first|((with_reducible refine gate_dst (N:=8) rfl ?_);(try (refine gate_guard (by rfl) ?_;dsimp only));refine bx 8 (cs:=#[.string (⟨#[]⟩:ByteArray),.int .i64 0,.int .i64 0,.string (⟨#[]⟩:ByteArray)]) (t:=57) ?_;intro gb326 hg w15 hbox hb;replace HO_21:=am (Kd.R_below (Kd.R_elderB (rs HO_21) gb326 (Nat.le_of_eq hg.symm)) hb);have BK326:=am (hbox);have GW326:=am ((gs hg (bs HB)));have GE326:=am ((gs hg (bs HB)));replace HB:=am (below_step (bs HB) hb);have NB319_326:=am ((gn hg (ks BK319)));have NB326_319:=am ((gm hg (ks BK319)));replace BK319:=am (blk_below (ks BK319) hb);clear hb hbox hg;have hnb16:=NB326_319.out;have hnc16:=NB319_326.out;obtain ⟨hcz17_0,hcz17_1,hcz17_2,hcz17_3,hfz17_0,hfz17_1,hfz17_2,hfz17_3⟩:=cf4 BK326))
        go_loopg [5,9] k1 (fun kq v5 v9 w'=>∃ (x5_2:Int) (x9_2:Int) (x320000_2:Int) (x320001_2:Int) (x320002_2:Int),v5=.int .i64 x5_2∧v9=.int .i64 x9_2∧Aside0 (impl_TableCheck.l1 kq l1 x5_2 x9_2 t322 (t322.length:Int) x23_1 ((rd_T57 t322 x23_1).f0) ((rd_T57 t322 x23_1).f1) ((rd_T57 t322 x23_1).f2) ((rd_T57 t322 x23_1).f3)=some (r1,r2,r3))∧Aside0 (kq≤k1)∧Aside0 (Kd.R k57 57 w' w.heap.size (fun k_=>k_≠gb326) (.slice (some ad325) t322.length co11) t322)∧Aside0 (w'.heap[gb319]? = some (.cells #[.int .i64 x320000_2,.int .i64 x320001_2,.int .i64 x320002_2] 43 (0,0)))∧Aside0 (w'.heap[gb326]? = some (.cells #[.string ((rd_T57 t322 x23_1).f0),.int .i64 ((rd_T57 t322 x23_1).f1),.int .i64 ((rd_T57 t322 x23_1).f2),.string ((rd_T57 t322 x23_1).f3)] 57 (0,0)))∧Aside0 (Below w.heap.size w w'))
        case atStart=>exact ⟨(x5_1),(0),(x320000_1),(x320001_1),(x320002_1),fg,fg,H',⟨Nat.le_refl _⟩,⟨Kd.R_mono (rf (Kd.R_mono HO_21.out (fun k_ hk=>(⟨hk,hk.2⟩:_∧k_≠gb326)))) (fun _ hk=>hk.1.2)⟩,⟨ks BK319⟩,⟨kp BK326⟩,⟨bs HB⟩⟩
        case round =>
         clear H'
         try clear c1
         try clear p2
         try clear p3
         try clear q3
         try clear hx3
         try clear c4
         try clear c5
         try clear c8
         try clear c12
         try clear c12b0
         try clear c13
         try clear c13b0
         try clear c14
         try clear c14b0
         try clear c16
         try clear hcz17_0
         try clear hcz17_1
         try clear hcz17_2
         try clear hcz17_3
         try clear hcz6_0
         try clear hcz6_1
         try clear hcz6_2
         try clear hfz17_0
         try clear hfz17_1
         try clear hfz17_2
         try clear hfz17_3
         try clear hfz6_0
         try clear hfz6_1
         try clear hfz6_2
         try clear hx325_0
         try clear hx325_1
         try clear hx325_2
         try clear hx325_3
         try clear p2
         try clear p325
         try clear q325
         obtain ⟨x5_2,x9_2,x320000_2,x320001_2,x320002_2,rfl,rfl,HA,HK2,HO_21,BK319,BK326,HB⟩:=hrel
         cases gk with
         | zero=>exact absurd HA.out (by simp [impl_TableCheck.l1])
         | succ k2 =>
          have H:=HA.out;clear HA;simp only [impl_TableCheck.l1] at H;have HC18:=am H;clear H
          go_upto_region 10 with (fail)
          go_cut [46] (fun v46 wc=>∃ (kq:Nat) (x46_17:Bool),v46=.bool x46_17∧Aside0 (impl_TableCheck.j2 kq l1 x5_2 x9_2 t322 (t322.length:Int) x23_1 x46_17 ((rd_T57 t322 x23_1).f0) ((rd_T57 t322 x23_1).f1) ((rd_T57 t322 x23_1).f2) ((rd_T57 t322 x23_1).f3)=some (r1,r2,r3))∧Aside0 (kq≤k2)∧Aside0 (Kd.R k57 57 wc w.heap.size (fun k_=>k_≠gb326) (.slice (some ad325) t322.length co11) t322)∧Aside0 (wc.heap[gb319]? = some (.cells #[.int .i64 x320000_2,.int .i64 x320001_2,.int .i64 x320002_2] 43 (0,0)))∧Aside0 (wc.heap[gb326]? = some (.cells #[.string ((rd_T57 t322 x23_1).f0),.int .i64 ((rd_T57 t322 x23_1).f1),.int .i64 ((rd_T57 t322 x23_1).f2),.string ((rd_T57 t322 x23_1).f3)] 57 (0,0)))∧Aside0 (Below w.heap.size w wc))
          case first =>
           have H:=HC18.out;clear HC18
           by_cases c19:x9_2<((rd_T57 t322 x23_1).f2)
           ·rw [if_pos c19] at H;have c19b0:decide (x9_2<((rd_T57 t322 x23_1).f2))=true:=decide_eq_true c19;clear c19
            (first|rw [c19b0]|(simp only [i64_w,i32_w];rw [c19b0])|skip)
            by_cases c20:x5_2<(l1.length:Int)
            ·rw [if_pos c20] at H;have c20b0:decide (x5_2<(l1.length:Int))=true:=decide_eq_true c20;clear c20
             by_cases c21:0≤x5_2
             ·rw [if_pos c21] at H;have c21b0:decide (0≤x5_2)=true:=decide_eq_true c21;clear c21;have H':=am H;clear H
              try go_wp2
              replace HO_21:=am (Kd.R_drew HO_21.out);replace BK319:=am (blk_drew BK319.out);replace BK326:=am (blk_drew BK326.out);replace HB:=am (below_drew1 HB.out);have p327:0≤(x5_2:Int):=oa;have q327:x5_2<(l1.length:Int):=oa;obtain ⟨ad327,A327_1,c327_1,e327,hx327_0,hx327_1,hl327_1,hi327_1⟩:=at_T36 HR1.out x5_2 p327 q327;have hw327_1:=hx327_1;have hw327_0:=hx327_0
              cases e327
              replace hx327_0:=cb HB hx327_0;replace hx327_1:=cb HB hx327_1;have HR327_1:=am hi327_1;have HC327_1:=am hl327_1;clear hi327_1 hl327_1;replace p327:=eq_true p327;replace q327:=eq_true q327;refine start_ (n:=20) (S:=fun w'=>qk4a w' gb326 (.string ((rd_T57 t322 x23_1).f0)) (.int .i64 ((rd_T57 t322 x23_1).f1)) (.int .i64 ((rd_T57 t322 x23_1).f2)) (.string ((rd_T57 t322 x23_1).f3)) (qe2 w' (ad327.add ((x5_2).toNat * 2)) (.string ((rd_T36 l1 x5_2).f0)) (.slice A327_1 ((rd_T36 l1 x5_2).f1).length c327_1))) (ds:=[]) _ (by kernel_rfl) rfl rfl (qb4a BK326 ⟨((cb HB hw327_0).trans rfl),((cb HB hw327_1).trans rfl)⟩) (fun hHeld=>?_);refine with_tabW impl_TableCheck.tab10 impl_TableCheck.bits10 (fun HT_ HW_=>?_)
              generalize wr.drew=w22 at HO_21 BK319 BK326 HB HR327_1 hx327_0 hx327_1 hHeld ⊢
              refine pA 0 27 HT_ ?_;refine pA 1 28 HT_ ?_;refine tA 2 29 HT_ HW_ hHeld ?_;refine pA 3 30 HT_ ?_;refine pA 4 31 HT_ ?_;refine pA 5 32 HT_ ?_;refine pA 6 33 HT_ ?_;refine pA 7 34 HT_ ?_;refine pA 8 35 HT_ ?_;refine pA 9 36 HT_ ?_;refine pA 10 37 HT_ ?_;refine pA 11 38 HT_ ?_;refine pA 12 39 HT_ ?_;refine pA 13 40 HT_ ?_;refine pA 14 41 HT_ ?_;refine pA 16 43 HT_ ?_;refine tA 15 42 HT_ HW_ hHeld ?_;refine tA 17 44 HT_ HW_ hHeld ?_;refine pA 18 45 HT_ ?_;refine pA 19 46 HT_ ?_;refine done_ (done_of HT_.out (by kernel_rfl)) ?_
              try go_wp2
              go_meet
              case rel=>exact ⟨_,((((rd_T36 l1 x5_2).f0).toList == ((rd_T57 t322 x23_1).f0).toList)),fg,H',⟨by have:=HK1.out;have:=HK2.out;first|omega|exact Nat.le_refl _⟩,⟨by (with_reducible repeat (first|apply Kd.R_alloc|apply Kd.R_drewN|apply Kd.R_drew));exact HO_21.out⟩,⟨ks BK319⟩,⟨ks BK326⟩,⟨bs HB⟩⟩
             ·rw [if_neg c21] at H
              exact absurd H (by simp)
            ·rw [if_neg c20] at H;have c20b0:decide (x5_2<(l1.length:Int))=false:=decide_eq_false c20;clear c20;have H':=am H;clear H
             try go_wp2
             replace HO_21:=am (Kd.R_drew HO_21.out);replace BK319:=am (blk_drew BK319.out);replace BK326:=am (blk_drew BK326.out);replace HB:=am (below_drew1 HB.out);refine start_ (n:=20) (S:=fun w'=>qk4 w' gb326 (.string ((rd_T57 t322 x23_1).f0)) (.int .i64 ((rd_T57 t322 x23_1).f1)) (.int .i64 ((rd_T57 t322 x23_1).f2)) (.string ((rd_T57 t322 x23_1).f3))) (ds:=[]) _ (by kernel_rfl) rfl rfl (qb4 BK326) (fun hHeld=>?_);refine with_tabW impl_TableCheck.tab10 impl_TableCheck.bits10 (fun HT_ HW_=>?_)
             generalize wr.drew=w23 at HO_21 BK319 BK326 HB hHeld ⊢
             refine pA 0 27 HT_ ?_;refine pA 1 28 HT_ ?_;refine tA 2 29 HT_ HW_ hHeld ?_;refine pA 3 30 HT_ ?_;refine pA 4 31 HT_ ?_;refine pA 5 32 HT_ ?_;refine pA 6 33 HT_ ?_;refine pA 7 34 HT_ ?_;refine pA 8 35 HT_ ?_;refine pA 9 36 HT_ ?_;refine pA 10 37 HT_ ?_;refine pB 11 38 HT_ ?_;refine pB 12 39 HT_ ?_;refine pB 13 40 HT_ ?_;refine pB 14 41 HT_ ?_;refine pB 15 42 HT_ ?_;refine pB 16 43 HT_ ?_;refine pB 17 44 HT_ ?_;refine pB 18 45 HT_ ?_;refine pA 19 46 HT_ ?_;refine done_ (done_of HT_.out (by kernel_rfl)) ?_
             try go_wp2
             go_meet
             case rel=>exact ⟨_,(false),fg,H',⟨by have:=HK1.out;have:=HK2.out;first|omega|exact Nat.le_refl _⟩,⟨by (with_reducible repeat (first|apply Kd.R_alloc|apply Kd.R_drewN|apply Kd.R_drew));exact HO_21.out⟩,⟨ks BK319⟩,⟨ks BK326⟩,⟨bs HB⟩⟩
           ·rw [if_neg c19] at H;have c19b0:decide (x9_2<((rd_T57 t322 x23_1).f2))=false:=decide_eq_false c19;clear c19
            (first|rw [c19b0]|(simp only [i64_w,i32_w];rw [c19b0])|skip)
            have H':=am H;clear H
            try go_wp2
            replace HO_21:=am (Kd.R_drew HO_21.out);replace BK319:=am (blk_drew BK319.out);replace BK326:=am (blk_drew BK326.out);replace HB:=am (below_drew1 HB.out);refine start_ (n:=20) (S:=fun w'=>qk4 w' gb326 (.string ((rd_T57 t322 x23_1).f0)) (.int .i64 ((rd_T57 t322 x23_1).f1)) (.int .i64 ((rd_T57 t322 x23_1).f2)) (.string ((rd_T57 t322 x23_1).f3))) (ds:=[]) _ (by kernel_rfl) rfl rfl (qb4 BK326) (fun hHeld=>?_);refine with_tabW impl_TableCheck.tab10 impl_TableCheck.bits10 (fun HT_ HW_=>?_)
            generalize wr.drew=w24 at HO_21 BK319 BK326 HB hHeld ⊢
            refine pA 0 27 HT_ ?_;refine pA 1 28 HT_ ?_;refine tA 2 29 HT_ HW_ hHeld ?_;refine pA 3 30 HT_ ?_;refine pA 4 31 HT_ ?_;refine pB 5 32 HT_ ?_;refine pB 6 33 HT_ ?_;refine pB 7 34 HT_ ?_;refine pB 8 35 HT_ ?_;refine pA 9 36 HT_ ?_;refine pA 10 37 HT_ ?_;refine pB 11 38 HT_ ?_;refine pB 12 39 HT_ ?_;refine pB 13 40 HT_ ?_;refine pB 14 41 HT_ ?_;refine pB 15 42 HT_ ?_;refine pB 16 43 HT_ ?_;refine pB 17 44 HT_ ?_;refine pB 18 45 HT_ ?_;refine pA 19 46 HT_ ?_;refine done_ (done_of HT_.out (by kernel_rfl)) ?_
            try go_wp2
            go_meet
            case rel=>exact ⟨_,(false),fg,H',⟨by have:=HK1.out;have:=HK2.out;first|omega|exact Nat.le_refl _⟩,⟨by (with_reducible repeat (first|apply Kd.R_alloc|apply Kd.R_drewN|apply Kd.R_drew));exact HO_21.out⟩,⟨ks BK319⟩,⟨ks BK326⟩,⟨bs HB⟩⟩
          case rest =>
           clear HC18
           try clear c1
           try clear c2
           try clear p2
           try clear c3
           try clear p3
           try clear q3
           try clear hx3
           try clear c4
           try clear c5
           try clear c8
           try clear c12
           try clear c12b0
           try clear c13
           try clear c13b0
           try clear c14
           try clear c14b0
           try clear c16
           try clear c19
           try clear c19b0
           try clear c20
           try clear c20b0
           try clear c21
           try clear c21b0
           try clear hcz17_0
           try clear hcz17_1
           try clear hcz17_2
           try clear hcz17_3
           try clear hcz6_0
           try clear hcz6_1
           try clear hcz6_2
           try clear hfz17_0
           try clear hfz17_1
           try clear hfz17_2
           try clear hfz17_3
           try clear hfz6_0
           try clear hfz6_1
           try clear hfz6_2
           try clear hx325_0
           try clear hx325_1
           try clear hx325_2
           try clear hx325_3
           try clear hx327_0
           try clear hx327_1
           try clear p2
           try clear p3
           try clear p325
           try clear p327
           try clear q3
           try clear q325
           try clear q327
           obtain ⟨kq,x46_17,rfl,HA,HJ17,HO_21,BK319,BK326,HB⟩:=hcut
           cases kq with
           | zero=>exact absurd HA.out (by simp [impl_TableCheck.j2])
           | succ kj17 =>
            have H:=HA.out;clear HA;simp only [impl_TableCheck.j2] at H
            by_cases c25:x46_17=true
            ·subst c25
             have H1:(if 0≤x5_2 then (if x5_2<(l1.length:Int) then ((impl_FormRight.f kj17 ((rd_T57 t322 x23_1).f3) ((rd_T36 l1 x5_2).f0) ((rd_T36 l1 x5_2).f1)).bind fun t329=>(if t329≥0 then (some (x5_2,t329,3)) else (impl_TableCheck.l1 kj17 l1 (wrap64 (x5_2+1)) (wrap64 (x9_2+1)) t322 (t322.length:Int) x23_1 ((rd_T57 t322 x23_1).f0) ((rd_T57 t322 x23_1).f1) ((rd_T57 t322 x23_1).f2) ((rd_T57 t322 x23_1).f3)))) else (none)) else (none))=some (r1,r2,r3):=by rw [if_pos rfl] at H;exact H
             clear H;have H:=H1;clear H1
             by_cases c26:0≤x5_2
             ·rw [if_pos c26] at H;have c26b0:decide (0≤x5_2)=true:=decide_eq_true c26;clear c26
              by_cases c27:x5_2<(l1.length:Int)
              ·rw [if_pos c27] at H;have c27b0:decide (x5_2<(l1.length:Int))=true:=decide_eq_true c27;clear c27;replace H:=Option.bind_eq_some_iff.mp H;obtain ⟨t329,A280,H⟩:=H;replace H:(if t329≥0 then (some (x5_2,t329,3)) else (impl_TableCheck.l1 kj17 l1 (wrap64 (x5_2+1)) (wrap64 (x9_2+1)) t322 (t322.length:Int) x23_1 ((rd_T57 t322 x23_1).f0) ((rd_T57 t322 x23_1).f1) ((rd_T57 t322 x23_1).f2) ((rd_T57 t322 x23_1).f3)))=some (r1,r2,r3):=H;have A28:=am A280;clear A280
               by_cases c29:t329≥0
               ·rw [if_pos c29] at H;have c29b0:decide (0≤t329)=true:=decide_eq_true c29;clear c29;simp only [Option.some.injEq,Prod.mk.injEq] at H;obtain ⟨rfl,rfl,rfl⟩:=H
                try go_wp2
                replace HO_21:=am (Kd.R_drew HO_21.out);replace BK319:=am (blk_drew BK319.out);replace BK326:=am (blk_drew BK326.out);replace HB:=am (below_drew1 HB.out);have p328:0≤(x5_2:Int):=oa;have q328:x5_2<(l1.length:Int):=oa;obtain ⟨ad328,A328_1,c328_1,e328,hx328_0,hx328_1,hl328_1,hi328_1⟩:=at_T36 HR1.out x5_2 p328 q328;have hw328_1:=hx328_1;have hw328_0:=hx328_0
                cases e328
                replace hx328_0:=cb HB hx328_0;replace hx328_1:=cb HB hx328_1;have HR328_1:=am hi328_1;have HC328_1:=am hl328_1;clear hi328_1 hl328_1;replace p328:=eq_true p328;replace q328:=eq_true q328;refine start_ (n:=8) (S:=fun w'=>qk4a w' gb326 (.string ((rd_T57 t322 x23_1).f0)) (.int .i64 ((rd_T57 t322 x23_1).f1)) (.int .i64 ((rd_T57 t322 x23_1).f2)) (.string ((rd_T57 t322 x23_1).f3)) (qe2 w' (ad328.add ((x5_2).toNat * 2)) (.string ((rd_T36 l1 x5_2).f0)) (.slice A328_1 ((rd_T36 l1 x5_2).f1).length c328_1))) (ds:=[]) _ (by kernel_rfl) rfl rfl (qb4a BK326 ⟨((cb HB hw328_0).trans rfl),((cb HB hw328_1).trans rfl)⟩) (fun hHeld=>?_);refine with_tabW impl_TableCheck.tab12 impl_TableCheck.bits12 (fun HT_ HW_=>?_)
                generalize wc.drew=w30 at HO_21 BK319 BK326 HB HR328_1 hx328_0 hx328_1 hHeld ⊢
                refine pA 0 49 HT_ ?_;refine pA 2 51 HT_ ?_;refine pA 3 52 HT_ ?_;refine pA 4 53 HT_ ?_;refine tA 1 50 HT_ HW_ hHeld ?_;refine tA 5 54 HT_ HW_ hHeld ?_;refine oA 6 55 HT_ (fun K hK=>?_);refine gA Tryd.func14 #[.string ((rd_T57 t322 x23_1).f3),.agg #[.string ((rd_T36 l1 x5_2).f0),.slice A328_1 ((rd_T36 l1 x5_2).f1).length c328_1]] ?_;(with_reducible refine (impl_FormRight.calls kj17 ((rd_T57 t322 x23_1).f3) ((rd_T36 l1 x5_2).f0) _ _ ((rd_T36 l1 x5_2).f1) t329 _ ?side1 ?side2 (tbC HTC (bs HB)) (tbP HTP (bs HB)) A28.out).mono ?_)
                (case side1=>repeat (first|exact (Kd.C_below HR328_1.out HB.out)|(with_reducible refine Kd.C_alloc ?_ _)|(with_reducible refine Kd.C_drewN ?_ _)|(with_reducible refine Kd.C_drew ?_)))
                (case side2=>exact HC328_1.out)
                rintro e w31 ⟨rfl,hb⟩;refine ⟨_,rfl,?_⟩;replace HO_21:=am (Kd.R_below (rs HO_21) hb);replace BK319:=am (blk_below (ks BK319) hb);replace BK326:=am (blk_below (ks BK326) hb);replace HB:=am (below_step (bs HB) hb);(try clear hb);(try clear hb2);(try clear hk);(try clear hi);refine hK.out _ _ (qb4a BK326 ⟨((cb HB hw328_0).trans rfl),((cb HB hw328_1).trans rfl)⟩) (fun hHeld=>?_);clear hK K;refine nA 55 ?_;refine pA 7 10 HT_ ?_;refine done_ (done_of HT_.out (by kernel_rfl)) ?_;have hnb32:=NB319_326.out;have hnc32:=NB326_319.out;obtain ⟨hcz33_0,hcz33_1,hcz33_2,hfz33_0,hfz33_1,hfz33_2⟩:=cf3 BK319
                try go_wp2
                refine bodyPost_ret (results_cell_row rfl _ _ gb319 43 #[.int .i64 x5_2,.int .i64 t329,.int .i64 3] (0,0) _ rfl (kp BK319) Tryd.underlying43 rfl (by kernel_rfl)) rfl ?_
                exact ⟨ff,bs HB⟩
               ·rw [if_neg c29] at H;have c29b0:decide (0≤t329)=false:=decide_eq_false c29;clear c29;have H':=am H;clear H
                try go_wp2
                replace HO_21:=am (Kd.R_drew HO_21.out);replace BK319:=am (blk_drew BK319.out);replace BK326:=am (blk_drew BK326.out);replace HB:=am (below_drew1 HB.out);have p328:0≤(x5_2:Int):=oa;have q328:x5_2<(l1.length:Int):=oa;obtain ⟨ad328,A328_1,c328_1,e328,hx328_0,hx328_1,hl328_1,hi328_1⟩:=at_T36 HR1.out x5_2 p328 q328;have hw328_1:=hx328_1;have hw328_0:=hx328_0
                cases e328
                replace hx328_0:=cb HB hx328_0;replace hx328_1:=cb HB hx328_1;have HR328_1:=am hi328_1;have HC328_1:=am hl328_1;clear hi328_1 hl328_1;replace p328:=eq_true p328;replace q328:=eq_true q328;refine start_ (n:=8) (S:=fun w'=>qk4a w' gb326 (.string ((rd_T57 t322 x23_1).f0)) (.int .i64 ((rd_T57 t322 x23_1).f1)) (.int .i64 ((rd_T57 t322 x23_1).f2)) (.string ((rd_T57 t322 x23_1).f3)) (qe2 w' (ad328.add ((x5_2).toNat * 2)) (.string ((rd_T36 l1 x5_2).f0)) (.slice A328_1 ((rd_T36 l1 x5_2).f1).length c328_1))) (ds:=[]) _ (by kernel_rfl) rfl rfl (qb4a BK326 ⟨((cb HB hw328_0).trans rfl),((cb HB hw328_1).trans rfl)⟩) (fun hHeld=>?_);refine with_tabW impl_TableCheck.tab12 impl_TableCheck.bits12 (fun HT_ HW_=>?_)
                generalize wc.drew=w34 at HO_21 BK319 BK326 HB HR328_1 hx328_0 hx328_1 hHeld ⊢
                refine pA 0 49 HT_ ?_;refine pA 2 51 HT_ ?_;refine pA 3 52 HT_ ?_;refine pA 4 53 HT_ ?_;refine tA 1 50 HT_ HW_ hHeld ?_;refine tA 5 54 HT_ HW_ hHeld ?_;refine oA 6 55 HT_ (fun K hK=>?_);refine gA Tryd.func14 #[.string ((rd_T57 t322 x23_1).f3),.agg #[.string ((rd_T36 l1 x5_2).f0),.slice A328_1 ((rd_T36 l1 x5_2).f1).length c328_1]] ?_;(with_reducible refine (impl_FormRight.calls kj17 ((rd_T57 t322 x23_1).f3) ((rd_T36 l1 x5_2).f0) _ _ ((rd_T36 l1 x5_2).f1) t329 _ ?side1 ?side2 (tbC HTC (bs HB)) (tbP HTP (bs HB)) A28.out).mono ?_)
                (case side1=>repeat (first|exact (Kd.C_below HR328_1.out HB.out)|(with_reducible refine Kd.C_alloc ?_ _)|(with_reducible refine Kd.C_drewN ?_ _)|(with_reducible refine Kd.C_drew ?_)))
                (case side2=>exact HC328_1.out)
                rintro e w35 ⟨rfl,hb⟩;refine ⟨_,rfl,?_⟩;replace HO_21:=am (Kd.R_below (rs HO_21) hb);replace BK319:=am (blk_below (ks BK319) hb);replace BK326:=am (blk_below (ks BK326) hb);replace HB:=am (below_step (bs HB) hb);(try clear hb);(try clear hb2);(try clear hk);(try clear hi);refine hK.out _ _ (qb4a BK326 ⟨((cb HB hw328_0).trans rfl),((cb HB hw328_1).trans rfl)⟩) (fun hHeld=>?_);clear hK K;refine nA 55 ?_;refine pA 7 10 HT_ ?_;refine done_ (done_of HT_.out (by kernel_rfl)) ?_
                try go_wp2
                go_roundg kj17
                case measure=>have:=HK1.out;have:=HK2.out;have:=HJ17.out;omega
                case rel=>exact ⟨(wrap64 (x5_2+1)),(wrap64 (x9_2+1)),(x320000_2),(x320001_2),(x320002_2),fg,fg,H',⟨by have:=HK1.out;have:=HK2.out;have:=HJ17.out;omega⟩,⟨by (with_reducible repeat (first|apply Kd.R_alloc|apply Kd.R_drewN|apply Kd.R_drew));exact HO_21.out⟩,⟨ks BK319⟩,⟨ks BK326⟩,⟨bs HB⟩⟩
              ·rw [if_neg c27] at H
               exact absurd H (by simp)
             ·rw [if_neg c26] at H
              exact absurd H (by simp)
            ·replace c25:=Bool.eq_false_iff.mpr c25;subst c25
             have H1:(if x9_2<((rd_T57 t322 x23_1).f1) then (some (x5_2,0,4)) else (impl_TableCheck.l0 kj17 l1 x5_2 ((rd_T57 t322 x23_1).f0) t322 (t322.length:Int) (wrap64 (x23_1+1))))=some (r1,r2,r3):=by rw [if_neg (show ¬ (false=true) by decide)] at H;exact H
             clear H;have H:=H1;clear H1
             by_cases c36:x9_2<((rd_T57 t322 x23_1).f1)
             ·rw [if_pos c36] at H;have c36b0:decide (x9_2<((rd_T57 t322 x23_1).f1))=true:=decide_eq_true c36;clear c36;simp only [Option.some.injEq,Prod.mk.injEq] at H;obtain ⟨rfl,rfl,rfl⟩:=H;have hnb37:=NB326_319.out;have hnc37:=NB319_326.out;obtain ⟨hcz38_0,hcz38_1,hcz38_2,hcz38_3,hfz38_0,hfz38_1,hfz38_2,hfz38_3⟩:=cf4 BK326;obtain ⟨hcz39_0,hcz39_1,hcz39_2,hfz39_0,hfz39_1,hfz39_2⟩:=cf3 BK319
              go_wp2
              refine bodyPost_ret (results_cell_row rfl _ _ gb319 43 #[.int .i64 x5_2,.int .i64 0,.int .i64 4] (0,0) _ rfl (kp BK319) Tryd.underlying43 rfl (by kernel_rfl)) rfl ?_
              exact ⟨ff,bs HB⟩
             ·rw [if_neg c36] at H;have c36b0:decide (x9_2<((rd_T57 t322 x23_1).f1))=false:=decide_eq_false c36;clear c36;have H':=am H;clear H;have hnb40:=NB326_319.out;have hnc40:=NB319_326.out;obtain ⟨hcz41_0,hcz41_1,hcz41_2,hcz41_3,hfz41_0,hfz41_1,hfz41_2,hfz41_3⟩:=cf4 BK326
              go_wp2
              go_roundg kj17
              case measure=>have:=HK1.out;have:=HK2.out;have:=HJ17.out;omega
              case rel=>exact ⟨(x5_2),(((rd_T57 t322 x23_1).f0)),(wrap64 (x23_1+1)),(x320000_2),(x320001_2),(x320002_2),fg,fg,fg,H',⟨by have:=HK1.out;have:=HK2.out;have:=HJ17.out;omega⟩,⟨by (with_reducible repeat (first|apply Kd.R_alloc|apply Kd.R_drewN|apply Kd.R_drew));exact Kd.R_mono HO_21.out (fun _ hk=>trivial)⟩,⟨ks BK319⟩,⟨bs HB⟩⟩
       ·rw [if_neg c14] at H
        exact absurd H (by simp)
      ·rw [if_neg c13] at H
       exact absurd H (by simp)
     ·rw [if_neg c12] at H;have c12b0:decide (x23_1<(t322.length:Int))=false:=decide_eq_false c12;clear c12
      by_cases c42:x5_1=(l1.length:Int)
      ·rw [if_pos c42] at H;have c42b0:(x5_1 == (l1.length:Int))=true:=beq_iff_eq.mpr c42;have c42b1:(x5_1 != (l1.length:Int))=false:=bne_eq_false_iff_eq.mpr c42;clear c42;simp only [Option.some.injEq,Prod.mk.injEq] at H;obtain ⟨rfl,rfl,rfl⟩:=H;obtain ⟨hcz43_0,hcz43_1,hcz43_2,hfz43_0,hfz43_1,hfz43_2⟩:=cf3 BK319
       go_wp2
       refine bodyPost_ret (results_cell_row rfl _ _ gb319 43 #[.int .i64 0,.int .i64 0,.int .i64 0] (0,0) _ rfl (kp BK319) Tryd.underlying43 rfl (by kernel_rfl)) rfl ?_
       exact ⟨ff,bs HB⟩
      ·rw [if_neg c42] at H;have c42b0:(x5_1 == (l1.length:Int))=false:=beq_eq_false_iff_ne.mpr c42;have c42b1:(x5_1 != (l1.length:Int))=true:=bne_iff_ne.mpr c42
       by_cases c44:0≤x5_1
       ·rw [if_pos c44] at H;have c44b0:decide (0≤x5_1)=true:=decide_eq_true c44;clear c44
        by_cases c45:x5_1<(l1.length:Int)
        ·rw [if_pos c45] at H;have c45b0:decide (x5_1<(l1.length:Int))=true:=decide_eq_true c45;clear c45
         by_cases c46:((rd_T36 l1 x5_1).f0).toList=x6_1.toList
         ·rw [if_pos c46] at H;have c46b0:(((rd_T36 l1 x5_1).f0).toList == x6_1.toList)=true:=beq_iff_eq.mpr c46;have c46b1:(((rd_T36 l1 x5_1).f0).toList != x6_1.toList)=false:=bne_eq_false_iff_eq.mpr c46;clear c46;simp only [Option.some.injEq,Prod.mk.injEq] at H;obtain ⟨rfl,rfl,rfl⟩:=H;have p330:0≤(x5_1:Int):=oa;have q330:x5_1<(l1.length:Int):=oa;obtain ⟨ad330,A330_1,c330_1,e330,hx330_0,hx330_1,hl330_1,hi330_1⟩:=at_T36 HR1.out x5_1 p330 q330
          cases e330
          replace hx330_0:=cb HB hx330_0;replace hx330_1:=cb HB hx330_1;have HR330_1:=am hi330_1;have HC330_1:=am hl330_1;clear hi330_1 hl330_1;replace p330:=eq_true p330;replace q330:=eq_true q330;obtain ⟨hcz47_0,hcz47_1,hcz47_2,hfz47_0,hfz47_1,hfz47_2⟩:=cf3 BK319
          go_wp2
          refine bodyPost_ret (results_cell_row rfl _ _ gb319 43 #[.int .i64 x5_1,.int .i64 0,.int .i64 7] (0,0) _ rfl (kp BK319) Tryd.underlying43 rfl (by kernel_rfl)) rfl ?_
          exact ⟨ff,bs HB⟩
         ·rw [if_neg c46] at H;have c46b0:(((rd_T36 l1 x5_1).f0).toList == x6_1.toList)=false:=beq_eq_false_iff_ne.mpr c46;have c46b1:(((rd_T36 l1 x5_1).f0).toList != x6_1.toList)=true:=bne_iff_ne.mpr c46;simp only [Option.some.injEq,Prod.mk.injEq] at H;obtain ⟨rfl,rfl,rfl⟩:=H;have p330:0≤(x5_1:Int):=oa;have q330:x5_1<(l1.length:Int):=oa;obtain ⟨ad330,A330_1,c330_1,e330,hx330_0,hx330_1,hl330_1,hi330_1⟩:=at_T36 HR1.out x5_1 p330 q330
          cases e330
          replace hx330_0:=cb HB hx330_0;replace hx330_1:=cb HB hx330_1;have HR330_1:=am hi330_1;have HC330_1:=am hl330_1;clear hi330_1 hl330_1;replace p330:=eq_true p330;replace q330:=eq_true q330;obtain ⟨hcz48_0,hcz48_1,hcz48_2,hfz48_0,hfz48_1,hfz48_2⟩:=cf3 BK319
          go_wp2
          refine bodyPost_ret (results_cell_row rfl _ _ gb319 43 #[.int .i64 x5_1,.int .i64 0,.int .i64 3] (0,0) _ rfl (kp BK319) Tryd.underlying43 rfl (by kernel_rfl)) rfl ?_
          exact ⟨ff,bs HB⟩
        ·rw [if_neg c45] at H
         exact absurd H (by simp)
       ·rw [if_neg c44] at H
        exact absurd H (by simp)
  ·replace c8:=Bool.eq_false_iff.mpr c8;subst c8
   have H1:(some (0,0,1))=some (r1,r2,r3):=by rw [if_neg (show ¬ (false=true) by decide)] at H;exact H
   clear H;have H:=H1;clear H1;simp only [Option.some.injEq,Prod.mk.injEq] at H;obtain ⟨rfl,rfl,rfl⟩:=H;obtain ⟨hcz49_0,hcz49_1,hcz49_2,hfz49_0,hfz49_1,hfz49_2⟩:=cf3 BK319
   go_wp2
   refine bodyPost_ret (results_cell_row rfl _ _ gb319 43 #[.int .i64 0,.int .i64 0,.int .i64 1] (0,0) _ rfl (kp BK319) Tryd.underlying43 rfl (by kernel_rfl)) rfl ?_
   exact ⟨ff,bs HB⟩
def IsS103 (w0 W : World) (g : Nat) (f0 : List Int) (f1 : Int) (f2 : Int) (f3 : Int) : Prop := ∃ A0 c0, W.heap[g]? = some (.cells #[.slice A0 f0.length c0, .int .i64 f1, .int .u64 f2, .int .i64 f3] 103 (0, 0)) ∧ w0.heap.size ≤ g ∧ (Kd.C (Kd.int .u8) w0 A0 f0.length f0 ∧ f0.length ≤ c0)
theorem IsS103.grown {w0 W : World} {g : Nat} {f0 : List Int} {f1 : Int} {f2 : Int} {f3 : Int} {W1 : World} {row : Option Nat} (h : IsS103 w0 W g f0 f1 f2 f3) (hw : W.grownBy W1 row) (hne : some g ≠ row) : IsS103 w0 W1 g f0 f1 f2 f3 := by
  obtain ⟨A0, c0, hb, hg, hr0⟩ := h
  exact ⟨A0, c0, blk_grown hb hw hne, hg, hr0⟩
theorem IsS103.own_neN {w0 W : World} {g : Nat} {f0 : List Int} {f1 : Int} {f2 : Int} {f3 : Int} {α : Type} {d : Kd α} {e : Nat} {base : Nat} {ok : Nat → Prop} {v : Value} {xs : List α} (h : IsS103 w0 W g f0 f1 f2 f3) (ho : Kd.N d e W base ok v xs) (ht : e ≠ 103) : some g ≠ v.ownBlock := by
  obtain ⟨A0, c0, hb, hg, hr0⟩ := h
  exact Kd.N_ne ho hb ht
theorem IsS103.fresh {w0 W : World} {g : Nat} {f0 : List Int} {f1 : Int} {f2 : Int} {f3 : Int} (h : IsS103 w0 W g f0 f1 f2 f3) : ∀ k, W.heap.size ≤ k → k ≠ g := by
  obtain ⟨A0, c0, hb, hg, hr0⟩ := h
  exact Kd.freshB hb
theorem IsS103.kept {w0 W : World} {g : Nat} {f0 : List Int} {f1 : Int} {f2 : Int} {f3 : Int} {W1 : World} {S : Nat → Prop} (h : IsS103 w0 W g f0 f1 f2 f3) (hk : Kept W W1 S) (hne : ¬ S g) : IsS103 w0 W1 g f0 f1 f2 f3 := by
  obtain ⟨A0, c0, hb, hg, hr0⟩ := h
  exact ⟨A0, c0, blk_kept hb hk hne, hg, hr0⟩
theorem IsS103.below {w0 W : World} {g : Nat} {f0 : List Int} {f1 : Int} {f2 : Int} {f3 : Int} {W1 : World} (h : IsS103 w0 W g f0 f1 f2 f3) (hw : Below W.heap.size W W1) : IsS103 w0 W1 g f0 f1 f2 f3 := h.grown (grown_of_below hw none) (by simp)
theorem IsS103.alloc {w0 W : World} {g : Nat} {f0 : List Int} {f1 : Int} {f2 : Int} {f3 : Int} (h : IsS103 w0 W g f0 f1 f2 f3) (o : Obj) : IsS103 w0 (W.alloc o) g f0 f1 f2 f3 := h.below (below_alloc (Below.refl _ _) o)
theorem IsS103.drewN {w0 W : World} {g : Nat} {f0 : List Int} {f1 : Int} {f2 : Int} {f3 : Int} (h : IsS103 w0 W g f0 f1 f2 f3) (m : Nat) : IsS103 w0 (W.drewN m) g f0 f1 f2 f3 := h
theorem IsS103.drew {w0 W : World} {g : Nat} {f0 : List Int} {f1 : Int} {f2 : Int} {f3 : Int} (h : IsS103 w0 W g f0 f1 f2 f3) : IsS103 w0 W.drew g f0 f1 f2 f3 := h
theorem IsS103.at_ {w0 W : World} {g : Nat} {f0 : List Int} {f1 : Int} {f2 : Int} {f3 : Int} {w' : World} {m : Nat} (hq : W.drewN m = w') (h : IsS103 w0 W g f0 f1 f2 f3) : IsS103 w0 w' g f0 f1 f2 f3 := by subst hq; exact IsS103.drewN h m
theorem IsS103.apart {w0 W : World} {g : Nat} {f0 : List Int} {f1 : Int} {f2 : Int} {f3 : Int} {α : Type} {d : Kd α} {e : Nat} {base : Nat} {ok : Nat → Prop} {v : Value} {xs : List α} (h : IsS103 w0 W g f0 f1 f2 f3) (ho : d.R e W base ok v xs) (ht : ∀ q, q ∈ e :: d.E → q ≠ 103) : d.R e W base (fun k => ok k ∧ k ≠ g) v xs := by
  obtain ⟨A0, c0, hb, hg, hr0⟩ := h
  exact Kd.R_types ho hb ht
theorem IsS103.own_ne {w0 W : World} {g : Nat} {f0 : List Int} {f1 : Int} {f2 : Int} {f3 : Int} {α : Type} {d : Kd α} {e : Nat} {base : Nat} {ok : Nat → Prop} {v : Value} {xs : List α} (h : IsS103 w0 W g f0 f1 f2 f3) (ho : d.R e W base ok v xs) (ht : e ≠ 103) : some g ≠ v.ownBlock := by
  obtain ⟨A0, c0, hb, hg, hr0⟩ := h
  exact Kd.R_ne ho hb ht
theorem IsS103.apartS {w0 W : World} {g : Nat} {f0 : List Int} {f1 : Int} {f2 : Int} {f3 : Int} {α : Type} {d : Kd α} {e : Nat} {base : Nat} {ok : Nat → Prop} {v : Value} {xs : List α} (h : IsS103 w0 W g f0 f1 f2 f3) (ho : d.S e W base ok v xs) (ht : ∀ q, q ∈ e :: d.E → q ≠ 103) : d.S e W base (fun k => ok k ∧ k ≠ g) v xs := by
  obtain ⟨A0, c0, hb, hg, hr0⟩ := h
  exact Kd.S_types ho hb ht
theorem IsS103.own_neS {w0 W : World} {g : Nat} {f0 : List Int} {f1 : Int} {f2 : Int} {f3 : Int} {α : Type} {d : Kd α} {e : Nat} {base : Nat} {ok : Nat → Prop} {v : Value} {xs : List α} (h : IsS103 w0 W g f0 f1 f2 f3) (ho : d.S e W base ok v xs) (ht : e ≠ 103) : some g ≠ v.ownBlock := by
  obtain ⟨A0, c0, hb, hg, hr0⟩ := h
  exact Kd.S_ne ho hb ht
theorem IsS103.lt {w0 W : World} {g : Nat} {f0 : List Int} {f1 : Int} {f2 : Int} {f3 : Int} (h : IsS103 w0 W g f0 f1 f2 f3) : g < W.heap.size := by
  obtain ⟨A0, c0, hb, hg, hr0⟩ := h
  exact blk_lt hb
theorem IsS103.ge {w0 W : World} {g : Nat} {f0 : List Int} {f1 : Int} {f2 : Int} {f3 : Int} (h : IsS103 w0 W g f0 f1 f2 f3) : w0.heap.size ≤ g := by
  obtain ⟨A0, c0, hb, hg, hr0⟩ := h
  exact hg
theorem IsS103.far {w0 W : World} {g : Nat} {f0 : List Int} {f1 : Int} {f2 : Int} {f3 : Int} {p : Addr} (h : IsS103 w0 W g f0 f1 f2 f3) (hne : g ≠ p.block) (u : Value) : IsS103 w0 (W.setCell p u) g f0 f1 f2 f3 := by
  obtain ⟨A0, c0, hb, hg, hr0⟩ := h
  exact ⟨A0, c0, blk_far hb hne u, hg, hr0⟩
theorem cellS103_0 {W : World} {g : Nat} {A0 : Option Addr} {c0 : Nat} {f0 : List Int} {f1 : Int} {f2 : Int} {f3 : Int} (h : W.heap[g]? = some (.cells #[.slice A0 f0.length c0, .int .i64 f1, .int .u64 f2, .int .i64 f3] 103 (0, 0))) : W.cell? ⟨g, 0, none⟩ = some (.slice A0 f0.length c0) := (blk_cell h 0).trans rfl
theorem cellS103_1 {W : World} {g : Nat} {A0 : Option Addr} {c0 : Nat} {f0 : List Int} {f1 : Int} {f2 : Int} {f3 : Int} (h : W.heap[g]? = some (.cells #[.slice A0 f0.length c0, .int .i64 f1, .int .u64 f2, .int .i64 f3] 103 (0, 0))) : W.cell? ⟨g, 1, none⟩ = some (.int .i64 f1) := (blk_cell h 1).trans rfl
theorem IsS103.set_1 {w0 W : World} {g : Nat} {f0 : List Int} {f1 : Int} {f2 : Int} {f3 : Int} (h : IsS103 w0 W g f0 f1 f2 f3) (x : Int) : IsS103 w0 (W.setCell ⟨g, 1, none⟩ (.int .i64 x)) g f0 x f2 f3 := by
  obtain ⟨A0, c0, hb, hg, hr0⟩ := h
  exact ⟨A0, c0, by simpa using blk_set hb 1 (.int .i64 x), hg, hr0⟩
theorem cellS103_2 {W : World} {g : Nat} {A0 : Option Addr} {c0 : Nat} {f0 : List Int} {f1 : Int} {f2 : Int} {f3 : Int} (h : W.heap[g]? = some (.cells #[.slice A0 f0.length c0, .int .i64 f1, .int .u64 f2, .int .i64 f3] 103 (0, 0))) : W.cell? ⟨g, 2, none⟩ = some (.int .u64 f2) := (blk_cell h 2).trans rfl
theorem IsS103.set_2 {w0 W : World} {g : Nat} {f0 : List Int} {f1 : Int} {f2 : Int} {f3 : Int} (h : IsS103 w0 W g f0 f1 f2 f3) (x : Int) : IsS103 w0 (W.setCell ⟨g, 2, none⟩ (.int .u64 x)) g f0 f1 x f3 := by
  obtain ⟨A0, c0, hb, hg, hr0⟩ := h
  exact ⟨A0, c0, by simpa using blk_set hb 2 (.int .u64 x), hg, hr0⟩
theorem IsS103.set_3 {w0 W : World} {g : Nat} {f0 : List Int} {f1 : Int} {f2 : Int} {f3 : Int} (h : IsS103 w0 W g f0 f1 f2 f3) (x : Int) : IsS103 w0 (W.setCell ⟨g, 3, none⟩ (.int .i64 x)) g f0 f1 f2 x := by
  obtain ⟨A0, c0, hb, hg, hr0⟩ := h
  exact ⟨A0, c0, by simpa using blk_set hb 3 (.int .i64 x), hg, hr0⟩
def spec_l01Source.T5 : Bool × List (List Nat × List Nat) := (true, [([], []), ([], []), ([1], [1]), ([2], [2]), ([3], [3]), ([], []), ([], []), ([5, 6], [5, 6]), ([7], [7]), ([8], [8]), ([4, 9], [4, 9]), ([10], [10]), ([0, 0, 1, 2, 3, 4, 5, 6, 7, 8, 9, 10, 11], [0]), ([12, 0, 1, 2, 3, 4, 5, 6, 7, 8, 9, 10, 11], [12]), ([13, 11, 0, 1, 2, 3, 4, 5, 6, 7, 8, 9, 10, 11], [11, 13])])
def spec_l01Source.B5 : List Nat := [0, 0, 2, 6, 14, 0, 0, 96, 224, 480, 1022, 2046, 4095, 8191, 16383]
theorem spec_l01Source.tab5 : rtab .any (opsOf Tryd.f41 5) = spec_l01Source.T5 := by kernel_rfl
theorem spec_l01Source.bits5 : waitsOk spec_l01Source.T5.2 spec_l01Source.B5 = true := by kernel_rfl
set_option maxHeartbeats 8000000 in
set_option maxRecDepth 100000 in
theorem spec_l01Source.calls (k:Nat) (A0:Option Addr) (c0:Nat) (l0:List Int) (r1:List Int) (r2:Int) (r3:Int) (r4:Int) (w0 w:World) (hB:Below w0.heap.size w0 w) (hr0:Kd.C (Kd.int .u8) w0 A0 l0.length l0) (hc0:l0.length≤c0) (h:spec_l01Source.f k l0=some (r1,r2,r3,r4)) :
  Calls Tryd.prog 41 #[.slice A0 l0.length c0] w fun e w'=>∃ g_:Nat,e=.returned (.pointer (some ⟨g_,0,none⟩))∧IsS103 w0 w' g_ r1 r2 r3 r4∧Below w0.heap.size w0 w'∧Below w.heap.size w w':=by
 have hu103:=Tryd.underlying103;have HR0:=am hr0;have HC0:=am hc0;clear hr0 hc0;have HBW:=am (Below.refl w.heap.size w);have HW0:=am hB.size;have HB:=am hB;clear hB;have H:(spec_l01Source.l0 k l0 0 l0 0 88172645463325252 0)=some (r1,r2,r3,r4):=h;clear h;have H':=am H;clear H
 go_enter Tryd.func41,Tryd.ntmps41
 go_wp2_with (first|((with_reducible refine gate_dst (N:=7) rfl ?_);refine bx 7 (cs:=#[.slice A0 l0.length c0,.int .i64 0,.int .u64 88172645463325252,.int .i64 0]) (t:=103) ?_;intro gb367 hg w2 hbox hb;replace HB:=am (below_step (bs HB) hb);have BK367:=am (hbox);have GW367:=am ((gs hg (bs HBW)));have GE367:=am ((Nat.le_trans HW0.out (gs hg (bs HBW)):w0.heap.size≤gb367));replace HBW:=am (below_step HBW.out hb);clear hb hbox hg))
 go_loopg [4] k (fun kq v4 w'=>∃ (x4_1:Int) (x368002_1:Int),v4=.int .i64 x4_1∧Aside0 (spec_l01Source.l0 kq l0 x4_1 l0 0 x368002_1 0=some (r1,r2,r3,r4))∧Aside0 (kq≤k)∧Aside0 (w'.heap[gb367]? = some (.cells #[(.slice A0 l0.length c0),.int .i64 0,.int .u64 x368002_1,.int .i64 0] 103 (0,0)))∧Aside0 (Below w.heap.size w w')∧Aside0 (Below w0.heap.size w0 w'))
 case atStart=>exact ⟨(0),(88172645463325252),fg,H',⟨Nat.le_refl _⟩,⟨ks BK367⟩,⟨bs HBW⟩,⟨bs HB⟩⟩
 case round =>
  clear H'
  try clear p2
  obtain ⟨x4_1,x368002_1,rfl,HA,HK1,BK367,HBW,HB⟩:=hrel
  cases gk with
  | zero=>exact absurd HA.out (by simp [spec_l01Source.l0])
  | succ k1 =>
   have H:=HA.out;clear HA;simp only [spec_l01Source.l0] at H
   by_cases c3:x4_1<(l0.length:Int)
   ·rw [if_pos c3] at H;have c3b0:decide (x4_1<(l0.length:Int))=true:=decide_eq_true c3;clear c3
    by_cases c4:x4_1<64
    ·rw [if_pos c4] at H;have c4b0:decide (x4_1<64)=true:=decide_eq_true c4;clear c4
     by_cases c5:0≤x4_1
     ·rw [if_pos c5] at H;have c5b0:decide (0≤x4_1)=true:=decide_eq_true c5;clear c5;have H':=am H;clear H
      try go_wp2
      replace BK367:=am (blk_drew BK367.out);replace HBW:=am (below_drew1 HBW.out);replace HB:=am (below_drew1 HB.out);have p368:0≤(x4_1:Int):=oa;have q368:x4_1<(l0.length:Int):=oa;obtain ⟨ad368,e368,hx368_0⟩:=Kd.at_int HR0.out x4_1 p368 q368;have hw368_0:=hx368_0
      cases e368
      replace hx368_0:=pw_cell_below HB.out hx368_0;replace p368:=eq_true p368;replace q368:=eq_true q368;refine start_ (n:=15) (S:=fun w'=>qk4a w' gb367 (.slice (some ad368) l0.length c0) (.int .i64 0) (.int .u64 x368002_1) (.int .i64 0) (w'.cell? (ad368.add (x4_1).toNat)=some (.int .u8 (rd l0 x4_1)))) (ds:=[14]) _ (by kernel_rfl) rfl rfl (qb4a BK367 (((HB.out.cell (World.block_lt_of_cell? w0 _ hw368_0)).trans hw368_0))) (fun hHeld=>?_);refine with_tabW spec_l01Source.tab5 spec_l01Source.bits5 (fun HT_ HW_=>?_)
      generalize wr.drew=w6 at BK367 HBW HB hx368_0 hHeld ⊢
      refine pA 0 18 HT_ ?_;refine pA 1 19 HT_ ?_;refine pA 2 20 HT_ ?_;refine pA 3 21 HT_ ?_;refine pA 5 23 HT_ ?_;refine pA 6 24 HT_ ?_;refine pA 7 25 HT_ ?_;refine tA 4 22 HT_ HW_ hHeld ?_;refine tA 8 26 HT_ HW_ hHeld ?_;refine pA 9 27 HT_ ?_;refine pA 10 28 HT_ ?_;refine pA 11 29 HT_ ?_;refine pA 12 30 HT_ ?_;refine pA 13 31 HT_ ?_;refine last_ (i:=14) (N:=none) #[true,true,true,true,true,true,true,true,true,true,true,true,true,true,true] rfl rfl (one_of HT_.out (by kernel_rfl)) (by decide) (fun K hK=>?_);have hs7:w6.cell? ⟨gb367,2,none⟩=some (.int .u64 x368002_1):=(blk_cell BK367.out 2).trans rfl;have hfs7:=blk_frozen BK367.out 2;refine skip_ (w1:=?_) (by rfl) rfl ?_ ?_
      rotate_left
      ·go_simp
       rfl
      refine hK.out _ _ ?_;clear hK K;refine done_ (done_of HT_.out (by kernel_rfl)) ?_
      try go_wp2
      go_roundg k1
      case measure=>have:=HK1.out;omega
      case rel=>exact ⟨(wrap64 (x4_1+1)),(IntKind.u64.wrap ((Go.bits .xor .u64 x368002_1 (IntKind.u64.wrap (rd l0 x4_1))) * 1099511628211)),fg,H',⟨by have:=HK1.out;omega⟩,⟨kp BK367⟩,⟨bs HBW⟩,⟨bs HB⟩⟩
     ·rw [if_neg c5] at H
      exact absurd H (by simp)
    ·rw [if_neg c4] at H;have c4b0:decide (x4_1<64)=false:=decide_eq_false c4;clear c4
     by_cases c8:(wrap64 ((l0.length:Int) / 20))>12
     ·rw [if_pos c8] at H;have c8b0:decide (12<(wrap64 ((l0.length:Int) / 20)))=true:=decide_eq_true c8;clear c8;simp only [Option.some.injEq,Prod.mk.injEq] at H;obtain ⟨rfl,rfl,rfl,rfl⟩:=H;obtain ⟨hcz9_0,hcz9_1,hcz9_2,hcz9_3,hfz9_0,hfz9_1,hfz9_2,hfz9_3⟩:=cf4 BK367
      go_wp2
      go_ret
      exact ⟨_,rfl,(show IsS103 w0 _ gb367 l0 0 x368002_1 12 from ⟨_,_,by (with_reducible repeat (first|refine blk_drewN ?_ _|refine blk_drew ?_|refine blk_alloc ?_ _));refine blk_put (cs:=#[.slice A0 l0.length c0,.int .i64 0,.int .u64 x368002_1,.int .i64 (wrap64 ((l0.length:Int) / 20))]) ?_ 3 _ rfl;(with_reducible repeat (first|refine blk_drewN ?_ _|refine blk_drew ?_|refine blk_alloc ?_ _));refine blk_put (cs:=#[.slice A0 l0.length c0,.int .i64 0,.int .u64 x368002_1,.int .i64 0]) ?_ 3 _ rfl;(with_reducible repeat (first|refine blk_drewN ?_ _|refine blk_drew ?_|refine blk_alloc ?_ _));exact BK367.out,GE367.out,⟨HR0.out,HC0.out⟩⟩),bs HB,bs HBW⟩
     ·rw [if_neg c8] at H;have c8b0:decide (12<(wrap64 ((l0.length:Int) / 20)))=false:=decide_eq_false c8;clear c8;simp only [Option.some.injEq,Prod.mk.injEq] at H;obtain ⟨rfl,rfl,rfl,rfl⟩:=H;obtain ⟨hcz10_0,hcz10_1,hcz10_2,hcz10_3,hfz10_0,hfz10_1,hfz10_2,hfz10_3⟩:=cf4 BK367
      go_wp2
      go_ret
      exact ⟨_,rfl,(show IsS103 w0 _ gb367 l0 0 x368002_1 (wrap64 ((l0.length:Int) / 20)) from ⟨_,_,by (with_reducible repeat (first|refine blk_drewN ?_ _|refine blk_drew ?_|refine blk_alloc ?_ _));refine blk_put (cs:=#[.slice A0 l0.length c0,.int .i64 0,.int .u64 x368002_1,.int .i64 0]) ?_ 3 _ rfl;(with_reducible repeat (first|refine blk_drewN ?_ _|refine blk_drew ?_|refine blk_alloc ?_ _));exact BK367.out,GE367.out,⟨HR0.out,HC0.out⟩⟩),bs HB,bs HBW⟩
   ·rw [if_neg c3] at H;have c3b0:decide (x4_1<(l0.length:Int))=false:=decide_eq_false c3;clear c3
    by_cases c11:(wrap64 ((l0.length:Int) / 20))>12
    ·rw [if_pos c11] at H;have c11b0:decide (12<(wrap64 ((l0.length:Int) / 20)))=true:=decide_eq_true c11;clear c11;simp only [Option.some.injEq,Prod.mk.injEq] at H;obtain ⟨rfl,rfl,rfl,rfl⟩:=H;obtain ⟨hcz12_0,hcz12_1,hcz12_2,hcz12_3,hfz12_0,hfz12_1,hfz12_2,hfz12_3⟩:=cf4 BK367
     go_wp2
     go_ret
     exact ⟨_,rfl,(show IsS103 w0 _ gb367 l0 0 x368002_1 12 from ⟨_,_,by (with_reducible repeat (first|refine blk_drewN ?_ _|refine blk_drew ?_|refine blk_alloc ?_ _));refine blk_put (cs:=#[.slice A0 l0.length c0,.int .i64 0,.int .u64 x368002_1,.int .i64 (wrap64 ((l0.length:Int) / 20))]) ?_ 3 _ rfl;(with_reducible repeat (first|refine blk_drewN ?_ _|refine blk_drew ?_|refine blk_alloc ?_ _));refine blk_put (cs:=#[.slice A0 l0.length c0,.int .i64 0,.int .u64 x368002_1,.int .i64 0]) ?_ 3 _ rfl;(with_reducible repeat (first|refine blk_drewN ?_ _|refine blk_drew ?_|refine blk_alloc ?_ _));exact BK367.out,GE367.out,⟨HR0.out,HC0.out⟩⟩),bs HB,bs HBW⟩
    ·rw [if_neg c11] at H;have c11b0:decide (12<(wrap64 ((l0.length:Int) / 20)))=false:=decide_eq_false c11;clear c11;simp only [Option.some.injEq,Prod.mk.injEq] at H;obtain ⟨rfl,rfl,rfl,rfl⟩:=H;obtain ⟨hcz13_0,hcz13_1,hcz13_2,hcz13_3,hfz13_0,hfz13_1,hfz13_2,hfz13_3⟩:=cf4 BK367
     go_wp2
     go_ret
     exact ⟨_,rfl,(show IsS103 w0 _ gb367 l0 0 x368002_1 (wrap64 ((l0.length:Int) / 20)) from ⟨_,_,by (with_reducible repeat (first|refine blk_drewN ?_ _|refine blk_drew ?_|refine blk_alloc ?_ _));refine blk_put (cs:=#[.slice A0 l0.length c0,.int .i64 0,.int .u64 x368002_1,.int .i64 0]) ?_ 3 _ rfl;(with_reducible repeat (first|refine blk_drewN ?_ _|refine blk_drew ?_|refine blk_alloc ?_ _));exact BK367.out,GE367.out,⟨HR0.out,HC0.out⟩⟩),bs HB,bs HBW⟩
set_option maxHeartbeats 8000000 in
set_option maxRecDepth 100000 in
theorem spec_l01Src_n.calls (g:Nat) (s0_0:List Int) (s0_1 s0_2 s0_3 a1:Int) (r1 r3 r4 r5:Int) (w0 w:World) (hI:IsS103 w0 w g s0_0 s0_1 s0_2 s0_3) (hB:Below w0.heap.size w0 w) (h:spec_l01Src_n.f s0_0 s0_1 s0_2 s0_3 a1=some (r1,r3,r4,r5)) :
  Calls Tryd.prog 42 #[.pointer (some ⟨g,0,none⟩),.int .i64 a1] w fun e w'=>e=.returned (.int .i64 r1)∧IsS103 w0 w' g s0_0 r3 r4 r5∧Below w0.heap.size w0 w'∧KeepBut w w' g none:=by
 unfold spec_l01Src_n.f at h
 have HI1:=am hI;have HB1:=am hB;have HK1:=am (KeepBut.refl w g none);obtain ⟨A,c,HG,hg,HS⟩:=hI;have hc0:=cellS103_0 HG;have hc1:=cellS103_1 HG;have hf1:=blk_frozen HG 1;have HGE:=am hg;clear HG hg
 by_cases h1:a1≤1
 ·rw [if_pos h1] at h
  simp only [Option.some.injEq,Prod.mk.injEq] at h
  obtain ⟨rfl,rfl,rfl,rfl⟩:=h;clear HS hc0 hc1 hf1 hB
  go_enter Tryd.func42,Tryd.ntmps42
  go_wp2
  go_ret
  exact ⟨rfl,HI1.out,HB1.out,HK1.out⟩
 ·rw [if_neg h1] at h
  by_cases hz:IntKind.u64.wrap a1=0
  ·rw [if_pos hz] at h;cases h
  rw [if_neg hz] at h
  by_cases h2:s0_1<(s0_0.length:Int)
  ·rw [if_pos h2] at h
   by_cases h0:0≤s0_1
   ·rw [if_pos h0] at h
    simp only [Option.some.injEq,Prod.mk.injEq] at h
    obtain ⟨rfl,rfl,rfl,rfl⟩:=h;obtain ⟨ad,eA,hx⟩:=Kd.at_int HS.1 s0_1 h0 (by omega);replace hx:=pw_cell_below hB hx
    rw [eA] at hc0
    clear HS eA hB
    go_enter Tryd.func42,Tryd.ntmps42
    go_wp2
    go_quiet (fail)
    obtain ⟨nq1,rfl⟩:∃ x,x=nq:=⟨_,rfl⟩
    go_wp2
    go_quiet (fail)
    obtain ⟨nq2,rfl⟩:∃ x,x=nq:=⟨_,rfl⟩
    go_wp2
    replace HI1:=am (IsS103.set_1 (IsS103.drewN HI1.out (nq1+nq2)) (wrap64 (s0_1+1)));replace HB1:=am (below_set (pw_below_drewN HB1.out (nq1+nq2)) HGE.out (j:=1) (v:=.int .i64 (wrap64 (s0_1+1))));replace HK1:=am (KeepBut.set_ (keep_drewN HK1.out (nq1+nq2)) 1 (.int .i64 (wrap64 (s0_1+1))))
    generalize (w.drewN (nq1+nq2)).setCell { block:=g,off:=1 } (Value.int IntKind.i64 (wrap64 (s0_1+1)))=w2 at HI1 HB1 HK1 ⊢
    clear hc0 hc1 hf1 hx;refine wp_region_still_tail 13 (by kernel_rfl) (by kernel_rfl) ?_;simp only [List.take_succ_cons,List.take_zero,List.drop_succ_cons,List.drop_zero]
    change wpStill _ _ w2.drew (fun a'=>wpList _ _ _ _ a' w2.drew) _ _
    replace HI1:=am (IsS103.drew HI1.out);replace HB1:=am (below_drew1 HB1.out);replace HK1:=am (keep_drew HK1.out)
    generalize w2.drew=w3 at HI1 HB1 HK1 ⊢
    have hc2:=cellS103_2 HI1.out.choose_spec.choose_spec.1;have hf2:=blk_frozen HI1.out.choose_spec.choose_spec.1 2
    repeat still_step
    refine wpStill_nil ?_
    go_wp2
    generalize hm1:bits BinOp.xor IntKind.u64 s0_2 (IntKind.u64.wrap (s0_2 * 8192))=m1;replace HI1:=am (IsS103.set_2 HI1.out m1);replace HB1:=am (below_set HB1.out HGE.out (j:=2) (v:=.int .u64 m1));replace HK1:=am (KeepBut.set_ HK1.out 2 (.int .u64 m1));clear hc2 hf2 w2
    generalize w3.setCell { block:=g,off:=2 } (Value.int IntKind.u64 m1)=w2 at HI1 HB1 HK1 ⊢
    refine wp_region_still_tail 13 (by kernel_rfl) (by kernel_rfl) ?_;simp only [List.take_succ_cons,List.take_zero,List.drop_succ_cons,List.drop_zero]
    change wpStill _ _ w2.drew (fun a'=>wpList _ _ _ _ a' w2.drew) _ _
    replace HI1:=am (IsS103.drew HI1.out);replace HB1:=am (below_drew1 HB1.out);replace HK1:=am (keep_drew HK1.out)
    generalize w2.drew=w3 at HI1 HB1 HK1 ⊢
    have hc2:=cellS103_2 HI1.out.choose_spec.choose_spec.1;have hf2:=blk_frozen HI1.out.choose_spec.choose_spec.1 2
    repeat still_step
    refine wpStill_nil ?_
    go_wp2
    generalize hm2:bits BinOp.xor IntKind.u64 m1 (m1 / 128)=m2;replace HI1:=am (IsS103.set_2 HI1.out m2);replace HB1:=am (below_set HB1.out HGE.out (j:=2) (v:=.int .u64 m2));replace HK1:=am (KeepBut.set_ HK1.out 2 (.int .u64 m2));clear hc2 hf2 w2
    generalize w3.setCell { block:=g,off:=2 } (Value.int IntKind.u64 m2)=w2 at HI1 HB1 HK1 ⊢
    refine wp_region_still_tail 13 (by kernel_rfl) (by kernel_rfl) ?_;simp only [List.take_succ_cons,List.take_zero,List.drop_succ_cons,List.drop_zero]
    change wpStill _ _ w2.drew (fun a'=>wpList _ _ _ _ a' w2.drew) _ _
    replace HI1:=am (IsS103.drew HI1.out);replace HB1:=am (below_drew1 HB1.out);replace HK1:=am (keep_drew HK1.out)
    generalize w2.drew=w3 at HI1 HB1 HK1 ⊢
    have hc2:=cellS103_2 HI1.out.choose_spec.choose_spec.1;have hf2:=blk_frozen HI1.out.choose_spec.choose_spec.1 2
    repeat still_step
    refine wpStill_nil ?_
    go_wp2
    go_ret
    subst hm2;subst hm1
    exact ⟨rfl,IsS103.set_2 HI1.out _,bs HB1,by repeat (first|(with_reducible first|exact HK1.out|apply keep_drewN|apply keep_drew|apply KeepBut.set_)|exact HK1.out)⟩
   ·rw [if_neg h0] at h;cases h
  ·rw [if_neg h2] at h
   simp only [Option.some.injEq,Prod.mk.injEq] at h
   obtain ⟨rfl,rfl,rfl,rfl⟩:=h;clear HS hB
   go_enter Tryd.func42,Tryd.ntmps42
   go_wp2
   go_quiet (fail)
   obtain ⟨nq1,rfl⟩:∃ x,x=nq:=⟨_,rfl⟩
   go_wp2
   replace HI1:=am (IsS103.drewN HI1.out nq1);replace HB1:=am (pw_below_drewN HB1.out nq1);replace HK1:=am (keep_drewN HK1.out nq1)
   generalize w.drewN nq1=w2 at HI1 HB1 HK1 ⊢
   clear hc0 hc1 hf1;refine wp_region_still_tail 13 (by kernel_rfl) (by kernel_rfl) ?_;simp only [List.take_succ_cons,List.take_zero,List.drop_succ_cons,List.drop_zero]
   change wpStill _ _ w2.drew (fun a'=>wpList _ _ _ _ a' w2.drew) _ _
   replace HI1:=am (IsS103.drew HI1.out);replace HB1:=am (below_drew1 HB1.out);replace HK1:=am (keep_drew HK1.out)
   generalize w2.drew=w3 at HI1 HB1 HK1 ⊢
   have hc2:=cellS103_2 HI1.out.choose_spec.choose_spec.1;have hf2:=blk_frozen HI1.out.choose_spec.choose_spec.1 2
   repeat still_step
   refine wpStill_nil ?_
   go_wp2
   generalize hm1:bits BinOp.xor IntKind.u64 s0_2 (IntKind.u64.wrap (s0_2 * 8192))=m1;replace HI1:=am (IsS103.set_2 HI1.out m1);replace HB1:=am (below_set HB1.out HGE.out (j:=2) (v:=.int .u64 m1));replace HK1:=am (KeepBut.set_ HK1.out 2 (.int .u64 m1));clear hc2 hf2 w2
   generalize w3.setCell { block:=g,off:=2 } (Value.int IntKind.u64 m1)=w2 at HI1 HB1 HK1 ⊢
   refine wp_region_still_tail 13 (by kernel_rfl) (by kernel_rfl) ?_;simp only [List.take_succ_cons,List.take_zero,List.drop_succ_cons,List.drop_zero]
   change wpStill _ _ w2.drew (fun a'=>wpList _ _ _ _ a' w2.drew) _ _
   replace HI1:=am (IsS103.drew HI1.out);replace HB1:=am (below_drew1 HB1.out);replace HK1:=am (keep_drew HK1.out)
   generalize w2.drew=w3 at HI1 HB1 HK1 ⊢
   have hc2:=cellS103_2 HI1.out.choose_spec.choose_spec.1;have hf2:=blk_frozen HI1.out.choose_spec.choose_spec.1 2
   repeat still_step
   refine wpStill_nil ?_
   go_wp2
   generalize hm2:bits BinOp.xor IntKind.u64 m1 (m1 / 128)=m2;replace HI1:=am (IsS103.set_2 HI1.out m2);replace HB1:=am (below_set HB1.out HGE.out (j:=2) (v:=.int .u64 m2));replace HK1:=am (KeepBut.set_ HK1.out 2 (.int .u64 m2));clear hc2 hf2 w2
   generalize w3.setCell { block:=g,off:=2 } (Value.int IntKind.u64 m2)=w2 at HI1 HB1 HK1 ⊢
   refine wp_region_still_tail 13 (by kernel_rfl) (by kernel_rfl) ?_;simp only [List.take_succ_cons,List.take_zero,List.drop_succ_cons,List.drop_zero]
   change wpStill _ _ w2.drew (fun a'=>wpList _ _ _ _ a' w2.drew) _ _
   replace HI1:=am (IsS103.drew HI1.out);replace HB1:=am (below_drew1 HB1.out);replace HK1:=am (keep_drew HK1.out)
   generalize w2.drew=w3 at HI1 HB1 HK1 ⊢
   have hc2:=cellS103_2 HI1.out.choose_spec.choose_spec.1;have hf2:=blk_frozen HI1.out.choose_spec.choose_spec.1 2
   repeat still_step
   refine wpStill_nil ?_
   go_wp2
   go_ret
   subst hm2;subst hm1
   exact ⟨rfl,IsS103.set_2 HI1.out _,bs HB1,by repeat (first|(with_reducible first|exact HK1.out|apply keep_drewN|apply keep_drew|apply KeepBut.set_)|exact HK1.out)⟩
set_option maxHeartbeats 8000000 in
set_option maxRecDepth 100000 in
theorem spec_l01Src_one.calls (g:Nat) (s0_0:List Int) (s0_1:Int) (s0_2:Int) (s0_3:Int) (a1:Int) (r1:Bool) (r2:Int) (r3:Int) (r4:Int) (w0 w:World) (hI:IsS103 w0 w g s0_0 s0_1 s0_2 s0_3) (hB:Below w0.heap.size w0 w) (h:spec_l01Src_one.f s0_0 s0_1 s0_2 s0_3 a1=some (r1,r2,r3,r4)) :
  Calls Tryd.prog 44 #[.pointer (some ⟨g,0,none⟩),.int .i64 a1] w fun e w'=>e=.returned (.bool r1)∧IsS103 w0 w' g s0_0 r2 r3 r4∧Below w0.heap.size w0 w'∧KeepBut w w' g none:=by
 have HI0:=am hI;have HK:=am (KeepBut.refl w g none);have HL:=am hB.size;clear hI;have HW0:=am hB.size;have HB:=am hB;clear hB;have H:((spec_l01Src_n.f s0_0 s0_1 s0_2 s0_3 a1).bind fun bt369=>(some ((bt369.1 == 0),bt369.2.1,bt369.2.2.1,bt369.2.2.2)))=some (r1,r2,r3,r4):=h;clear h;replace H:=Option.bind_eq_some_iff.mp H;obtain ⟨⟨t369,t370,t371,t372⟩,A30,H⟩:=H;replace H:(some ((t369 == 0),t370,t371,t372))=some (r1,r2,r3,r4):=H;have A3:=am A30;clear A30;simp only [Option.some.injEq,Prod.mk.injEq] at H;obtain ⟨rfl,rfl,rfl,rfl⟩:=H
 go_enter Tryd.func44,Tryd.ntmps44
 go_wp2_with (first|((first|((with_reducible refine gate_callee (f:=42) rfl ?_);refine goesL_ (some 7) rfl rfl Tryd.func42 (by kernel_rfl) rfl #[.pointer (some ⟨g,0,none⟩),.int .i64 a1] rfl (by (try simp only [List.map_toArray,List.map_cons,List.map_nil]);first|done|rfl|(simp only [List.length_drop,List.length_take];rfl)) ?_;(with_reducible refine (spec_l01Src_n.calls g s0_0 s0_1 s0_2 s0_3 a1 t369 t370 t371 t372 w0 _ ?side1 ?side2 A3.out).mono ?_);(case side1=>repeat (first|(with_reducible first|exact HI0.out|apply IsS103.alloc|apply IsS103.drewN|apply IsS103.drew|apply IsS103.set_1|apply IsS103.set_2|apply IsS103.set_3)|exact HI0.out));(case side2=>repeat (first|(with_reducible first|exact HB.out|apply below_alloc|apply pw_below_drewN|apply below_drew1|refine below_set ?_ (IsS103.ge HI0.out))|exact HB.out));rintro e w4 ⟨rfl,hi,hb,hk⟩;refine ⟨_,rfl,?_⟩)|(go_at_call 42;(with_reducible refine (spec_l01Src_n.calls g s0_0 s0_1 s0_2 s0_3 a1 t369 t370 t371 t372 w0 _ ?side1 ?side2 A3.out).mono ?_);(case side1=>repeat (first|(with_reducible first|exact HI0.out|apply IsS103.alloc|apply IsS103.drewN|apply IsS103.drew|apply IsS103.set_1|apply IsS103.set_2|apply IsS103.set_3)|exact HI0.out));(case side2=>repeat (first|(with_reducible first|exact HB.out|apply below_alloc|apply pw_below_drewN|apply below_drew1|refine below_set ?_ (IsS103.ge HI0.out))|exact HB.out));rintro e w4 ⟨rfl,hi,hb,hk⟩));replace HK:=am (KeepBut.trans (by repeat (first|(with_reducible first|exact HK.out|apply KeepBut.set_|apply keep_drewN|apply keep_drew|apply keep_alloc)|exact HK.out)) hk (.inl rfl));replace HB:=am (hb);replace HI0:=am (hi);(try clear hb);(try clear hb2);(try clear hk);(try clear hi)))
 go_ret
 exact ⟨ff,by repeat (first|(with_reducible first|exact HI0.out|apply IsS103.alloc|apply IsS103.drewN|apply IsS103.drew|apply IsS103.set_1|apply IsS103.set_2|apply IsS103.set_3)|exact HI0.out),by repeat (first|(with_reducible first|exact HB.out|apply below_alloc|apply pw_below_drewN|apply below_drew1|refine below_set ?_ (IsS103.ge HI0.out))|exact HB.out),by repeat (first|(with_reducible first|exact HK.out|apply KeepBut.set_|apply keep_drewN|apply keep_drew|apply keep_alloc)|exact HK.out)⟩
set_option maxHeartbeats 8000000 in
set_option maxRecDepth 100000 in
theorem spec_l01Src_pick.calls (g:Nat) (s0_0:List Int) (s0_1:Int) (s0_2:Int) (s0_3:Int) (A1:Option Addr) (c1:Nat) (l1:List ByteArray) (r1:ByteArray) (r2:Int) (r3:Int) (r4:Int) (w0 w:World) (hI:IsS103 w0 w g s0_0 s0_1 s0_2 s0_3) (hB:Below w0.heap.size w0 w) (hr1:Kd.C Kd.string w A1 l1.length l1) (hc1:l1.length≤c1) (hf1:∀ ad,A1=some ad→0<l1.length→ad.block≠g) (h:spec_l01Src_pick.f s0_0 s0_1 s0_2 s0_3 l1=some (r1,r2,r3,r4)) :
  Calls Tryd.prog 67 #[.pointer (some ⟨g,0,none⟩),.slice A1 l1.length c1] w fun e w'=>e=.returned (.string r1)∧IsS103 w0 w' g s0_0 r2 r3 r4∧Below w0.heap.size w0 w'∧KeepBut w w' g none:=by
 have HR1:=am hr1;have HC1:=am hc1;clear hr1 hc1;have HI0:=am hI;have HK:=am (KeepBut.refl w g none);have HL:=am hB.size;clear hI;have HW0:=am hB.size;have HB:=am hB;clear hB;have H:((spec_l01Src_n.f s0_0 s0_1 s0_2 s0_3 (l1.length:Int)).bind fun bt373=>(if 0≤bt373.1 then (if bt373.1<(l1.length:Int) then (some (rdOf ByteArray.empty l1 bt373.1,bt373.2.1,bt373.2.2.1,bt373.2.2.2)) else (none)) else (none)))=some (r1,r2,r3,r4):=h;clear h;replace H:=Option.bind_eq_some_iff.mp H;obtain ⟨⟨t373,t374,t375,t376⟩,A30,H⟩:=H;replace H:(if 0≤t373 then (if t373<(l1.length:Int) then (some (rdOf ByteArray.empty l1 t373,t374,t375,t376)) else (none)) else (none))=some (r1,r2,r3,r4):=H;have A3:=am A30;clear A30
 by_cases c4:0≤t373
 ·rw [if_pos c4] at H;have c4b0:decide (0≤t373)=true:=decide_eq_true c4;clear c4
  by_cases c5:t373<(l1.length:Int)
  ·rw [if_pos c5] at H;have c5b0:decide (t373<(l1.length:Int))=true:=decide_eq_true c5;clear c5;simp only [Option.some.injEq,Prod.mk.injEq] at H;obtain ⟨rfl,rfl,rfl,rfl⟩:=H
   go_enter Tryd.func67,Tryd.ntmps67
   go_wp2_with (first|((first|((with_reducible refine gate_callee (f:=42) rfl ?_);refine goesL_ (some 9) rfl rfl Tryd.func42 (by kernel_rfl) rfl #[.pointer (some ⟨g,0,none⟩),.int .i64 (l1.length:Int)] rfl (by (try simp only [List.map_toArray,List.map_cons,List.map_nil]);first|done|rfl|(simp only [List.length_drop,List.length_take];rfl)) ?_;(with_reducible refine (spec_l01Src_n.calls g s0_0 s0_1 s0_2 s0_3 (l1.length:Int) t373 t374 t375 t376 w0 _ ?side1 ?side2 A3.out).mono ?_);(case side1=>repeat (first|(with_reducible first|exact HI0.out|apply IsS103.alloc|apply IsS103.drewN|apply IsS103.drew|apply IsS103.set_1|apply IsS103.set_2|apply IsS103.set_3)|exact HI0.out));(case side2=>repeat (first|(with_reducible first|exact HB.out|apply below_alloc|apply pw_below_drewN|apply below_drew1|refine below_set ?_ (IsS103.ge HI0.out))|exact HB.out));rintro e w6 ⟨rfl,hi,hb,hk⟩;refine ⟨_,rfl,?_⟩)|(go_at_call 42;(with_reducible refine (spec_l01Src_n.calls g s0_0 s0_1 s0_2 s0_3 (l1.length:Int) t373 t374 t375 t376 w0 _ ?side1 ?side2 A3.out).mono ?_);(case side1=>repeat (first|(with_reducible first|exact HI0.out|apply IsS103.alloc|apply IsS103.drewN|apply IsS103.drew|apply IsS103.set_1|apply IsS103.set_2|apply IsS103.set_3)|exact HI0.out));(case side2=>repeat (first|(with_reducible first|exact HB.out|apply below_alloc|apply pw_below_drewN|apply below_drew1|refine below_set ?_ (IsS103.ge HI0.out))|exact HB.out));rintro e w6 ⟨rfl,hi,hb,hk⟩));replace HK:=am (KeepBut.trans (by repeat (first|(with_reducible first|exact HK.out|apply KeepBut.set_|apply keep_drewN|apply keep_drew|apply keep_alloc)|exact HK.out)) hk (.inl rfl));replace HB:=am (hb);replace HI0:=am (hi);(try clear hb);(try clear hb2);(try clear hk);(try clear hi);have p377:0≤(t373:Int):=oa;have q377:t373<(l1.length:Int):=oa;obtain ⟨ad377,e377,hx377_0⟩:=Kd.at_string HR1.out t373 p377 q377;cases e377;replace hx377_0:=keep_cell HK.out hx377_0 (by first|(rw [add_block];exact hf1 _ rfl (by omega))|exact hf1 _ rfl (by omega)|exact hf1 ad377 rfl (by omega));replace p377:=eq_true p377;replace q377:=eq_true q377))
   go_ret
   exact ⟨ff,by repeat (first|(with_reducible first|exact HI0.out|apply IsS103.alloc|apply IsS103.drewN|apply IsS103.drew|apply IsS103.set_1|apply IsS103.set_2|apply IsS103.set_3)|exact HI0.out),by repeat (first|(with_reducible first|exact HB.out|apply below_alloc|apply pw_below_drewN|apply below_drew1|refine below_set ?_ (IsS103.ge HI0.out))|exact HB.out),by repeat (first|(with_reducible first|exact HK.out|apply KeepBut.set_|apply keep_drewN|apply keep_drew|apply keep_alloc)|exact HK.out)⟩
  ·rw [if_neg c5] at H
   exact absurd H (by simp)
 ·rw [if_neg c4] at H
  exact absurd H (by simp)
set_option maxHeartbeats 8000000 in
set_option maxRecDepth 100000 in
theorem spec_l01Plain.calls  (r1:Int) (r2:Int) (r3:Int) (r4:Int) (w:World) (h:spec_l01Plain.f  = some (r1,r2,r3,r4)) :
  Calls Tryd.prog 85 #[] w fun e w'=>e=.returned (.agg #[.int .i64 r1,.int .i64 r2,.int .i64 r3,.int .i64 r4])∧Below w.heap.size w w':=by
 have hu120:=Tryd.underlying120;have HB:=am (Below.refl w.heap.size w);have H:(some (39,43,58,63))=some (r1,r2,r3,r4):=h;clear h;simp only [Option.some.injEq,Prod.mk.injEq] at H;obtain ⟨rfl,rfl,rfl,rfl⟩:=H
 go_enter Tryd.func85,Tryd.ntmps85
 go_wp2_with (first|((with_reducible refine gate_dst (N:=0) rfl ?_);refine bx 0 (cs:=#[.int .i64 0,.int .i64 0,.int .i64 0,.int .i64 0]) (t:=120) ?_;intro gb378 hg w1 hbox hb;have BK378:=am (hbox);have GW378:=am ((gs hg (bs HB)));have GE378:=am ((gs hg (bs HB)));replace HB:=am (below_step (bs HB) hb);clear hb hbox hg;obtain ⟨hcz2_0,hcz2_1,hcz2_2,hcz2_3,hfz2_0,hfz2_1,hfz2_2,hfz2_3⟩:=cf4 BK378))
 refine bodyPost_ret (results_cell_row rfl _ _ gb378 120 #[.int .i64 39,.int .i64 43,.int .i64 58,.int .i64 63] (0,0) _ rfl (kp BK378) Tryd.underlying120 rfl (by kernel_rfl)) rfl ?_
 exact ⟨ff,bs HB⟩
end Go.Proofs.YtjbdljhjplidmaaDoor.QF
