-- Merged by a program of this session (wip/tool/pack.py) out of its own texts for this claim.
import Derived.Test.YtjjfjgdhloideaaKFnExactGateRight0
import Derived.Test.YtjjfjgdhloideaaKFnExactGateRight1
import Derived.Test.YtjjfjgdhloideaaKFnExactGateRight2
import Derived.Test.YtjjfjgdhloideaaKFnExactGateRight3
import Derived.Test.YtjjfjgdhloideaaKFnExactGateRight12
namespace Go.Proofs.Ytjjfjgdhloideaa.QI
open Go.RowKit Go.Proofs.YtjjfjgdhloideaaW.PrintWords Go.Proofs.YtjjfjgdhloideaaW.PrintLast Go.Proofs.YtjjfjgdhloideaaW.PrintMore
attribute [local go_sem] max2_int min2_int max_two min_two max_three min_three max_four min_four   -- for this text's walks alone
set_option linter.unusedVariables false
set_option linter.unusedSimpArgs false
def impl_PartnerRight.T4 : Bool × List (List Nat × List Nat) := (true, [([], []), ([0], [0]), ([], []), ([2], [2]), ([1, 3], [1, 3]), ([4], [4]), ([5, 4], [5]), ([6], [6]), ([7, 6], [6, 7]), ([6], [6]), ([9, 6], [6, 9]), ([8, 10, 6], [6, 8, 10]), ([11, 6], [6, 11]), ([6, 12], [6, 12]), ([13, 6], [13]), ([14], [14]), ([15, 14], [14, 15]), ([16, 14, 14], [14, 16]), ([17, 14], [14, 17]), ([14, 18], [14, 18]), ([19, 17], [19]), ([20], [20]), ([21, 20], [20, 21]), ([22, 20, 20], [20, 22]), ([23, 20], [20, 23]), ([20, 24], [20, 24]), ([25, 23], [25]), ([26], [26]), ([27, 26], [26, 27]), ([28, 26, 26], [26, 28]), ([29], [29]), ([30, 29], [29, 30]), ([29], [29]), ([32, 29], [29, 32]), ([29], [29]), ([34, 29], [29, 34]), ([33, 35, 29], [29, 33, 35]), ([36, 29], [29, 36]), ([37, 29], [29, 37]), ([31, 38, 29], [29, 31, 38]), ([29, 39, 26], [26, 29, 39]), ([26, 40], [26, 40])])
def impl_PartnerRight.B4 : List Nat := [0, 1, 0, 4, 15, 31, 63, 127, 255, 127, 639, 2047, 4095, 8191, 16383, 32767, 65535, 131071, 262143, 524287, 1048575, 2097151, 4194303, 8388607, 16777215, 33554431, 67108863, 134217727, 268435455, 536870911, 1073741823, 2147483647, 1073741823, 5368709119, 1073741823, 18253611007, 65498251263, 134217727999, 271656681471, 549755813887, 1099511627775, 2199023255551]
theorem impl_PartnerRight.tab4 : rtab .any (opsOf Try.f64 4) = impl_PartnerRight.T4 := by kernel_rfl
theorem impl_PartnerRight.bits4 : waitsOk impl_PartnerRight.T4.2 impl_PartnerRight.B4 = true := by kernel_rfl
set_option maxHeartbeats 8000000 in
set_option maxRecDepth 100000 in
theorem impl_PartnerRight.calls (k:Nat) (a0_0:ByteArray) (a0_1:Int) (a0_2:Int) (A0_3:Option Addr) (c0_3:Nat) (l0_3:List (S135)) (r:Bool) (w:World) (hr0_3:Kd.C k135 w A0_3 l0_3.length l0_3) (hc0_3:l0_3.length≤c0_3) (h:impl_PartnerRight.f k a0_0 a0_1 a0_2 l0_3=some r) :
  Calls Try.prog 64 #[.agg #[.string a0_0,.int .i64 a0_1,.int .i64 a0_2,.slice A0_3 l0_3.length c0_3]] w fun e w'=>e=.returned (.bool r)∧Below w.heap.size w w':=by
 have hu92:=Try.underlying92;have hu135:=Try.underlying135;have HR0_3:=am hr0_3;have HC0_3:=am hc0_3;clear hr0_3 hc0_3;have HB:=am (Below.refl w.heap.size w);have H:(impl_PartnerRight.l0 k l0_3 (l0_3.length:Int) 0 a0_0 a0_1 a0_2 l0_3)=some r:=h;clear h;have H':=am H;clear H
 go_enter Try.func64,Try.ntmps64
 go_wp2_with (first|((with_reducible refine gate_dst (N:=1) rfl ?_);refine bx 1 (cs:=#[.string a0_0,.int .i64 a0_1,.int .i64 a0_2,.slice A0_3 l0_3.length c0_3]) (t:=92) ?_;intro gb316 hg w2 hbox hb;have BK316:=am (hbox);have GW316:=am ((gs hg (bs HB)));have GE316:=am ((gs hg (bs HB)));replace HB:=am (below_step (bs HB) hb);clear hb hbox hg;obtain ⟨hcz3_0,hcz3_1,hcz3_2,hcz3_3,hfz3_0,hfz3_1,hfz3_2,hfz3_3⟩:=cf4 BK316))
 go_loopg [8] k (fun kq v8 w'=>∃ (x8_1:Int),v8=.int .i64 x8_1∧Aside0 (impl_PartnerRight.l0 kq l0_3 (l0_3.length:Int) x8_1 a0_0 a0_1 a0_2 l0_3=some r)∧Aside0 (kq≤k)∧Aside0 (w'.heap[gb316]? = some (.cells #[.string a0_0,.int .i64 a0_1,.int .i64 a0_2,(.slice A0_3 l0_3.length c0_3)] 92 (0,0)))∧Aside0 (Below w.heap.size w w'))
 case atStart=>exact ⟨(0),fg,H',⟨Nat.le_refl _⟩,⟨ks BK316⟩,⟨bs HB⟩⟩
 case round =>
  clear H'
  try clear p2
  try clear hcz3_0
  try clear hcz3_1
  try clear hcz3_2
  try clear hcz3_3
  try clear hfz3_0
  try clear hfz3_1
  try clear hfz3_2
  try clear hfz3_3
  obtain ⟨x8_1,rfl,HA,HK1,BK316,HB⟩:=hrel
  cases gk with
  | zero=>exact absurd HA.out (by simp [impl_PartnerRight.l0])
  | succ k1 =>
   have H:=HA.out;clear HA;simp only [impl_PartnerRight.l0] at H
   by_cases c4:x8_1<(l0_3.length:Int)
   ·rw [if_pos c4] at H;have c4b0:decide (x8_1<(l0_3.length:Int))=true:=decide_eq_true c4;clear c4
    by_cases c5:0≤x8_1
    ·rw [if_pos c5] at H;have c5b0:decide (0≤x8_1)=true:=decide_eq_true c5;clear c5
     by_cases c6:x8_1<(l0_3.length:Int)
     ·rw [if_pos c6] at H;have c6b0:decide (x8_1<(l0_3.length:Int))=true:=decide_eq_true c6;clear c6;replace H:=Option.bind_eq_some_iff.mp H;obtain ⟨t322,A70,H⟩:=H;replace H:(if t322=true then (if (wrap64 (((rd_T135 l0_3 x8_1).f0) - a0_1))≥32 then (some false) else ((impl_isControl.f ((rd_T135 l0_3 x8_1).f1)).bind fun t323=>(if t323=true then ((impl_isCode.f ((rd_T135 l0_3 x8_1).f2)).bind fun t324=>(if t324=true then (if x8_1>0 then (if 0≤(wrap64 (x8_1 - 1)) then (if (wrap64 (x8_1 - 1))<(l0_3.length:Int) then (if ((rd_T135 l0_3 x8_1).f0)≤((rd_T135 l0_3 (wrap64 (x8_1 - 1))).f0) then (some false) else (impl_PartnerRight.l0 k1 l0_3 (l0_3.length:Int) (wrap64 (x8_1+1)) a0_0 a0_1 a0_2 l0_3)) else (none)) else (none)) else (impl_PartnerRight.l0 k1 l0_3 (l0_3.length:Int) (wrap64 (x8_1+1)) a0_0 a0_1 a0_2 l0_3)) else (some false))) else (some false)))) else (some false))=some r:=H;have A7:=am A70;clear A70
      by_cases c8:t322=true
      ·subst c8
       have H1:(if (wrap64 (((rd_T135 l0_3 x8_1).f0) - a0_1))≥32 then (some false) else ((impl_isControl.f ((rd_T135 l0_3 x8_1).f1)).bind fun t323=>(if t323=true then ((impl_isCode.f ((rd_T135 l0_3 x8_1).f2)).bind fun t324=>(if t324=true then (if x8_1>0 then (if 0≤(wrap64 (x8_1 - 1)) then (if (wrap64 (x8_1 - 1))<(l0_3.length:Int) then (if ((rd_T135 l0_3 x8_1).f0)≤((rd_T135 l0_3 (wrap64 (x8_1 - 1))).f0) then (some false) else (impl_PartnerRight.l0 k1 l0_3 (l0_3.length:Int) (wrap64 (x8_1+1)) a0_0 a0_1 a0_2 l0_3)) else (none)) else (none)) else (impl_PartnerRight.l0 k1 l0_3 (l0_3.length:Int) (wrap64 (x8_1+1)) a0_0 a0_1 a0_2 l0_3)) else (some false))) else (some false))))=some r:=by rw [if_pos rfl] at H;exact H
       clear H;have H:=H1;clear H1
       by_cases c9:(wrap64 (((rd_T135 l0_3 x8_1).f0) - a0_1))≥32
       ·rw [if_pos c9] at H;have c9b0:decide (32≤(wrap64 (((rd_T135 l0_3 x8_1).f0) - a0_1)))=true:=decide_eq_true c9;clear c9;obtain rfl:=Option.some.inj H;have p320:0≤(x8_1:Int):=oa;have q320:x8_1<(l0_3.length:Int):=oa;obtain ⟨ad320,e320,hx320_0,hx320_1,hx320_2⟩:=at_T135 HR0_3.out x8_1 p320 q320
        cases e320
        replace hx320_0:=cb HB hx320_0;replace hx320_1:=cb HB hx320_1;replace hx320_2:=cb HB hx320_2;replace p320:=eq_true p320;replace q320:=eq_true q320
        try go_wp2_with (first|((with_reducible refine gate_dst (N:=4) rfl ?_);refine bx 4 (cs:=#[.int .i64 0,.int .i64 0,.int .i64 0]) (t:=135) ?_;intro gb321 hg w10 hbox hb;have BK321:=am (hbox);have GW321:=am ((gs hg (bs HB)));have GE321:=am ((gs hg (bs HB)));replace HB:=am (below_step (bs HB) hb);have NB316_321:=am ((gn hg (ks BK316)));have NB321_316:=am ((gm hg (ks BK316)));replace BK316:=am (blk_below (ks BK316) hb);clear hb hbox hg;have hnb11:=NB321_316.out;have hnc11:=NB316_321.out;obtain ⟨hcz12_0,hcz12_1,hcz12_2,hfz12_0,hfz12_1,hfz12_2⟩:=cf3 BK321))
        have n0_:Aside0 ((((w10.setCell ⟨gb321,0,none⟩ (.int .i64 ((rd_T135 l0_3 x8_1).f0))).setCell ⟨gb321,1,none⟩ (.int .i64 ((rd_T135 l0_3 x8_1).f1))).setCell ⟨gb321,2,none⟩ (.int .i64 ((rd_T135 l0_3 x8_1).f2))).heap[gb316]? = some (.cells #[.string a0_0,.int .i64 a0_1,.int .i64 a0_2,.slice (some ad320) l0_3.length c0_3] 92 (0,0))):=⟨ks BK316⟩;have n1_:Aside0 ((((w10.setCell ⟨gb321,0,none⟩ (.int .i64 ((rd_T135 l0_3 x8_1).f0))).setCell ⟨gb321,1,none⟩ (.int .i64 ((rd_T135 l0_3 x8_1).f1))).setCell ⟨gb321,2,none⟩ (.int .i64 ((rd_T135 l0_3 x8_1).f2))).heap[gb321]? = some (.cells #[.int .i64 ((rd_T135 l0_3 x8_1).f0),.int .i64 ((rd_T135 l0_3 x8_1).f1),.int .i64 ((rd_T135 l0_3 x8_1).f2)] 135 (0,0))):=⟨kp BK321⟩;have n2_:Aside0 (Below w.heap.size w (((w10.setCell ⟨gb321,0,none⟩ (.int .i64 ((rd_T135 l0_3 x8_1).f0))).setCell ⟨gb321,1,none⟩ (.int .i64 ((rd_T135 l0_3 x8_1).f1))).setCell ⟨gb321,2,none⟩ (.int .i64 ((rd_T135 l0_3 x8_1).f2)))):=⟨bs HB⟩;(try clear BK316);(try clear BK321);(try clear HB)
        generalize (((w10.setCell ⟨gb321,0,none⟩ (.int .i64 ((rd_T135 l0_3 x8_1).f0))).setCell ⟨gb321,1,none⟩ (.int .i64 ((rd_T135 l0_3 x8_1).f1))).setCell ⟨gb321,2,none⟩ (.int .i64 ((rd_T135 l0_3 x8_1).f2)))=w13 at n0_ n1_ n2_ ⊢
        have BK316:=n0_;have BK321:=n1_;have HB:=n2_;clear n0_ n1_ n2_;replace BK316:=am (blk_drew BK316.out);replace BK321:=am (blk_drew BK321.out);replace HB:=am (below_drew1 HB.out);refine start_ (n:=42) (S:=fun w'=>qk3a w' gb321 (.int .i64 ((rd_T135 l0_3 x8_1).f0)) (.int .i64 ((rd_T135 l0_3 x8_1).f1)) (.int .i64 ((rd_T135 l0_3 x8_1).f2)) (qk4 w' gb316 (.string a0_0) (.int .i64 a0_1) (.int .i64 a0_2) (.slice (some ad320) l0_3.length c0_3))) (ds:=[]) _ (by kernel_rfl) rfl rfl (qb3a BK321 (qb4 BK316)) (fun hHeld=>?_);refine with_tabW impl_PartnerRight.tab4 impl_PartnerRight.bits4 (fun HT_ HW_=>?_)
        generalize w13.drew=w14 at BK316 BK321 HB hHeld ⊢
        refine pA 0 13 HT_ ?_;refine pA 2 15 HT_ ?_;refine tA 1 14 HT_ HW_ hHeld ?_;refine tA 3 16 HT_ HW_ hHeld ?_;refine oA 4 17 HT_ (fun K hK=>?_);refine gA Try.func69 #[.int .i64 ((rd_T135 l0_3 x8_1).f0),.int .i64 a0_1,.int .i64 999999] ?_;(with_reducible refine (impl_within.calls ((rd_T135 l0_3 x8_1).f0) a0_1 999999 true _ A7.out).mono ?_);rintro e w' ⟨rfl,⟨nd,rfl⟩⟩;refine ⟨_,rfl,?_⟩;refine hK.out _ _ (qb3a BK321 (qb4 BK316)) (fun hHeld=>?_);clear hK K;refine nA 17 ?_;refine pA 5 18 HT_ ?_;refine pA 6 19 HT_ ?_;refine pA 7 20 HT_ ?_;refine pA 9 22 HT_ ?_;refine tA 8 21 HT_ HW_ hHeld ?_;refine tA 10 23 HT_ HW_ hHeld ?_;refine pA 11 24 HT_ ?_;refine pA 12 25 HT_ ?_;refine pA 13 26 HT_ ?_;refine pA 14 27 HT_ ?_;refine pB 15 28 HT_ ?_;refine pB 16 29 HT_ ?_;refine pB 17 30 HT_ ?_;refine pB 18 31 HT_ ?_;refine pA 19 32 HT_ ?_;refine pA 20 33 HT_ ?_;refine pB 21 34 HT_ ?_;refine pB 22 35 HT_ ?_;refine pB 23 36 HT_ ?_;refine pB 24 37 HT_ ?_;refine pA 25 38 HT_ ?_;refine pA 26 39 HT_ ?_;refine pB 27 40 HT_ ?_;refine pB 28 41 HT_ ?_;refine pB 29 42 HT_ ?_;refine pB 30 43 HT_ ?_;refine pB 31 44 HT_ ?_;refine pB 32 45 HT_ ?_;refine pB 33 46 HT_ ?_;refine pB 34 47 HT_ ?_;refine pB 35 48 HT_ ?_;refine pB 36 49 HT_ ?_;refine pB 37 50 HT_ ?_;refine pB 38 51 HT_ ?_;refine pB 39 52 HT_ ?_;refine pB 40 53 HT_ ?_;refine pA 41 54 HT_ ?_;refine done_ (done_of HT_.out (by kernel_rfl)) ?_
        try go_wp2
        go_ret
        exact ⟨ff,bs HB⟩
       ·rw [if_neg c9] at H;have c9b0:decide (32≤(wrap64 (((rd_T135 l0_3 x8_1).f0) - a0_1)))=false:=decide_eq_false c9;clear c9;replace H:=Option.bind_eq_some_iff.mp H;obtain ⟨t323,A150,H⟩:=H;replace H:(if t323=true then ((impl_isCode.f ((rd_T135 l0_3 x8_1).f2)).bind fun t324=>(if t324=true then (if x8_1>0 then (if 0≤(wrap64 (x8_1 - 1)) then (if (wrap64 (x8_1 - 1))<(l0_3.length:Int) then (if ((rd_T135 l0_3 x8_1).f0)≤((rd_T135 l0_3 (wrap64 (x8_1 - 1))).f0) then (some false) else (impl_PartnerRight.l0 k1 l0_3 (l0_3.length:Int) (wrap64 (x8_1+1)) a0_0 a0_1 a0_2 l0_3)) else (none)) else (none)) else (impl_PartnerRight.l0 k1 l0_3 (l0_3.length:Int) (wrap64 (x8_1+1)) a0_0 a0_1 a0_2 l0_3)) else (some false))) else (some false))=some r:=H;have A15:=am A150;clear A150
        by_cases c16:t323=true
        ·subst c16
         have H1:((impl_isCode.f ((rd_T135 l0_3 x8_1).f2)).bind fun t324=>(if t324=true then (if x8_1>0 then (if 0≤(wrap64 (x8_1 - 1)) then (if (wrap64 (x8_1 - 1))<(l0_3.length:Int) then (if ((rd_T135 l0_3 x8_1).f0)≤((rd_T135 l0_3 (wrap64 (x8_1 - 1))).f0) then (some false) else (impl_PartnerRight.l0 k1 l0_3 (l0_3.length:Int) (wrap64 (x8_1+1)) a0_0 a0_1 a0_2 l0_3)) else (none)) else (none)) else (impl_PartnerRight.l0 k1 l0_3 (l0_3.length:Int) (wrap64 (x8_1+1)) a0_0 a0_1 a0_2 l0_3)) else (some false)))=some r:=by rw [if_pos rfl] at H;exact H
         clear H;have H:=H1;clear H1;replace H:=Option.bind_eq_some_iff.mp H;obtain ⟨t324,A170,H⟩:=H;replace H:(if t324=true then (if x8_1>0 then (if 0≤(wrap64 (x8_1 - 1)) then (if (wrap64 (x8_1 - 1))<(l0_3.length:Int) then (if ((rd_T135 l0_3 x8_1).f0)≤((rd_T135 l0_3 (wrap64 (x8_1 - 1))).f0) then (some false) else (impl_PartnerRight.l0 k1 l0_3 (l0_3.length:Int) (wrap64 (x8_1+1)) a0_0 a0_1 a0_2 l0_3)) else (none)) else (none)) else (impl_PartnerRight.l0 k1 l0_3 (l0_3.length:Int) (wrap64 (x8_1+1)) a0_0 a0_1 a0_2 l0_3)) else (some false))=some r:=H;have A17:=am A170;clear A170
         by_cases c18:t324=true
         ·subst c18
          have H1:(if x8_1>0 then (if 0≤(wrap64 (x8_1 - 1)) then (if (wrap64 (x8_1 - 1))<(l0_3.length:Int) then (if ((rd_T135 l0_3 x8_1).f0)≤((rd_T135 l0_3 (wrap64 (x8_1 - 1))).f0) then (some false) else (impl_PartnerRight.l0 k1 l0_3 (l0_3.length:Int) (wrap64 (x8_1+1)) a0_0 a0_1 a0_2 l0_3)) else (none)) else (none)) else (impl_PartnerRight.l0 k1 l0_3 (l0_3.length:Int) (wrap64 (x8_1+1)) a0_0 a0_1 a0_2 l0_3))=some r:=by rw [if_pos rfl] at H;exact H
          clear H;have H:=H1;clear H1
          by_cases c19:x8_1>0
          ·rw [if_pos c19] at H;have c19b0:decide (0<x8_1)=true:=decide_eq_true c19;clear c19;obtain ⟨ji20,hji20⟩:∃ j_:Int,(wrap64 (x8_1 - 1))=j_:=⟨_,rfl⟩
           replace H:(if 0≤(ji20) then (if (ji20)<(l0_3.length:Int) then (if ((rd_T135 l0_3 x8_1).f0)≤((rd_T135 l0_3 (ji20)).f0) then (some false) else (impl_PartnerRight.l0 k1 l0_3 (l0_3.length:Int) (wrap64 (x8_1+1)) a0_0 a0_1 a0_2 l0_3)) else (none)) else (none))=some r:=by first|(rw [hji20] at H;exact H)|(simp only [hji20] at H ⊢;exact H)
           (try rw [hji20] at A7)
           (try rw [hji20] at A15)
           (try rw [hji20] at A17)
           have hji20w:(IntKind.i64.wrap (x8_1 - 1))=ji20:=(i64_w _).trans hji20
           by_cases c21:0≤(ji20)
           ·rw [if_pos c21] at H;have c21b0:decide (0≤(ji20))=true:=decide_eq_true c21;clear c21
            by_cases c22:(ji20)<(l0_3.length:Int)
            ·rw [if_pos c22] at H;have c22b0:decide ((ji20)<(l0_3.length:Int))=true:=decide_eq_true c22;clear c22
             by_cases c23:((rd_T135 l0_3 x8_1).f0)≤((rd_T135 l0_3 (ji20)).f0)
             ·rw [if_pos c23] at H;have c23b0:decide (((rd_T135 l0_3 x8_1).f0)≤((rd_T135 l0_3 (ji20)).f0))=true:=decide_eq_true c23;clear c23;obtain rfl:=Option.some.inj H;have p320:0≤(x8_1:Int):=oa;have q320:x8_1<(l0_3.length:Int):=oa;obtain ⟨ad320,e320,hx320_0,hx320_1,hx320_2⟩:=at_T135 HR0_3.out x8_1 p320 q320
              cases e320
              replace hx320_0:=cb HB hx320_0;replace hx320_1:=cb HB hx320_1;replace hx320_2:=cb HB hx320_2;replace p320:=eq_true p320;replace q320:=eq_true q320
              try go_wp2_with (first|((with_reducible refine gate_dst (N:=4) rfl ?_);refine bx 4 (cs:=#[.int .i64 0,.int .i64 0,.int .i64 0]) (t:=135) ?_;intro gb321 hg w24 hbox hb;have BK321:=am (hbox);have GW321:=am ((gs hg (bs HB)));have GE321:=am ((gs hg (bs HB)));replace HB:=am (below_step (bs HB) hb);have NB316_321:=am ((gn hg (ks BK316)));have NB321_316:=am ((gm hg (ks BK316)));replace BK316:=am (blk_below (ks BK316) hb);clear hb hbox hg;have hnb25:=NB321_316.out;have hnc25:=NB316_321.out;obtain ⟨hcz26_0,hcz26_1,hcz26_2,hfz26_0,hfz26_1,hfz26_2⟩:=cf3 BK321))
              have n0_:Aside0 ((((w24.setCell ⟨gb321,0,none⟩ (.int .i64 ((rd_T135 l0_3 x8_1).f0))).setCell ⟨gb321,1,none⟩ (.int .i64 ((rd_T135 l0_3 x8_1).f1))).setCell ⟨gb321,2,none⟩ (.int .i64 ((rd_T135 l0_3 x8_1).f2))).heap[gb316]? = some (.cells #[.string a0_0,.int .i64 a0_1,.int .i64 a0_2,.slice (some ad320) l0_3.length c0_3] 92 (0,0))):=⟨ks BK316⟩;have n1_:Aside0 ((((w24.setCell ⟨gb321,0,none⟩ (.int .i64 ((rd_T135 l0_3 x8_1).f0))).setCell ⟨gb321,1,none⟩ (.int .i64 ((rd_T135 l0_3 x8_1).f1))).setCell ⟨gb321,2,none⟩ (.int .i64 ((rd_T135 l0_3 x8_1).f2))).heap[gb321]? = some (.cells #[.int .i64 ((rd_T135 l0_3 x8_1).f0),.int .i64 ((rd_T135 l0_3 x8_1).f1),.int .i64 ((rd_T135 l0_3 x8_1).f2)] 135 (0,0))):=⟨kp BK321⟩;have n2_:Aside0 (Below w.heap.size w (((w24.setCell ⟨gb321,0,none⟩ (.int .i64 ((rd_T135 l0_3 x8_1).f0))).setCell ⟨gb321,1,none⟩ (.int .i64 ((rd_T135 l0_3 x8_1).f1))).setCell ⟨gb321,2,none⟩ (.int .i64 ((rd_T135 l0_3 x8_1).f2)))):=⟨bs HB⟩;(try clear BK316);(try clear BK321);(try clear HB)
              generalize (((w24.setCell ⟨gb321,0,none⟩ (.int .i64 ((rd_T135 l0_3 x8_1).f0))).setCell ⟨gb321,1,none⟩ (.int .i64 ((rd_T135 l0_3 x8_1).f1))).setCell ⟨gb321,2,none⟩ (.int .i64 ((rd_T135 l0_3 x8_1).f2)))=w27 at n0_ n1_ n2_ ⊢
              have BK316:=n0_;have BK321:=n1_;have HB:=n2_;clear n0_ n1_ n2_;replace BK316:=am (blk_drew BK316.out);replace BK321:=am (blk_drew BK321.out);replace HB:=am (below_drew1 HB.out);have p325:0≤((ji20):Int):=oa;have q325:(ji20)<(l0_3.length:Int):=oa;obtain ⟨ad325,e325,hx325_0,hx325_1,hx325_2⟩:=at_T135 HR0_3.out (ji20) p325 q325;have hw325_2:=hx325_2;have hw325_1:=hx325_1;have hw325_0:=hx325_0;obtain rfl:ad320=ad325:=(by injection e325);replace hx325_0:=cb HB hx325_0;replace hx325_1:=cb HB hx325_1;replace hx325_2:=cb HB hx325_2;replace p325:=eq_true p325;replace q325:=eq_true q325;refine start_ (n:=42) (S:=fun w'=>qk3a w' gb321 (.int .i64 ((rd_T135 l0_3 x8_1).f0)) (.int .i64 ((rd_T135 l0_3 x8_1).f1)) (.int .i64 ((rd_T135 l0_3 x8_1).f2)) (qk4a w' gb316 (.string a0_0) (.int .i64 a0_1) (.int .i64 a0_2) (.slice (some ad320) l0_3.length c0_3) (qe3 w' (ad320.add (((ji20)).toNat * 3)) (.int .i64 ((rd_T135 l0_3 (ji20)).f0)) (.int .i64 ((rd_T135 l0_3 (ji20)).f1)) (.int .i64 ((rd_T135 l0_3 (ji20)).f2))))) (ds:=[]) _ (by kernel_rfl) rfl rfl (qb3a BK321 (qb4a BK316 ⟨((cb HB hw325_0).trans rfl),((cb HB hw325_1).trans rfl),((cb HB hw325_2).trans rfl)⟩)) (fun hHeld=>?_);refine with_tabW impl_PartnerRight.tab4 impl_PartnerRight.bits4 (fun HT_ HW_=>?_)
              generalize w27.drew=w28 at BK316 BK321 HB hx325_0 hx325_1 hx325_2 hHeld ⊢
              refine pA 0 13 HT_ ?_;refine pA 2 15 HT_ ?_;refine tA 1 14 HT_ HW_ hHeld ?_;refine tA 3 16 HT_ HW_ hHeld ?_;refine oA 4 17 HT_ (fun K hK=>?_);refine gA Try.func69 #[.int .i64 ((rd_T135 l0_3 x8_1).f0),.int .i64 a0_1,.int .i64 999999] ?_;(with_reducible refine (impl_within.calls ((rd_T135 l0_3 x8_1).f0) a0_1 999999 true _ A7.out).mono ?_);rintro e w' ⟨rfl,⟨nd,rfl⟩⟩;refine ⟨_,rfl,?_⟩;refine hK.out _ _ (qb3a BK321 (qb4a BK316 ⟨((cb HB hw325_0).trans rfl),((cb HB hw325_1).trans rfl),((cb HB hw325_2).trans rfl)⟩)) (fun hHeld=>?_);clear hK K;refine nA 17 ?_;refine pA 5 18 HT_ ?_;refine pA 6 19 HT_ ?_;refine pA 7 20 HT_ ?_;refine pA 9 22 HT_ ?_;refine tA 8 21 HT_ HW_ hHeld ?_;refine tA 10 23 HT_ HW_ hHeld ?_;refine pA 11 24 HT_ ?_;refine pA 12 25 HT_ ?_;refine pA 13 26 HT_ ?_;refine pA 14 27 HT_ ?_;refine pA 15 28 HT_ ?_;refine tA 16 29 HT_ HW_ hHeld ?_;refine oA 17 30 HT_ (fun K hK=>?_);refine gA Try.func100 #[.int .i64 ((rd_T135 l0_3 x8_1).f1)] ?_;(with_reducible refine (impl_isControl.calls ((rd_T135 l0_3 x8_1).f1) true _ A15.out).mono ?_);rintro e w' ⟨rfl,⟨nd,rfl⟩⟩;refine ⟨_,rfl,?_⟩;refine hK.out _ _ (qb3a BK321 (qb4a BK316 ⟨((cb HB hw325_0).trans rfl),((cb HB hw325_1).trans rfl),((cb HB hw325_2).trans rfl)⟩)) (fun hHeld=>?_);clear hK K;refine nA 30 ?_;refine pA 18 31 HT_ ?_;refine pA 19 32 HT_ ?_;refine pA 20 33 HT_ ?_;refine pA 21 34 HT_ ?_;refine tA 22 35 HT_ HW_ hHeld ?_;refine oA 23 36 HT_ (fun K hK=>?_);refine gA Try.func101 #[.int .i64 ((rd_T135 l0_3 x8_1).f2)] ?_;(with_reducible refine (impl_isCode.calls ((rd_T135 l0_3 x8_1).f2) true _ A17.out).mono ?_);rintro e w' ⟨rfl,⟨nd,rfl⟩⟩;refine ⟨_,rfl,?_⟩;refine hK.out _ _ (qb3a BK321 (qb4a BK316 ⟨((cb HB hw325_0).trans rfl),((cb HB hw325_1).trans rfl),((cb HB hw325_2).trans rfl)⟩)) (fun hHeld=>?_);clear hK K;refine nA 36 ?_;refine pA 24 37 HT_ ?_;refine pA 25 38 HT_ ?_;refine pA 26 39 HT_ ?_;refine pA 27 40 HT_ ?_;refine pA 28 41 HT_ ?_;refine pA 29 42 HT_ ?_;refine pA 30 43 HT_ ?_;refine pA 32 45 HT_ ?_;refine pA 34 47 HT_ ?_;refine pA 35 48 HT_ ?_;refine tA 31 44 HT_ HW_ hHeld ?_;refine tA 33 46 HT_ HW_ hHeld ?_;refine pA 36 49 HT_ ?_;refine pA 37 50 HT_ ?_;refine tA 38 51 HT_ HW_ hHeld ?_;refine pA 39 52 HT_ ?_;refine pA 40 53 HT_ ?_;refine pA 41 54 HT_ ?_;refine done_ (done_of HT_.out (by kernel_rfl)) ?_
              try go_wp2
              go_ret
              exact ⟨by first|rfl|(simp [errW_none,errW_some] <;> rfl)|(simp only [← hji20];first|rfl|(simp [errW_none,errW_some] <;> rfl))|(simp [*,errW_none,errW_some] <;> rfl),bs HB⟩
             ·rw [if_neg c23] at H;have c23b0:decide (((rd_T135 l0_3 x8_1).f0)≤((rd_T135 l0_3 (ji20)).f0))=false:=decide_eq_false c23;clear c23;have H':=am H;clear H;have p320:0≤(x8_1:Int):=oa;have q320:x8_1<(l0_3.length:Int):=oa;obtain ⟨ad320,e320,hx320_0,hx320_1,hx320_2⟩:=at_T135 HR0_3.out x8_1 p320 q320
              cases e320
              replace hx320_0:=cb HB hx320_0;replace hx320_1:=cb HB hx320_1;replace hx320_2:=cb HB hx320_2;replace p320:=eq_true p320;replace q320:=eq_true q320
              try go_wp2_with (first|((with_reducible refine gate_dst (N:=4) rfl ?_);refine bx 4 (cs:=#[.int .i64 0,.int .i64 0,.int .i64 0]) (t:=135) ?_;intro gb321 hg w29 hbox hb;have BK321:=am (hbox);have GW321:=am ((gs hg (bs HB)));have GE321:=am ((gs hg (bs HB)));replace HB:=am (below_step (bs HB) hb);have NB316_321:=am ((gn hg (ks BK316)));have NB321_316:=am ((gm hg (ks BK316)));replace BK316:=am (blk_below (ks BK316) hb);clear hb hbox hg;have hnb30:=NB321_316.out;have hnc30:=NB316_321.out;obtain ⟨hcz31_0,hcz31_1,hcz31_2,hfz31_0,hfz31_1,hfz31_2⟩:=cf3 BK321))
              have n0_:Aside0 ((((w29.setCell ⟨gb321,0,none⟩ (.int .i64 ((rd_T135 l0_3 x8_1).f0))).setCell ⟨gb321,1,none⟩ (.int .i64 ((rd_T135 l0_3 x8_1).f1))).setCell ⟨gb321,2,none⟩ (.int .i64 ((rd_T135 l0_3 x8_1).f2))).heap[gb316]? = some (.cells #[.string a0_0,.int .i64 a0_1,.int .i64 a0_2,.slice (some ad320) l0_3.length c0_3] 92 (0,0))):=⟨ks BK316⟩;have n1_:Aside0 ((((w29.setCell ⟨gb321,0,none⟩ (.int .i64 ((rd_T135 l0_3 x8_1).f0))).setCell ⟨gb321,1,none⟩ (.int .i64 ((rd_T135 l0_3 x8_1).f1))).setCell ⟨gb321,2,none⟩ (.int .i64 ((rd_T135 l0_3 x8_1).f2))).heap[gb321]? = some (.cells #[.int .i64 ((rd_T135 l0_3 x8_1).f0),.int .i64 ((rd_T135 l0_3 x8_1).f1),.int .i64 ((rd_T135 l0_3 x8_1).f2)] 135 (0,0))):=⟨kp BK321⟩;have n2_:Aside0 (Below w.heap.size w (((w29.setCell ⟨gb321,0,none⟩ (.int .i64 ((rd_T135 l0_3 x8_1).f0))).setCell ⟨gb321,1,none⟩ (.int .i64 ((rd_T135 l0_3 x8_1).f1))).setCell ⟨gb321,2,none⟩ (.int .i64 ((rd_T135 l0_3 x8_1).f2)))):=⟨bs HB⟩;(try clear BK316);(try clear BK321);(try clear HB)
              generalize (((w29.setCell ⟨gb321,0,none⟩ (.int .i64 ((rd_T135 l0_3 x8_1).f0))).setCell ⟨gb321,1,none⟩ (.int .i64 ((rd_T135 l0_3 x8_1).f1))).setCell ⟨gb321,2,none⟩ (.int .i64 ((rd_T135 l0_3 x8_1).f2)))=w32 at n0_ n1_ n2_ ⊢
              have BK316:=n0_;have BK321:=n1_;have HB:=n2_;clear n0_ n1_ n2_;replace BK316:=am (blk_drew BK316.out);replace BK321:=am (blk_drew BK321.out);replace HB:=am (below_drew1 HB.out);have p325:0≤((ji20):Int):=oa;have q325:(ji20)<(l0_3.length:Int):=oa;obtain ⟨ad325,e325,hx325_0,hx325_1,hx325_2⟩:=at_T135 HR0_3.out (ji20) p325 q325;have hw325_2:=hx325_2;have hw325_1:=hx325_1;have hw325_0:=hx325_0;obtain rfl:ad320=ad325:=(by injection e325);replace hx325_0:=cb HB hx325_0;replace hx325_1:=cb HB hx325_1;replace hx325_2:=cb HB hx325_2;replace p325:=eq_true p325;replace q325:=eq_true q325;refine start_ (n:=42) (S:=fun w'=>qk3a w' gb321 (.int .i64 ((rd_T135 l0_3 x8_1).f0)) (.int .i64 ((rd_T135 l0_3 x8_1).f1)) (.int .i64 ((rd_T135 l0_3 x8_1).f2)) (qk4a w' gb316 (.string a0_0) (.int .i64 a0_1) (.int .i64 a0_2) (.slice (some ad320) l0_3.length c0_3) (qe3 w' (ad320.add (((ji20)).toNat * 3)) (.int .i64 ((rd_T135 l0_3 (ji20)).f0)) (.int .i64 ((rd_T135 l0_3 (ji20)).f1)) (.int .i64 ((rd_T135 l0_3 (ji20)).f2))))) (ds:=[]) _ (by kernel_rfl) rfl rfl (qb3a BK321 (qb4a BK316 ⟨((cb HB hw325_0).trans rfl),((cb HB hw325_1).trans rfl),((cb HB hw325_2).trans rfl)⟩)) (fun hHeld=>?_);refine with_tabW impl_PartnerRight.tab4 impl_PartnerRight.bits4 (fun HT_ HW_=>?_)
              generalize w32.drew=w33 at BK316 BK321 HB hx325_0 hx325_1 hx325_2 hHeld ⊢
              refine pA 0 13 HT_ ?_;refine pA 2 15 HT_ ?_;refine tA 1 14 HT_ HW_ hHeld ?_;refine tA 3 16 HT_ HW_ hHeld ?_;refine oA 4 17 HT_ (fun K hK=>?_);refine gA Try.func69 #[.int .i64 ((rd_T135 l0_3 x8_1).f0),.int .i64 a0_1,.int .i64 999999] ?_;(with_reducible refine (impl_within.calls ((rd_T135 l0_3 x8_1).f0) a0_1 999999 true _ A7.out).mono ?_);rintro e w' ⟨rfl,⟨nd,rfl⟩⟩;refine ⟨_,rfl,?_⟩;refine hK.out _ _ (qb3a BK321 (qb4a BK316 ⟨((cb HB hw325_0).trans rfl),((cb HB hw325_1).trans rfl),((cb HB hw325_2).trans rfl)⟩)) (fun hHeld=>?_);clear hK K;refine nA 17 ?_;refine pA 5 18 HT_ ?_;refine pA 6 19 HT_ ?_;refine pA 7 20 HT_ ?_;refine pA 9 22 HT_ ?_;refine tA 8 21 HT_ HW_ hHeld ?_;refine tA 10 23 HT_ HW_ hHeld ?_;refine pA 11 24 HT_ ?_;refine pA 12 25 HT_ ?_;refine pA 13 26 HT_ ?_;refine pA 14 27 HT_ ?_;refine pA 15 28 HT_ ?_;refine tA 16 29 HT_ HW_ hHeld ?_;refine oA 17 30 HT_ (fun K hK=>?_);refine gA Try.func100 #[.int .i64 ((rd_T135 l0_3 x8_1).f1)] ?_;(with_reducible refine (impl_isControl.calls ((rd_T135 l0_3 x8_1).f1) true _ A15.out).mono ?_);rintro e w' ⟨rfl,⟨nd,rfl⟩⟩;refine ⟨_,rfl,?_⟩;refine hK.out _ _ (qb3a BK321 (qb4a BK316 ⟨((cb HB hw325_0).trans rfl),((cb HB hw325_1).trans rfl),((cb HB hw325_2).trans rfl)⟩)) (fun hHeld=>?_);clear hK K;refine nA 30 ?_;refine pA 18 31 HT_ ?_;refine pA 19 32 HT_ ?_;refine pA 20 33 HT_ ?_;refine pA 21 34 HT_ ?_;refine tA 22 35 HT_ HW_ hHeld ?_;refine oA 23 36 HT_ (fun K hK=>?_);refine gA Try.func101 #[.int .i64 ((rd_T135 l0_3 x8_1).f2)] ?_;(with_reducible refine (impl_isCode.calls ((rd_T135 l0_3 x8_1).f2) true _ A17.out).mono ?_);rintro e w' ⟨rfl,⟨nd,rfl⟩⟩;refine ⟨_,rfl,?_⟩;refine hK.out _ _ (qb3a BK321 (qb4a BK316 ⟨((cb HB hw325_0).trans rfl),((cb HB hw325_1).trans rfl),((cb HB hw325_2).trans rfl)⟩)) (fun hHeld=>?_);clear hK K;refine nA 36 ?_;refine pA 24 37 HT_ ?_;refine pA 25 38 HT_ ?_;refine pA 26 39 HT_ ?_;refine pA 27 40 HT_ ?_;refine pA 28 41 HT_ ?_;refine pA 29 42 HT_ ?_;refine pA 30 43 HT_ ?_;refine pA 32 45 HT_ ?_;refine pA 34 47 HT_ ?_;refine pA 35 48 HT_ ?_;refine tA 31 44 HT_ HW_ hHeld ?_;refine tA 33 46 HT_ HW_ hHeld ?_;refine pA 36 49 HT_ ?_;refine pA 37 50 HT_ ?_;refine tA 38 51 HT_ HW_ hHeld ?_;refine pA 39 52 HT_ ?_;refine pA 40 53 HT_ ?_;refine pA 41 54 HT_ ?_;refine done_ (done_of HT_.out (by kernel_rfl)) ?_
              try go_wp2
              go_roundg k1
              case measure=>have:=HK1.out;omega
              case rel=>exact ⟨(wrap64 (x8_1+1)),fg,H',⟨by have:=HK1.out;omega⟩,⟨ks BK316⟩,⟨bs HB⟩⟩
            ·rw [if_neg c22] at H
             exact absurd H (by simp)
           ·rw [if_neg c21] at H
            exact absurd H (by simp)
          ·rw [if_neg c19] at H;have c19b0:decide (0<x8_1)=false:=decide_eq_false c19;clear c19;have H':=am H;clear H;have p320:0≤(x8_1:Int):=oa;have q320:x8_1<(l0_3.length:Int):=oa;obtain ⟨ad320,e320,hx320_0,hx320_1,hx320_2⟩:=at_T135 HR0_3.out x8_1 p320 q320
           cases e320
           replace hx320_0:=cb HB hx320_0;replace hx320_1:=cb HB hx320_1;replace hx320_2:=cb HB hx320_2;replace p320:=eq_true p320;replace q320:=eq_true q320
           try go_wp2_with (first|((with_reducible refine gate_dst (N:=4) rfl ?_);refine bx 4 (cs:=#[.int .i64 0,.int .i64 0,.int .i64 0]) (t:=135) ?_;intro gb321 hg w34 hbox hb;have BK321:=am (hbox);have GW321:=am ((gs hg (bs HB)));have GE321:=am ((gs hg (bs HB)));replace HB:=am (below_step (bs HB) hb);have NB316_321:=am ((gn hg (ks BK316)));have NB321_316:=am ((gm hg (ks BK316)));replace BK316:=am (blk_below (ks BK316) hb);clear hb hbox hg;have hnb35:=NB321_316.out;have hnc35:=NB316_321.out;obtain ⟨hcz36_0,hcz36_1,hcz36_2,hfz36_0,hfz36_1,hfz36_2⟩:=cf3 BK321))
           have n0_:Aside0 ((((w34.setCell ⟨gb321,0,none⟩ (.int .i64 ((rd_T135 l0_3 x8_1).f0))).setCell ⟨gb321,1,none⟩ (.int .i64 ((rd_T135 l0_3 x8_1).f1))).setCell ⟨gb321,2,none⟩ (.int .i64 ((rd_T135 l0_3 x8_1).f2))).heap[gb316]? = some (.cells #[.string a0_0,.int .i64 a0_1,.int .i64 a0_2,.slice (some ad320) l0_3.length c0_3] 92 (0,0))):=⟨ks BK316⟩;have n1_:Aside0 ((((w34.setCell ⟨gb321,0,none⟩ (.int .i64 ((rd_T135 l0_3 x8_1).f0))).setCell ⟨gb321,1,none⟩ (.int .i64 ((rd_T135 l0_3 x8_1).f1))).setCell ⟨gb321,2,none⟩ (.int .i64 ((rd_T135 l0_3 x8_1).f2))).heap[gb321]? = some (.cells #[.int .i64 ((rd_T135 l0_3 x8_1).f0),.int .i64 ((rd_T135 l0_3 x8_1).f1),.int .i64 ((rd_T135 l0_3 x8_1).f2)] 135 (0,0))):=⟨kp BK321⟩;have n2_:Aside0 (Below w.heap.size w (((w34.setCell ⟨gb321,0,none⟩ (.int .i64 ((rd_T135 l0_3 x8_1).f0))).setCell ⟨gb321,1,none⟩ (.int .i64 ((rd_T135 l0_3 x8_1).f1))).setCell ⟨gb321,2,none⟩ (.int .i64 ((rd_T135 l0_3 x8_1).f2)))):=⟨bs HB⟩;(try clear BK316);(try clear BK321);(try clear HB)
           generalize (((w34.setCell ⟨gb321,0,none⟩ (.int .i64 ((rd_T135 l0_3 x8_1).f0))).setCell ⟨gb321,1,none⟩ (.int .i64 ((rd_T135 l0_3 x8_1).f1))).setCell ⟨gb321,2,none⟩ (.int .i64 ((rd_T135 l0_3 x8_1).f2)))=w37 at n0_ n1_ n2_ ⊢
           have BK316:=n0_;have BK321:=n1_;have HB:=n2_;clear n0_ n1_ n2_;replace BK316:=am (blk_drew BK316.out);replace BK321:=am (blk_drew BK321.out);replace HB:=am (below_drew1 HB.out);refine start_ (n:=42) (S:=fun w'=>qk3a w' gb321 (.int .i64 ((rd_T135 l0_3 x8_1).f0)) (.int .i64 ((rd_T135 l0_3 x8_1).f1)) (.int .i64 ((rd_T135 l0_3 x8_1).f2)) (qk4 w' gb316 (.string a0_0) (.int .i64 a0_1) (.int .i64 a0_2) (.slice (some ad320) l0_3.length c0_3))) (ds:=[]) _ (by kernel_rfl) rfl rfl (qb3a BK321 (qb4 BK316)) (fun hHeld=>?_);refine with_tabW impl_PartnerRight.tab4 impl_PartnerRight.bits4 (fun HT_ HW_=>?_)
           generalize w37.drew=w38 at BK316 BK321 HB hHeld ⊢
           refine pA 0 13 HT_ ?_;refine pA 2 15 HT_ ?_;refine tA 1 14 HT_ HW_ hHeld ?_;refine tA 3 16 HT_ HW_ hHeld ?_;refine oA 4 17 HT_ (fun K hK=>?_);refine gA Try.func69 #[.int .i64 ((rd_T135 l0_3 x8_1).f0),.int .i64 a0_1,.int .i64 999999] ?_;(with_reducible refine (impl_within.calls ((rd_T135 l0_3 x8_1).f0) a0_1 999999 true _ A7.out).mono ?_);rintro e w' ⟨rfl,⟨nd,rfl⟩⟩;refine ⟨_,rfl,?_⟩;refine hK.out _ _ (qb3a BK321 (qb4 BK316)) (fun hHeld=>?_);clear hK K;refine nA 17 ?_;refine pA 5 18 HT_ ?_;refine pA 6 19 HT_ ?_;refine pA 7 20 HT_ ?_;refine pA 9 22 HT_ ?_;refine tA 8 21 HT_ HW_ hHeld ?_;refine tA 10 23 HT_ HW_ hHeld ?_;refine pA 11 24 HT_ ?_;refine pA 12 25 HT_ ?_;refine pA 13 26 HT_ ?_;refine pA 14 27 HT_ ?_;refine pA 15 28 HT_ ?_;refine tA 16 29 HT_ HW_ hHeld ?_;refine oA 17 30 HT_ (fun K hK=>?_);refine gA Try.func100 #[.int .i64 ((rd_T135 l0_3 x8_1).f1)] ?_;(with_reducible refine (impl_isControl.calls ((rd_T135 l0_3 x8_1).f1) true _ A15.out).mono ?_);rintro e w' ⟨rfl,⟨nd,rfl⟩⟩;refine ⟨_,rfl,?_⟩;refine hK.out _ _ (qb3a BK321 (qb4 BK316)) (fun hHeld=>?_);clear hK K;refine nA 30 ?_;refine pA 18 31 HT_ ?_;refine pA 19 32 HT_ ?_;refine pA 20 33 HT_ ?_;refine pA 21 34 HT_ ?_;refine tA 22 35 HT_ HW_ hHeld ?_;refine oA 23 36 HT_ (fun K hK=>?_);refine gA Try.func101 #[.int .i64 ((rd_T135 l0_3 x8_1).f2)] ?_;(with_reducible refine (impl_isCode.calls ((rd_T135 l0_3 x8_1).f2) true _ A17.out).mono ?_);rintro e w' ⟨rfl,⟨nd,rfl⟩⟩;refine ⟨_,rfl,?_⟩;refine hK.out _ _ (qb3a BK321 (qb4 BK316)) (fun hHeld=>?_);clear hK K;refine nA 36 ?_;refine pA 24 37 HT_ ?_;refine pA 25 38 HT_ ?_;refine pA 26 39 HT_ ?_;refine pA 27 40 HT_ ?_;refine pA 28 41 HT_ ?_;refine pA 29 42 HT_ ?_;refine pB 30 43 HT_ ?_;refine pB 31 44 HT_ ?_;refine pB 32 45 HT_ ?_;refine pB 33 46 HT_ ?_;refine pB 34 47 HT_ ?_;refine pB 35 48 HT_ ?_;refine pB 36 49 HT_ ?_;refine pB 37 50 HT_ ?_;refine pB 38 51 HT_ ?_;refine pB 39 52 HT_ ?_;refine pA 40 53 HT_ ?_;refine pA 41 54 HT_ ?_;refine done_ (done_of HT_.out (by kernel_rfl)) ?_
           try go_wp2
           go_roundg k1
           case measure=>have:=HK1.out;omega
           case rel=>exact ⟨(wrap64 (x8_1+1)),fg,H',⟨by have:=HK1.out;omega⟩,⟨ks BK316⟩,⟨bs HB⟩⟩
         ·replace c18:=Bool.eq_false_iff.mpr c18;subst c18
          have H1:(some false)=some r:=by rw [if_neg (show ¬ (false=true) by decide)] at H;exact H
          clear H;have H:=H1;clear H1;obtain rfl:=Option.some.inj H;have p320:0≤(x8_1:Int):=oa;have q320:x8_1<(l0_3.length:Int):=oa;obtain ⟨ad320,e320,hx320_0,hx320_1,hx320_2⟩:=at_T135 HR0_3.out x8_1 p320 q320
          cases e320
          replace hx320_0:=cb HB hx320_0;replace hx320_1:=cb HB hx320_1;replace hx320_2:=cb HB hx320_2;replace p320:=eq_true p320;replace q320:=eq_true q320
          try go_wp2_with (first|((with_reducible refine gate_dst (N:=4) rfl ?_);refine bx 4 (cs:=#[.int .i64 0,.int .i64 0,.int .i64 0]) (t:=135) ?_;intro gb321 hg w39 hbox hb;have BK321:=am (hbox);have GW321:=am ((gs hg (bs HB)));have GE321:=am ((gs hg (bs HB)));replace HB:=am (below_step (bs HB) hb);have NB316_321:=am ((gn hg (ks BK316)));have NB321_316:=am ((gm hg (ks BK316)));replace BK316:=am (blk_below (ks BK316) hb);clear hb hbox hg;have hnb40:=NB321_316.out;have hnc40:=NB316_321.out;obtain ⟨hcz41_0,hcz41_1,hcz41_2,hfz41_0,hfz41_1,hfz41_2⟩:=cf3 BK321))
          have n0_:Aside0 ((((w39.setCell ⟨gb321,0,none⟩ (.int .i64 ((rd_T135 l0_3 x8_1).f0))).setCell ⟨gb321,1,none⟩ (.int .i64 ((rd_T135 l0_3 x8_1).f1))).setCell ⟨gb321,2,none⟩ (.int .i64 ((rd_T135 l0_3 x8_1).f2))).heap[gb316]? = some (.cells #[.string a0_0,.int .i64 a0_1,.int .i64 a0_2,.slice (some ad320) l0_3.length c0_3] 92 (0,0))):=⟨ks BK316⟩;have n1_:Aside0 ((((w39.setCell ⟨gb321,0,none⟩ (.int .i64 ((rd_T135 l0_3 x8_1).f0))).setCell ⟨gb321,1,none⟩ (.int .i64 ((rd_T135 l0_3 x8_1).f1))).setCell ⟨gb321,2,none⟩ (.int .i64 ((rd_T135 l0_3 x8_1).f2))).heap[gb321]? = some (.cells #[.int .i64 ((rd_T135 l0_3 x8_1).f0),.int .i64 ((rd_T135 l0_3 x8_1).f1),.int .i64 ((rd_T135 l0_3 x8_1).f2)] 135 (0,0))):=⟨kp BK321⟩;have n2_:Aside0 (Below w.heap.size w (((w39.setCell ⟨gb321,0,none⟩ (.int .i64 ((rd_T135 l0_3 x8_1).f0))).setCell ⟨gb321,1,none⟩ (.int .i64 ((rd_T135 l0_3 x8_1).f1))).setCell ⟨gb321,2,none⟩ (.int .i64 ((rd_T135 l0_3 x8_1).f2)))):=⟨bs HB⟩;(try clear BK316);(try clear BK321);(try clear HB)
          generalize (((w39.setCell ⟨gb321,0,none⟩ (.int .i64 ((rd_T135 l0_3 x8_1).f0))).setCell ⟨gb321,1,none⟩ (.int .i64 ((rd_T135 l0_3 x8_1).f1))).setCell ⟨gb321,2,none⟩ (.int .i64 ((rd_T135 l0_3 x8_1).f2)))=w42 at n0_ n1_ n2_ ⊢
          have BK316:=n0_;have BK321:=n1_;have HB:=n2_;clear n0_ n1_ n2_;replace BK316:=am (blk_drew BK316.out);replace BK321:=am (blk_drew BK321.out);replace HB:=am (below_drew1 HB.out);refine start_ (n:=42) (S:=fun w'=>qk3a w' gb321 (.int .i64 ((rd_T135 l0_3 x8_1).f0)) (.int .i64 ((rd_T135 l0_3 x8_1).f1)) (.int .i64 ((rd_T135 l0_3 x8_1).f2)) (qk4 w' gb316 (.string a0_0) (.int .i64 a0_1) (.int .i64 a0_2) (.slice (some ad320) l0_3.length c0_3))) (ds:=[]) _ (by kernel_rfl) rfl rfl (qb3a BK321 (qb4 BK316)) (fun hHeld=>?_);refine with_tabW impl_PartnerRight.tab4 impl_PartnerRight.bits4 (fun HT_ HW_=>?_)
          generalize w42.drew=w43 at BK316 BK321 HB hHeld ⊢
          refine pA 0 13 HT_ ?_;refine pA 2 15 HT_ ?_;refine tA 1 14 HT_ HW_ hHeld ?_;refine tA 3 16 HT_ HW_ hHeld ?_;refine oA 4 17 HT_ (fun K hK=>?_);refine gA Try.func69 #[.int .i64 ((rd_T135 l0_3 x8_1).f0),.int .i64 a0_1,.int .i64 999999] ?_;(with_reducible refine (impl_within.calls ((rd_T135 l0_3 x8_1).f0) a0_1 999999 true _ A7.out).mono ?_);rintro e w' ⟨rfl,⟨nd,rfl⟩⟩;refine ⟨_,rfl,?_⟩;refine hK.out _ _ (qb3a BK321 (qb4 BK316)) (fun hHeld=>?_);clear hK K;refine nA 17 ?_;refine pA 5 18 HT_ ?_;refine pA 6 19 HT_ ?_;refine pA 7 20 HT_ ?_;refine pA 9 22 HT_ ?_;refine tA 8 21 HT_ HW_ hHeld ?_;refine tA 10 23 HT_ HW_ hHeld ?_;refine pA 11 24 HT_ ?_;refine pA 12 25 HT_ ?_;refine pA 13 26 HT_ ?_;refine pA 14 27 HT_ ?_;refine pA 15 28 HT_ ?_;refine tA 16 29 HT_ HW_ hHeld ?_;refine oA 17 30 HT_ (fun K hK=>?_);refine gA Try.func100 #[.int .i64 ((rd_T135 l0_3 x8_1).f1)] ?_;(with_reducible refine (impl_isControl.calls ((rd_T135 l0_3 x8_1).f1) true _ A15.out).mono ?_);rintro e w' ⟨rfl,⟨nd,rfl⟩⟩;refine ⟨_,rfl,?_⟩;refine hK.out _ _ (qb3a BK321 (qb4 BK316)) (fun hHeld=>?_);clear hK K;refine nA 30 ?_;refine pA 18 31 HT_ ?_;refine pA 19 32 HT_ ?_;refine pA 20 33 HT_ ?_;refine pA 21 34 HT_ ?_;refine tA 22 35 HT_ HW_ hHeld ?_;refine oA 23 36 HT_ (fun K hK=>?_);refine gA Try.func101 #[.int .i64 ((rd_T135 l0_3 x8_1).f2)] ?_;(with_reducible refine (impl_isCode.calls ((rd_T135 l0_3 x8_1).f2) false _ A17.out).mono ?_);rintro e w' ⟨rfl,⟨nd,rfl⟩⟩;refine ⟨_,rfl,?_⟩;refine hK.out _ _ (qb3a BK321 (qb4 BK316)) (fun hHeld=>?_);clear hK K;refine nA 36 ?_;refine pA 24 37 HT_ ?_;refine pA 25 38 HT_ ?_;refine pA 26 39 HT_ ?_;refine pB 27 40 HT_ ?_;refine pB 28 41 HT_ ?_;refine pB 29 42 HT_ ?_;refine pB 30 43 HT_ ?_;refine pB 31 44 HT_ ?_;refine pB 32 45 HT_ ?_;refine pB 33 46 HT_ ?_;refine pB 34 47 HT_ ?_;refine pB 35 48 HT_ ?_;refine pB 36 49 HT_ ?_;refine pB 37 50 HT_ ?_;refine pB 38 51 HT_ ?_;refine pB 39 52 HT_ ?_;refine pB 40 53 HT_ ?_;refine pA 41 54 HT_ ?_;refine done_ (done_of HT_.out (by kernel_rfl)) ?_
          try go_wp2
          go_ret
          exact ⟨ff,bs HB⟩
        ·replace c16:=Bool.eq_false_iff.mpr c16;subst c16
         have H1:(some false)=some r:=by rw [if_neg (show ¬ (false=true) by decide)] at H;exact H
         clear H;have H:=H1;clear H1;obtain rfl:=Option.some.inj H;have p320:0≤(x8_1:Int):=oa;have q320:x8_1<(l0_3.length:Int):=oa;obtain ⟨ad320,e320,hx320_0,hx320_1,hx320_2⟩:=at_T135 HR0_3.out x8_1 p320 q320
         cases e320
         replace hx320_0:=cb HB hx320_0;replace hx320_1:=cb HB hx320_1;replace hx320_2:=cb HB hx320_2;replace p320:=eq_true p320;replace q320:=eq_true q320
         try go_wp2_with (first|((with_reducible refine gate_dst (N:=4) rfl ?_);refine bx 4 (cs:=#[.int .i64 0,.int .i64 0,.int .i64 0]) (t:=135) ?_;intro gb321 hg w44 hbox hb;have BK321:=am (hbox);have GW321:=am ((gs hg (bs HB)));have GE321:=am ((gs hg (bs HB)));replace HB:=am (below_step (bs HB) hb);have NB316_321:=am ((gn hg (ks BK316)));have NB321_316:=am ((gm hg (ks BK316)));replace BK316:=am (blk_below (ks BK316) hb);clear hb hbox hg;have hnb45:=NB321_316.out;have hnc45:=NB316_321.out;obtain ⟨hcz46_0,hcz46_1,hcz46_2,hfz46_0,hfz46_1,hfz46_2⟩:=cf3 BK321))
         have n0_:Aside0 ((((w44.setCell ⟨gb321,0,none⟩ (.int .i64 ((rd_T135 l0_3 x8_1).f0))).setCell ⟨gb321,1,none⟩ (.int .i64 ((rd_T135 l0_3 x8_1).f1))).setCell ⟨gb321,2,none⟩ (.int .i64 ((rd_T135 l0_3 x8_1).f2))).heap[gb316]? = some (.cells #[.string a0_0,.int .i64 a0_1,.int .i64 a0_2,.slice (some ad320) l0_3.length c0_3] 92 (0,0))):=⟨ks BK316⟩;have n1_:Aside0 ((((w44.setCell ⟨gb321,0,none⟩ (.int .i64 ((rd_T135 l0_3 x8_1).f0))).setCell ⟨gb321,1,none⟩ (.int .i64 ((rd_T135 l0_3 x8_1).f1))).setCell ⟨gb321,2,none⟩ (.int .i64 ((rd_T135 l0_3 x8_1).f2))).heap[gb321]? = some (.cells #[.int .i64 ((rd_T135 l0_3 x8_1).f0),.int .i64 ((rd_T135 l0_3 x8_1).f1),.int .i64 ((rd_T135 l0_3 x8_1).f2)] 135 (0,0))):=⟨kp BK321⟩;have n2_:Aside0 (Below w.heap.size w (((w44.setCell ⟨gb321,0,none⟩ (.int .i64 ((rd_T135 l0_3 x8_1).f0))).setCell ⟨gb321,1,none⟩ (.int .i64 ((rd_T135 l0_3 x8_1).f1))).setCell ⟨gb321,2,none⟩ (.int .i64 ((rd_T135 l0_3 x8_1).f2)))):=⟨bs HB⟩;(try clear BK316);(try clear BK321);(try clear HB)
         generalize (((w44.setCell ⟨gb321,0,none⟩ (.int .i64 ((rd_T135 l0_3 x8_1).f0))).setCell ⟨gb321,1,none⟩ (.int .i64 ((rd_T135 l0_3 x8_1).f1))).setCell ⟨gb321,2,none⟩ (.int .i64 ((rd_T135 l0_3 x8_1).f2)))=w47 at n0_ n1_ n2_ ⊢
         have BK316:=n0_;have BK321:=n1_;have HB:=n2_;clear n0_ n1_ n2_;replace BK316:=am (blk_drew BK316.out);replace BK321:=am (blk_drew BK321.out);replace HB:=am (below_drew1 HB.out);refine start_ (n:=42) (S:=fun w'=>qk3a w' gb321 (.int .i64 ((rd_T135 l0_3 x8_1).f0)) (.int .i64 ((rd_T135 l0_3 x8_1).f1)) (.int .i64 ((rd_T135 l0_3 x8_1).f2)) (qk4 w' gb316 (.string a0_0) (.int .i64 a0_1) (.int .i64 a0_2) (.slice (some ad320) l0_3.length c0_3))) (ds:=[]) _ (by kernel_rfl) rfl rfl (qb3a BK321 (qb4 BK316)) (fun hHeld=>?_);refine with_tabW impl_PartnerRight.tab4 impl_PartnerRight.bits4 (fun HT_ HW_=>?_)
         generalize w47.drew=w48 at BK316 BK321 HB hHeld ⊢
         refine pA 0 13 HT_ ?_;refine pA 2 15 HT_ ?_;refine tA 1 14 HT_ HW_ hHeld ?_;refine tA 3 16 HT_ HW_ hHeld ?_;refine oA 4 17 HT_ (fun K hK=>?_);refine gA Try.func69 #[.int .i64 ((rd_T135 l0_3 x8_1).f0),.int .i64 a0_1,.int .i64 999999] ?_;(with_reducible refine (impl_within.calls ((rd_T135 l0_3 x8_1).f0) a0_1 999999 true _ A7.out).mono ?_);rintro e w' ⟨rfl,⟨nd,rfl⟩⟩;refine ⟨_,rfl,?_⟩;refine hK.out _ _ (qb3a BK321 (qb4 BK316)) (fun hHeld=>?_);clear hK K;refine nA 17 ?_;refine pA 5 18 HT_ ?_;refine pA 6 19 HT_ ?_;refine pA 7 20 HT_ ?_;refine pA 9 22 HT_ ?_;refine tA 8 21 HT_ HW_ hHeld ?_;refine tA 10 23 HT_ HW_ hHeld ?_;refine pA 11 24 HT_ ?_;refine pA 12 25 HT_ ?_;refine pA 13 26 HT_ ?_;refine pA 14 27 HT_ ?_;refine pA 15 28 HT_ ?_;refine tA 16 29 HT_ HW_ hHeld ?_;refine oA 17 30 HT_ (fun K hK=>?_);refine gA Try.func100 #[.int .i64 ((rd_T135 l0_3 x8_1).f1)] ?_;(with_reducible refine (impl_isControl.calls ((rd_T135 l0_3 x8_1).f1) false _ A15.out).mono ?_);rintro e w' ⟨rfl,⟨nd,rfl⟩⟩;refine ⟨_,rfl,?_⟩;refine hK.out _ _ (qb3a BK321 (qb4 BK316)) (fun hHeld=>?_);clear hK K;refine nA 30 ?_;refine pA 18 31 HT_ ?_;refine pA 19 32 HT_ ?_;refine pA 20 33 HT_ ?_;refine pB 21 34 HT_ ?_;refine pB 22 35 HT_ ?_;refine pB 23 36 HT_ ?_;refine pB 24 37 HT_ ?_;refine pA 25 38 HT_ ?_;refine pA 26 39 HT_ ?_;refine pB 27 40 HT_ ?_;refine pB 28 41 HT_ ?_;refine pB 29 42 HT_ ?_;refine pB 30 43 HT_ ?_;refine pB 31 44 HT_ ?_;refine pB 32 45 HT_ ?_;refine pB 33 46 HT_ ?_;refine pB 34 47 HT_ ?_;refine pB 35 48 HT_ ?_;refine pB 36 49 HT_ ?_;refine pB 37 50 HT_ ?_;refine pB 38 51 HT_ ?_;refine pB 39 52 HT_ ?_;refine pB 40 53 HT_ ?_;refine pA 41 54 HT_ ?_;refine done_ (done_of HT_.out (by kernel_rfl)) ?_
         try go_wp2
         go_ret
         exact ⟨ff,bs HB⟩
      ·replace c8:=Bool.eq_false_iff.mpr c8;subst c8
       have H1:(some false)=some r:=by rw [if_neg (show ¬ (false=true) by decide)] at H;exact H
       clear H;have H:=H1;clear H1;obtain rfl:=Option.some.inj H;have p320:0≤(x8_1:Int):=oa;have q320:x8_1<(l0_3.length:Int):=oa;obtain ⟨ad320,e320,hx320_0,hx320_1,hx320_2⟩:=at_T135 HR0_3.out x8_1 p320 q320
       cases e320
       replace hx320_0:=cb HB hx320_0;replace hx320_1:=cb HB hx320_1;replace hx320_2:=cb HB hx320_2;replace p320:=eq_true p320;replace q320:=eq_true q320
       try go_wp2_with (first|((with_reducible refine gate_dst (N:=4) rfl ?_);refine bx 4 (cs:=#[.int .i64 0,.int .i64 0,.int .i64 0]) (t:=135) ?_;intro gb321 hg w49 hbox hb;have BK321:=am (hbox);have GW321:=am ((gs hg (bs HB)));have GE321:=am ((gs hg (bs HB)));replace HB:=am (below_step (bs HB) hb);have NB316_321:=am ((gn hg (ks BK316)));have NB321_316:=am ((gm hg (ks BK316)));replace BK316:=am (blk_below (ks BK316) hb);clear hb hbox hg;have hnb50:=NB321_316.out;have hnc50:=NB316_321.out;obtain ⟨hcz51_0,hcz51_1,hcz51_2,hfz51_0,hfz51_1,hfz51_2⟩:=cf3 BK321))
       have n0_:Aside0 ((((w49.setCell ⟨gb321,0,none⟩ (.int .i64 ((rd_T135 l0_3 x8_1).f0))).setCell ⟨gb321,1,none⟩ (.int .i64 ((rd_T135 l0_3 x8_1).f1))).setCell ⟨gb321,2,none⟩ (.int .i64 ((rd_T135 l0_3 x8_1).f2))).heap[gb316]? = some (.cells #[.string a0_0,.int .i64 a0_1,.int .i64 a0_2,.slice (some ad320) l0_3.length c0_3] 92 (0,0))):=⟨ks BK316⟩;have n1_:Aside0 ((((w49.setCell ⟨gb321,0,none⟩ (.int .i64 ((rd_T135 l0_3 x8_1).f0))).setCell ⟨gb321,1,none⟩ (.int .i64 ((rd_T135 l0_3 x8_1).f1))).setCell ⟨gb321,2,none⟩ (.int .i64 ((rd_T135 l0_3 x8_1).f2))).heap[gb321]? = some (.cells #[.int .i64 ((rd_T135 l0_3 x8_1).f0),.int .i64 ((rd_T135 l0_3 x8_1).f1),.int .i64 ((rd_T135 l0_3 x8_1).f2)] 135 (0,0))):=⟨kp BK321⟩;have n2_:Aside0 (Below w.heap.size w (((w49.setCell ⟨gb321,0,none⟩ (.int .i64 ((rd_T135 l0_3 x8_1).f0))).setCell ⟨gb321,1,none⟩ (.int .i64 ((rd_T135 l0_3 x8_1).f1))).setCell ⟨gb321,2,none⟩ (.int .i64 ((rd_T135 l0_3 x8_1).f2)))):=⟨bs HB⟩;(try clear BK316);(try clear BK321);(try clear HB)
       generalize (((w49.setCell ⟨gb321,0,none⟩ (.int .i64 ((rd_T135 l0_3 x8_1).f0))).setCell ⟨gb321,1,none⟩ (.int .i64 ((rd_T135 l0_3 x8_1).f1))).setCell ⟨gb321,2,none⟩ (.int .i64 ((rd_T135 l0_3 x8_1).f2)))=w52 at n0_ n1_ n2_ ⊢
       have BK316:=n0_;have BK321:=n1_;have HB:=n2_;clear n0_ n1_ n2_;replace BK316:=am (blk_drew BK316.out);replace BK321:=am (blk_drew BK321.out);replace HB:=am (below_drew1 HB.out);refine start_ (n:=42) (S:=fun w'=>qk3a w' gb321 (.int .i64 ((rd_T135 l0_3 x8_1).f0)) (.int .i64 ((rd_T135 l0_3 x8_1).f1)) (.int .i64 ((rd_T135 l0_3 x8_1).f2)) (qk4 w' gb316 (.string a0_0) (.int .i64 a0_1) (.int .i64 a0_2) (.slice (some ad320) l0_3.length c0_3))) (ds:=[]) _ (by kernel_rfl) rfl rfl (qb3a BK321 (qb4 BK316)) (fun hHeld=>?_);refine with_tabW impl_PartnerRight.tab4 impl_PartnerRight.bits4 (fun HT_ HW_=>?_)
       generalize w52.drew=w53 at BK316 BK321 HB hHeld ⊢
       refine pA 0 13 HT_ ?_;refine pA 2 15 HT_ ?_;refine tA 1 14 HT_ HW_ hHeld ?_;refine tA 3 16 HT_ HW_ hHeld ?_;refine oA 4 17 HT_ (fun K hK=>?_);refine gA Try.func69 #[.int .i64 ((rd_T135 l0_3 x8_1).f0),.int .i64 a0_1,.int .i64 999999] ?_;(with_reducible refine (impl_within.calls ((rd_T135 l0_3 x8_1).f0) a0_1 999999 false _ A7.out).mono ?_);rintro e w' ⟨rfl,⟨nd,rfl⟩⟩;refine ⟨_,rfl,?_⟩;refine hK.out _ _ (qb3a BK321 (qb4 BK316)) (fun hHeld=>?_);clear hK K;refine nA 17 ?_;refine pA 5 18 HT_ ?_;refine pA 6 19 HT_ ?_;refine pB 7 20 HT_ ?_;refine pB 8 21 HT_ ?_;refine pB 9 22 HT_ ?_;refine pB 10 23 HT_ ?_;refine pB 11 24 HT_ ?_;refine pB 12 25 HT_ ?_;refine pA 13 26 HT_ ?_;refine pA 14 27 HT_ ?_;refine pB 15 28 HT_ ?_;refine pB 16 29 HT_ ?_;refine pB 17 30 HT_ ?_;refine pB 18 31 HT_ ?_;refine pA 19 32 HT_ ?_;refine pA 20 33 HT_ ?_;refine pB 21 34 HT_ ?_;refine pB 22 35 HT_ ?_;refine pB 23 36 HT_ ?_;refine pB 24 37 HT_ ?_;refine pA 25 38 HT_ ?_;refine pA 26 39 HT_ ?_;refine pB 27 40 HT_ ?_;refine pB 28 41 HT_ ?_;refine pB 29 42 HT_ ?_;refine pB 30 43 HT_ ?_;refine pB 31 44 HT_ ?_;refine pB 32 45 HT_ ?_;refine pB 33 46 HT_ ?_;refine pB 34 47 HT_ ?_;refine pB 35 48 HT_ ?_;refine pB 36 49 HT_ ?_;refine pB 37 50 HT_ ?_;refine pB 38 51 HT_ ?_;refine pB 39 52 HT_ ?_;refine pB 40 53 HT_ ?_;refine pA 41 54 HT_ ?_;refine done_ (done_of HT_.out (by kernel_rfl)) ?_
       try go_wp2
       go_ret
       exact ⟨ff,bs HB⟩
     ·rw [if_neg c6] at H
      exact absurd H (by simp)
    ·rw [if_neg c5] at H
     exact absurd H (by simp)
   ·rw [if_neg c4] at H;have c4b0:decide (x8_1<(l0_3.length:Int))=false:=decide_eq_false c4;clear c4;replace H:=Option.bind_eq_some_iff.mp H;obtain ⟨t317,A540,H⟩:=H;replace H:(if t317=true then ((impl_isControl.f a0_1).bind fun t318=>(if t318=true then ((impl_isControl.f a0_2).bind fun t319=>(some t319)) else (some false))) else (some false))=some r:=H;have A54:=am A540;clear A540;obtain ⟨hcz55_0,hcz55_1,hcz55_2,hcz55_3,hfz55_0,hfz55_1,hfz55_2,hfz55_3⟩:=cf4 BK316
    try go_wp2_with (fail)
    go_at_call 25;(with_reducible refine (impl_isName.calls k1 a0_0 t317 _ A54.out).mono ?_);rintro e w' ⟨rfl,⟨nd,rfl⟩⟩
    by_cases c56:t317=true
    ·subst c56
     have H1:((impl_isControl.f a0_1).bind fun t318=>(if t318=true then ((impl_isControl.f a0_2).bind fun t319=>(some t319)) else (some false)))=some r:=by rw [if_pos rfl] at H;exact H
     clear H;have H:=H1;clear H1;replace H:=Option.bind_eq_some_iff.mp H;obtain ⟨t318,A570,H⟩:=H;replace H:(if t318=true then ((impl_isControl.f a0_2).bind fun t319=>(some t319)) else (some false))=some r:=H;have A57:=am A570;clear A570;obtain ⟨hcz58_0,hcz58_1,hcz58_2,hcz58_3,hfz58_0,hfz58_1,hfz58_2,hfz58_3⟩:=cf4 BK316
     try go_wp2_with (fail)
     go_at_call 100;(with_reducible refine (impl_isControl.calls a0_1 t318 _ A57.out).mono ?_);rintro e w' ⟨rfl,⟨nd,rfl⟩⟩
     by_cases c59:t318=true
     ·subst c59
      have H1:((impl_isControl.f a0_2).bind fun t319=>(some t319))=some r:=by rw [if_pos rfl] at H;exact H
      clear H;have H:=H1;clear H1;replace H:=Option.bind_eq_some_iff.mp H;obtain ⟨t319,A600,H⟩:=H;replace H:(some t319)=some r:=H;have A60:=am A600;clear A600;obtain rfl:=Option.some.inj H;obtain ⟨hcz61_0,hcz61_1,hcz61_2,hcz61_3,hfz61_0,hfz61_1,hfz61_2,hfz61_3⟩:=cf4 BK316
      go_wp2_with (first|(go_at_call 100;(with_reducible refine (impl_isControl.calls a0_2 t319 _ A60.out).mono ?_);rintro e w' ⟨rfl,⟨nd,rfl⟩⟩))
      go_ret
      exact ⟨ff,bs HB⟩
     ·replace c59:=Bool.eq_false_iff.mpr c59;subst c59
      have H1:(some false)=some r:=by rw [if_neg (show ¬ (false=true) by decide)] at H;exact H
      clear H;have H:=H1;clear H1;obtain rfl:=Option.some.inj H
      go_wp2
      go_ret
      exact ⟨ff,bs HB⟩
    ·replace c56:=Bool.eq_false_iff.mpr c56;subst c56
     have H1:(some false)=some r:=by rw [if_neg (show ¬ (false=true) by decide)] at H;exact H
     clear H;have H:=H1;clear H1;obtain rfl:=Option.some.inj H
     go_wp2
     go_ret
     exact ⟨ff,bs HB⟩
end Go.Proofs.Ytjjfjgdhloideaa.QI
namespace Go.Proofs.Ytjjfjgdhloideaa.QI
open Go.RowKit Go.Proofs.YtjjfjgdhloideaaW.PrintWords Go.Proofs.YtjjfjgdhloideaaW.PrintLast Go.Proofs.YtjjfjgdhloideaaW.PrintMore
attribute [local go_sem] max2_int min2_int max_two min_two max_three min_three max_four min_four   -- for this text's walks alone
set_option linter.unusedVariables false
set_option linter.unusedSimpArgs false
set_option maxHeartbeats 8000000 in
set_option maxRecDepth 100000 in
theorem cmp_isNaN_string.calls (a0:ByteArray) (r:Bool) (w:World) (h:cmp_isNaN_string.f a0=some r) :
  Calls Try.prog 136 #[.string a0] w fun e w'=>e=.returned (.bool r)∧Drawn0 w w':=by
 have H:(some (a0.toList != a0.toList))=some r:=h;clear h;obtain rfl:=Option.some.inj H
 go_enter Try.func136,Try.ntmps136
 go_wp2
 go_ret
 exact ⟨fg,by repeat (first|exact Drawn0.refl _|apply Drawn0.step)⟩
set_option maxHeartbeats 8000000 in
set_option maxRecDepth 100000 in
theorem cmp_Compare_string.calls (a0:ByteArray) (a1:ByteArray) (r:Int) (w:World) (h:cmp_Compare_string.f a0 a1=some r) :
  Calls Try.prog 117 #[.string a0,.string a1] w fun e w'=>e=.returned (.int .i64 r)∧Drawn0 w w':=by
 have H:((cmp_isNaN_string.f a0).bind fun t326=>((cmp_isNaN_string.f a1).bind fun t327=>(if t326=true then (if t327=true then (some 0) else (some (-1))) else (if t327=true then (some 1) else (if (Op.bytesLess a0.toList a1.toList)=true then (some (-1)) else (if (Op.bytesLess a1.toList a0.toList)=true then (some 1) else (some 0)))))))=some r:=h;clear h;replace H:=Option.bind_eq_some_iff.mp H;obtain ⟨t326,A30,H⟩:=H;replace H:((cmp_isNaN_string.f a1).bind fun t327=>(if t326=true then (if t327=true then (some 0) else (some (-1))) else (if t327=true then (some 1) else (if (Op.bytesLess a0.toList a1.toList)=true then (some (-1)) else (if (Op.bytesLess a1.toList a0.toList)=true then (some 1) else (some 0))))))=some r:=H;have A3:=am A30;clear A30
 go_enter Try.func117,Try.ntmps117
 try go_wp2_with (fail)
 go_at_call 136;(with_reducible refine (cmp_isNaN_string.calls a0 t326 _ A3.out).mono ?_);rintro e w' ⟨rfl,⟨nd,rfl⟩⟩;replace H:=Option.bind_eq_some_iff.mp H;obtain ⟨t327,A40,H⟩:=H;replace H:(if t326=true then (if t327=true then (some 0) else (some (-1))) else (if t327=true then (some 1) else (if (Op.bytesLess a0.toList a1.toList)=true then (some (-1)) else (if (Op.bytesLess a1.toList a0.toList)=true then (some 1) else (some 0)))))=some r:=H;have A4:=am A40;clear A40
 try go_wp2_with (fail)
 go_at_call 136;(with_reducible refine (cmp_isNaN_string.calls a1 t327 _ A4.out).mono ?_);rintro e w' ⟨rfl,⟨nd,rfl⟩⟩
 by_cases c5:t326=true
 ·subst c5
  have H1:(if t327=true then (some 0) else (some (-1)))=some r:=by rw [if_pos rfl] at H;exact H
  clear H;have H:=H1;clear H1
  by_cases c6:t327=true
  ·subst c6
   have H1:(some 0)=some r:=by rw [if_pos rfl] at H;exact H
   clear H;have H:=H1;clear H1;obtain rfl:=Option.some.inj H
   go_wp2
   go_ret
   exact ⟨fg,by repeat (first|exact Drawn0.refl _|apply Drawn0.step)⟩
  ·replace c6:=Bool.eq_false_iff.mpr c6;subst c6
   have H1:(some (-1))=some r:=by rw [if_neg (show ¬ (false=true) by decide)] at H;exact H
   clear H;have H:=H1;clear H1;obtain rfl:=Option.some.inj H
   go_wp2
   go_ret
   exact ⟨fg,by repeat (first|exact Drawn0.refl _|apply Drawn0.step)⟩
 ·replace c5:=Bool.eq_false_iff.mpr c5;subst c5
  have H1:(if t327=true then (some 1) else (if (Op.bytesLess a0.toList a1.toList)=true then (some (-1)) else (if (Op.bytesLess a1.toList a0.toList)=true then (some 1) else (some 0))))=some r:=by rw [if_neg (show ¬ (false=true) by decide)] at H;exact H
  clear H;have H:=H1;clear H1
  by_cases c7:t327=true
  ·subst c7
   have H1:(some 1)=some r:=by rw [if_pos rfl] at H;exact H
   clear H;have H:=H1;clear H1;obtain rfl:=Option.some.inj H
   go_wp2
   go_ret
   exact ⟨fg,by repeat (first|exact Drawn0.refl _|apply Drawn0.step)⟩
  ·replace c7:=Bool.eq_false_iff.mpr c7;subst c7
   have H1:(if (Op.bytesLess a0.toList a1.toList)=true then (some (-1)) else (if (Op.bytesLess a1.toList a0.toList)=true then (some 1) else (some 0)))=some r:=by rw [if_neg (show ¬ (false=true) by decide)] at H;exact H
   clear H;have H:=H1;clear H1
   by_cases c8:(Op.bytesLess a0.toList a1.toList)=true
   ·rw [if_pos c8] at H;have c8b0:(Op.bytesLess a0.toList a1.toList)=true:=c8;clear c8;obtain rfl:=Option.some.inj H
    go_wp2
    go_ret
    exact ⟨fg,by repeat (first|exact Drawn0.refl _|apply Drawn0.step)⟩
   ·rw [if_neg c8] at H
    have c8b0:(Op.bytesLess a0.toList a1.toList)=false:=by simpa using c8
    clear c8
    by_cases c9:(Op.bytesLess a1.toList a0.toList)=true
    ·rw [if_pos c9] at H;have c9b0:(Op.bytesLess a1.toList a0.toList)=true:=c9;clear c9;obtain rfl:=Option.some.inj H
     go_wp2
     go_ret
     exact ⟨fg,by repeat (first|exact Drawn0.refl _|apply Drawn0.step)⟩
    ·rw [if_neg c9] at H
     have c9b0:(Op.bytesLess a1.toList a0.toList)=false:=by simpa using c9
     clear c9;obtain rfl:=Option.some.inj H
     go_wp2
     go_ret
     exact ⟨fg,by repeat (first|exact Drawn0.refl _|apply Drawn0.step)⟩
set_option maxHeartbeats 8000000 in
set_option maxRecDepth 100000 in
theorem cmp_Or_int.calls (k:Nat) (A0:Option Addr) (c0:Nat) (l0:List Int) (r:Int) (w:World) (hr0:Kd.C (Kd.int .i64) w A0 l0.length l0) (hc0:l0.length≤c0) (h:cmp_Or_int.f k l0=some r) :
  Calls Try.prog 116 #[.slice A0 l0.length c0] w fun e w'=>e=.returned (.int .i64 r)∧Drawn0 w w':=by
 have HR0:=am hr0;have HC0:=am hc0;clear hr0 hc0;have H:(cmp_Or_int.l0 k 0 l0 (l0.length:Int) 0)=some r:=h;clear h;have H':=am H;clear H
 go_enter Try.func116,Try.ntmps116
 go_wp2
 go_loopg [8] k (fun kq v8 w'=>∃ (x8_1:Int),v8=.int .i64 x8_1∧Aside0 (cmp_Or_int.l0 kq 0 l0 (l0.length:Int) x8_1=some r)∧Aside0 (kq≤k)∧Drawn0 w w')
 case atStart=>exact ⟨(0),fg,H',⟨Nat.le_refl _⟩,by repeat (first|exact Drawn0.refl _|apply Drawn0.step)⟩
 case round =>
  clear H'
  try clear c1
  obtain ⟨x8_1,rfl,HA,HK1,⟨m1,rfl⟩⟩:=hrel
  cases gk with
  | zero=>exact absurd HA.out (by simp [cmp_Or_int.l0])
  | succ k1 =>
   have H:=HA.out;clear HA;simp only [cmp_Or_int.l0] at H
   by_cases c2:x8_1<(l0.length:Int)
   ·rw [if_pos c2] at H;have c2b0:decide (x8_1<(l0.length:Int))=true:=decide_eq_true c2;clear c2
    by_cases c3:0≤x8_1
    ·rw [if_pos c3] at H;have c3b0:decide (0≤x8_1)=true:=decide_eq_true c3;clear c3
     by_cases c4:x8_1<(l0.length:Int)
     ·rw [if_pos c4] at H;have c4b0:decide (x8_1<(l0.length:Int))=true:=decide_eq_true c4;clear c4
      by_cases c5:(rd l0 x8_1)=0
      ·rw [if_pos c5] at H;have c5b0:((rd l0 x8_1) == 0)=true:=beq_iff_eq.mpr c5;have c5b1:((rd l0 x8_1) != 0)=false:=bne_eq_false_iff_eq.mpr c5;clear c5;have H':=am H;clear H;have p328:0≤(x8_1:Int):=oa;have q328:x8_1<(l0.length:Int):=oa;obtain ⟨ad328,e328,hx328_0⟩:=Kd.at_int HR0.out x8_1 p328 q328
       cases e328
       replace p328:=eq_true p328;replace q328:=eq_true q328
       go_wp2
       go_roundg k1
       case measure=>have:=HK1.out;omega
       case rel=>exact ⟨(wrap64 (x8_1+1)),fg,H',⟨by have:=HK1.out;omega⟩,by repeat (first|exact Drawn0.refl _|apply Drawn0.step)⟩
      ·rw [if_neg c5] at H;have c5b0:((rd l0 x8_1) == 0)=false:=beq_eq_false_iff_ne.mpr c5;have c5b1:((rd l0 x8_1) != 0)=true:=bne_iff_ne.mpr c5;obtain rfl:=Option.some.inj H;have p328:0≤(x8_1:Int):=oa;have q328:x8_1<(l0.length:Int):=oa;obtain ⟨ad328,e328,hx328_0⟩:=Kd.at_int HR0.out x8_1 p328 q328
       cases e328
       replace p328:=eq_true p328;replace q328:=eq_true q328
       go_wp2
       go_ret
       exact ⟨fg,by repeat (first|exact Drawn0.refl _|apply Drawn0.step)⟩
     ·rw [if_neg c4] at H
      exact absurd H (by simp)
    ·rw [if_neg c3] at H
     exact absurd H (by simp)
   ·rw [if_neg c2] at H;have c2b0:decide (x8_1<(l0.length:Int))=false:=decide_eq_false c2;clear c2;obtain rfl:=Option.some.inj H
    go_wp2
    go_ret
    exact ⟨fg,by repeat (first|exact Drawn0.refl _|apply Drawn0.step)⟩
end Go.Proofs.Ytjjfjgdhloideaa.QI
namespace Go.Proofs.Ytjjfjgdhloideaa.QI
open Go.RowKit Go.Proofs.YtjjfjgdhloideaaW.PrintWords Go.Proofs.YtjjfjgdhloideaaW.PrintLast Go.Proofs.YtjjfjgdhloideaaW.PrintMore
attribute [local go_sem] max2_int min2_int max_two min_two max_three min_three max_four min_four   -- for this text's walks alone
set_option linter.unusedVariables false
set_option linter.unusedSimpArgs false
def impl_crossOrder.T1 : Bool × List (List Nat × List Nat) := (true, [([], []), ([0], [0]), ([], []), ([2], [2]), ([1, 3], [1, 3]), ([], []), ([5], [5]), ([], []), ([7], [7]), ([6, 8, 4], [6, 8]), ([4, 9], [4, 9]), ([10, 9], [10]), ([11, 11, 0, 1, 2, 3, 4, 5, 6, 7, 8, 9, 10, 11], [11])])
def impl_crossOrder.B1 : List Nat := [0, 1, 0, 4, 15, 0, 32, 0, 128, 511, 1023, 2047, 4095]
theorem impl_crossOrder.tab1 : rtab .any (opsOf Try.f102 1) = impl_crossOrder.T1 := by kernel_rfl
theorem impl_crossOrder.bits1 : waitsOk impl_crossOrder.T1.2 impl_crossOrder.B1 = true := by kernel_rfl
set_option maxHeartbeats 8000000 in
set_option maxRecDepth 100000 in
theorem impl_crossOrder.calls (k:Nat) (a0_0:ByteArray) (a0_1:ByteArray) (a0_2:ByteArray) (a1_0:ByteArray) (a1_1:ByteArray) (a1_2:ByteArray) (r:Int) (w:World) (h:impl_crossOrder.f k a0_0 a0_1 a0_2 a1_0 a1_1 a1_2=some r) :
  Calls Try.prog 102 #[.agg #[.string a0_0,.string a0_1,.string a0_2],.agg #[.string a1_0,.string a1_1,.string a1_2]] w fun e w'=>e=.returned (.int .i64 r)∧Below w.heap.size w w':=by
 have hu102:=Try.underlying102;have HB:=am (Below.refl w.heap.size w);have H:((cmp_Compare_string.f a0_0 a1_0).bind fun t331=>((cmp_Compare_string.f a0_1 a1_1).bind fun t332=>((cmp_Or_int.f k (([t331,t332]:List Int))).bind fun t336=>(some t336))))=some r:=h;clear h;replace H:=Option.bind_eq_some_iff.mp H;obtain ⟨t331,A30,H⟩:=H;replace H:((cmp_Compare_string.f a0_1 a1_1).bind fun t332=>((cmp_Or_int.f k (([t331,t332]:List Int))).bind fun t336=>(some t336)))=some r:=H;have A3:=am A30;clear A30;replace H:=Option.bind_eq_some_iff.mp H;obtain ⟨t332,A40,H⟩:=H;replace H:((cmp_Or_int.f k (([t331,t332]:List Int))).bind fun t336=>(some t336))=some r:=H;have A4:=am A40;clear A40;obtain ⟨y333,hy333⟩:∃ y_:List Int,y_=(([t331,t332]:List Int)):=⟨_,rfl⟩
 replace H:((cmp_Or_int.f k y333).bind fun t336=>(some t336))=some r:=by first|(rw [hy333];with_reducible exact H)|(have H2_:=(Option.bind_some _ _).symm.trans H;rw [hy333];with_reducible exact H2_)|(have H2_:=(Option.bind_some _ _).symm.trans H;with_reducible exact H2_)|with_reducible exact H|(rw [hy333];exact H)|exact H
 have Ny333:=am hy333;clear hy333;replace H:=Option.bind_eq_some_iff.mp H;obtain ⟨t336,A50,H⟩:=H;replace H:(some t336)=some r:=H;have A5:=am A50;clear A50;obtain rfl:=Option.some.inj H
 go_enter Try.func102,Try.ntmps102
 try go_wp2_with (first|((with_reducible refine gate_dst (N:=2) rfl ?_);refine bx 2 (cs:=#[.string a0_0,.string a0_1,.string a0_2]) (t:=102) ?_;intro gb329 hg w6 hbox hb;have BK329:=am (hbox);have GW329:=am ((gs hg (bs HB)));have GE329:=am ((gs hg (bs HB)));replace HB:=am (below_step (bs HB) hb);clear hb hbox hg)|((with_reducible refine gate_dst (N:=3) rfl ?_);refine bx 3 (cs:=#[.string a1_0,.string a1_1,.string a1_2]) (t:=102) ?_;intro gb330 hg w7 hbox hb;have BK330:=am (hbox);have GW330:=am ((gs hg (bs HB)));have GE330:=am ((gs hg (bs HB)));replace HB:=am (below_step (bs HB) hb);have NB329_330:=am ((gn hg (ks BK329)));have NB330_329:=am ((gm hg (ks BK329)));replace BK329:=am (blk_below (ks BK329) hb);clear hb hbox hg))
 replace BK329:=am (blk_drew BK329.out);replace BK330:=am (blk_drew BK330.out);replace HB:=am (below_drew1 HB.out);refine start_ (n:=13) (S:=fun w'=>qk3a w' gb329 (.string a0_0) (.string a0_1) (.string a0_2) (qk3 w' gb330 (.string a1_0) (.string a1_1) (.string a1_2))) (ds:=[]) _ (by kernel_rfl) rfl rfl (qb3a BK329 (qb3 BK330)) (fun hHeld=>?_);refine with_tabW impl_crossOrder.tab1 impl_crossOrder.bits1 (fun HT_ HW_=>?_)
 generalize w7.drew=w8 at BK329 BK330 HB hHeld ⊢
 refine pA 0 5 HT_ ?_;refine pA 2 7 HT_ ?_;refine pA 5 10 HT_ ?_;refine pA 7 12 HT_ ?_;refine tA 1 6 HT_ HW_ hHeld ?_;refine tA 3 8 HT_ HW_ hHeld ?_;refine tA 6 11 HT_ HW_ hHeld ?_;refine tA 8 13 HT_ HW_ hHeld ?_;refine oA 4 9 HT_ (fun K hK=>?_);refine gA Try.func117 #[.string a0_0,.string a1_0] ?_;(with_reducible refine (cmp_Compare_string.calls a0_0 a1_0 t331 _ A3.out).mono ?_);rintro e w' ⟨rfl,⟨nd,rfl⟩⟩;refine ⟨_,rfl,?_⟩;refine hK.out _ _ (qb3a BK329 (qb3 BK330)) (fun hHeld=>?_);clear hK K;refine nA 9 ?_;refine oA 9 14 HT_ (fun K hK=>?_);refine gA Try.func117 #[.string a0_1,.string a1_1] ?_;(with_reducible refine (cmp_Compare_string.calls a0_1 a1_1 t332 _ A4.out).mono ?_);rintro e w' ⟨rfl,⟨nd,rfl⟩⟩;refine ⟨_,rfl,?_⟩;refine hK.out _ _ (qb3a BK329 (qb3 BK330)) (fun hHeld=>?_);clear hK K;refine nA 14 ?_;refine oA 10 15 HT_ (fun K hK=>?_);refine Kd.R_lit_step (Kd.int .i64) _ 3 ?hg (N:=15) ?hd (xs:=([t331,t332]:List Int)) (inner:=[.int .i64 t331,.int .i64 t332]) (ok:=fun _=>True) (okp:=fun _=>True) ?hr ?hp (fun _ hk=>hk) trivial (Below.refl _ _) (Nat.le_refl _) (by simp) ?_;(case hd=>rfl);(case hg=>rfl);(case hr=>first|(go_simp;done)|(go_simp;rfl));(case hp=>exact (Reps.one (show Kd.M (Kd.int .i64) _ _ _ t331 [.int .i64 t331] from rfl) (Reps.one (show Kd.M (Kd.int .i64) _ _ _ t332 [.int .i64 t332] from rfl) (Reps.none _ _))));intro v334 w9 ho10 hb hg_ hnew_;clear hg_ hnew_
 (first|rw [← Ny333.out] at ho10|(simp only [Int.reduceToNat] at ho10;rw [← Ny333.out] at ho10))
 have HO335:=am (Kd.R_lower ho10 (below_size (bs HB)));replace BK329:=am (blk_below (ks BK329) hb);replace BK330:=am (blk_below (ks BK330) hb);replace HB:=am (below_step (bs HB) hb);clear hb ho10;obtain ⟨Ao11,co11,eo11⟩:=Kd.R_slice HO335.out
 (first|subst eo11|(injection eo11 with f1_ f2_ f3_;have f4_:=f1_.symm;have f5_:=f3_.symm;clear f1_ f2_ f3_;subst f4_;subst f5_))
 refine hK.out _ _ (qb3a BK329 (qb3 BK330)) (fun hHeld=>?_);clear hK K;refine nA 15 ?_;refine oA 11 16 HT_ (fun K hK=>?_);refine gA Try.func116 #[.slice Ao11 y333.length co11] ?_;(with_reducible refine (cmp_Or_int.calls k _ _ y333 t336 _ ?side1 ?side2 A5.out).mono ?_)
 (case side1=>repeat (first|exact (Kd.R_reads' HO335.out).2.2|(with_reducible refine Kd.C_alloc ?_ _)|(with_reducible refine Kd.C_drewN ?_ _)|(with_reducible refine Kd.C_drew ?_)))
 (case side2=>exact (Kd.R_reads' HO335.out).2.1)
 rintro e w' ⟨rfl,⟨nd,rfl⟩⟩;refine ⟨_,rfl,?_⟩;refine hK.out _ _ (qb3a BK329 (qb3 BK330)) (fun hHeld=>?_);clear hK K;refine nA 16 ?_;refine pA 12 4 HT_ ?_;refine done_ (done_of HT_.out (by kernel_rfl)) ?_
 try go_wp2
 go_ret
 exact ⟨ff,bs HB⟩
end Go.Proofs.Ytjjfjgdhloideaa.QI
