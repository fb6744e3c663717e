-- Merged by a program of this session (wip/tool/pack.py) out of its own texts for this claim.
import Derived.Test.YtjjfjgdhloideaaKFnExactGateRight0
import Derived.Test.YtjjfjgdhloideaaKFnExactGateRight1
import Derived.Test.YtjjfjgdhloideaaKFnExactGateRight2
import Derived.Test.YtjjfjgdhloideaaKFnExactGateRight3
import Derived.Test.YtjjfjgdhloideaaKFnExactGateRight7
namespace Go.Proofs.Ytjjfjgdhloideaa.QI
open Go.RowKit Go.Proofs.YtjjfjgdhloideaaW.PrintWords Go.Proofs.YtjjfjgdhloideaaW.PrintLast Go.Proofs.YtjjfjgdhloideaaW.PrintMore
attribute [local go_sem] max2_int min2_int max_two min_two max_three min_three max_four min_four   -- for this text's walks alone
set_option linter.unusedVariables false
set_option linter.unusedSimpArgs false
def spec_CrossRight.T7 : Bool × List (List Nat × List Nat) := (true, [([], []), ([0], [0]), ([1], [1]), ([2], [2]), ([3, 2], [3]), ([4], [4]), ([5, 4], [4, 5]), ([6, 4, 4], [4, 6]), ([7, 4], [4, 7]), ([4, 8], [4, 8]), ([9, 7], [9]), ([10], [10]), ([11, 10], [10, 11]), ([12, 10, 10], [10, 12]), ([13, 10], [10, 13]), ([10, 14], [10, 14]), ([15, 13], [15]), ([16], [16]), ([17, 16], [16, 17]), ([18, 16, 16], [16, 18]), ([19], [19]), ([19], [19]), ([21, 19], [19, 21]), ([20, 22, 19], [19, 20, 22]), ([23, 19], [19, 23]), ([19], [19]), ([24, 25, 19, 19], [19, 24, 25]), ([26, 19], [19, 26]), ([19, 27, 16], [16, 19, 27]), ([16, 28], [16, 28])])
def spec_CrossRight.B7 : List Nat := [0, 1, 3, 7, 15, 31, 63, 127, 255, 511, 1023, 2047, 4095, 8191, 16383, 32767, 65535, 131071, 262143, 524287, 1048575, 1048575, 3145727, 8388607, 16777215, 1048575, 67108863, 134217727, 268435455, 536870911]
theorem spec_CrossRight.tab7 : rtab .any (opsOf Try.f56 7) = spec_CrossRight.T7 := by kernel_rfl
theorem spec_CrossRight.bits7 : waitsOk spec_CrossRight.T7.2 spec_CrossRight.B7 = true := by kernel_rfl
def spec_CrossRight.T12 : Bool × List (List Nat × List Nat) := (true, [([], []), ([], []), ([0, 1], [0, 1]), ([2], [2]), ([3], [3]), ([], []), ([5], [5]), ([4, 6], [4, 6]), ([7], [7]), ([8], [8]), ([8], [8]), ([9, 10, 8], [8, 9, 10]), ([11, 8], [8, 11]), ([12, 8], [8, 12]), ([8], [8]), ([14, 8], [8, 14]), ([13, 15, 8], [8, 13, 15]), ([8, 16], [8, 16])])
def spec_CrossRight.B12 : List Nat := [0, 0, 3, 7, 15, 0, 32, 127, 255, 511, 511, 2047, 4095, 8191, 511, 16895, 65535, 131071]
theorem spec_CrossRight.tab12 : rtab .any (opsOf Try.f56 12) = spec_CrossRight.T12 := by kernel_rfl
theorem spec_CrossRight.bits12 : waitsOk spec_CrossRight.T12.2 spec_CrossRight.B12 = true := by kernel_rfl
set_option maxHeartbeats 8000000 in
set_option maxRecDepth 100000 in
theorem spec_CrossRight.calls (k:Nat) (A0:Option Addr) (c0:Nat) (l0:List (S102)) (r:Bool) (w:World) (hr0:Kd.C k102 w A0 l0.length l0) (hc0:l0.length≤c0) (h:spec_CrossRight.f k l0=some r) :
  Calls Try.prog 56 #[.slice A0 l0.length c0] w fun e w'=>e=.returned (.bool r)∧Below w.heap.size w w':=by
 have hu102:=Try.underlying102;have HR0:=am hr0;have HC0:=am hc0;clear hr0 hc0;have HB:=am (Below.refl w.heap.size w);have H:(if (l0.length:Int)>200 then (some false) else (spec_CrossRight.l0 k l0 0))=some r:=h;clear h
 by_cases c2:(l0.length:Int)>200
 ·rw [if_pos c2] at H;have c2b0:decide (200<(l0.length:Int))=true:=decide_eq_true c2;have c2b1:decide (200<l0.length)=true:=decide_eq_true (by omega);clear c2;obtain rfl:=Option.some.inj H
  go_enter Try.func56,Try.ntmps56
  go_wp2
  go_ret
  exact ⟨ff,bs HB⟩
 ·rw [if_neg c2] at H;have c2b0:decide (200<(l0.length:Int))=false:=decide_eq_false c2;have c2b1:decide (200<l0.length)=false:=decide_eq_false (by omega);clear c2;have H':=am H;clear H
  go_enter Try.func56,Try.ntmps56
  go_wp2
  go_loopg [3] k (fun kq v3 w'=>∃ (x3_1:Int),v3=.int .i64 x3_1∧Aside0 (spec_CrossRight.l0 kq l0 x3_1=some r)∧Aside0 (kq≤k)∧Aside0 (Below w.heap.size w w'))
  case atStart=>exact ⟨(0),fg,H',⟨Nat.le_refl _⟩,⟨bs HB⟩⟩
  case round =>
   clear H'
   try clear c2
   try clear c2b0
   try clear c2b1
   try clear p2
   obtain ⟨x3_1,rfl,HA,HK1,HB⟩:=hrel
   cases gk with
   | zero=>exact absurd HA.out (by simp [spec_CrossRight.l0])
   | succ k1 =>
    have H:=HA.out;clear HA;simp only [spec_CrossRight.l0] at H
    by_cases c3:x3_1<(l0.length:Int)
    ·rw [if_pos c3] at H;have c3b0:decide (x3_1<(l0.length:Int))=true:=decide_eq_true c3;clear c3
     by_cases c4:0≤x3_1
     ·rw [if_pos c4] at H;have c4b0:decide (0≤x3_1)=true:=decide_eq_true c4;clear c4;have HC5:=am H;clear H;have p253:0≤(x3_1:Int):=oa;have q253:x3_1<(l0.length:Int):=oa;obtain ⟨ad253,e253,hx253_0,hx253_1,hx253_2⟩:=at_T102 HR0.out x3_1 p253 q253
      cases e253
      replace hx253_0:=cb HB hx253_0;replace hx253_1:=cb HB hx253_1;replace hx253_2:=cb HB hx253_2;replace p253:=eq_true p253;replace q253:=eq_true q253
      go_upto_region 7 with (first|((with_reducible refine gate_dst (N:=4) rfl ?_);refine bx 4 (cs:=#[.string (⟨#[]⟩:ByteArray),.string (⟨#[]⟩:ByteArray),.string (⟨#[]⟩:ByteArray)]) (t:=102) ?_;intro gb254 hg w6 hbox hb;have BK254:=am (hbox);have GW254:=am ((gs hg (bs HB)));have GE254:=am ((gs hg (bs HB)));replace HB:=am (below_step (bs HB) hb);clear hb hbox hg;obtain ⟨hcz7_0,hcz7_1,hcz7_2,hfz7_0,hfz7_1,hfz7_2⟩:=cf3 BK254))
      (try simp only [Act.put,List.setIfInBounds_toArray,List.set_cons_zero,List.set_cons_succ])
      go_cut [48] (fun v48 wc=>∃ (kq:Nat) (x48_4:Bool),v48=.bool x48_4∧Aside0 (spec_CrossRight.j1 kq l0 x3_1 x48_4 ((rd_T102 l0 x3_1).f0) ((rd_T102 l0 x3_1).f1) ((rd_T102 l0 x3_1).f2)=some r)∧Aside0 (kq≤k1)∧Aside0 (wc.heap[gb254]? = some (.cells #[.string ((rd_T102 l0 x3_1).f0),.string ((rd_T102 l0 x3_1).f1),.string ((rd_T102 l0 x3_1).f2)] 102 (0,0)))∧Aside0 (Below w.heap.size w wc))
      case first =>
       have H:=HC5.out;clear HC5;replace H:=Option.bind_eq_some_iff.mp H;obtain ⟨t255,A80,H⟩:=H;replace H:(if t255=true then ((spec_l01Name.f k1 ((rd_T102 l0 x3_1).f1)).bind fun t256=>(if t256=true then ((spec_l01Name.f k1 ((rd_T102 l0 x3_1).f2)).bind fun t257=>(if t257=true then (if x3_1>0 then (if 0≤(wrap64 (x3_1 - 1)) then (if (wrap64 (x3_1 - 1))<(l0.length:Int) then ((spec_l08Before.f ((rd_T102 l0 (wrap64 (x3_1 - 1))).f0) ((rd_T102 l0 (wrap64 (x3_1 - 1))).f1) ((rd_T102 l0 (wrap64 (x3_1 - 1))).f2) ((rd_T102 l0 x3_1).f0) ((rd_T102 l0 x3_1).f1) ((rd_T102 l0 x3_1).f2)).bind fun t259=>(spec_CrossRight.j1 k1 l0 x3_1 (!t259) ((rd_T102 l0 x3_1).f0) ((rd_T102 l0 x3_1).f1) ((rd_T102 l0 x3_1).f2))) else (none)) else (none)) else (spec_CrossRight.j1 k1 l0 x3_1 false ((rd_T102 l0 x3_1).f0) ((rd_T102 l0 x3_1).f1) ((rd_T102 l0 x3_1).f2))) else (spec_CrossRight.j1 k1 l0 x3_1 true ((rd_T102 l0 x3_1).f0) ((rd_T102 l0 x3_1).f1) ((rd_T102 l0 x3_1).f2)))) else (spec_CrossRight.j1 k1 l0 x3_1 true ((rd_T102 l0 x3_1).f0) ((rd_T102 l0 x3_1).f1) ((rd_T102 l0 x3_1).f2)))) else (spec_CrossRight.j1 k1 l0 x3_1 true ((rd_T102 l0 x3_1).f0) ((rd_T102 l0 x3_1).f1) ((rd_T102 l0 x3_1).f2)))=some r:=H;have A8:=am A80;clear A80
       by_cases c9:t255=true
       ·subst c9
        have H1:((spec_l01Name.f k1 ((rd_T102 l0 x3_1).f1)).bind fun t256=>(if t256=true then ((spec_l01Name.f k1 ((rd_T102 l0 x3_1).f2)).bind fun t257=>(if t257=true then (if x3_1>0 then (if 0≤(wrap64 (x3_1 - 1)) then (if (wrap64 (x3_1 - 1))<(l0.length:Int) then ((spec_l08Before.f ((rd_T102 l0 (wrap64 (x3_1 - 1))).f0) ((rd_T102 l0 (wrap64 (x3_1 - 1))).f1) ((rd_T102 l0 (wrap64 (x3_1 - 1))).f2) ((rd_T102 l0 x3_1).f0) ((rd_T102 l0 x3_1).f1) ((rd_T102 l0 x3_1).f2)).bind fun t259=>(spec_CrossRight.j1 k1 l0 x3_1 (!t259) ((rd_T102 l0 x3_1).f0) ((rd_T102 l0 x3_1).f1) ((rd_T102 l0 x3_1).f2))) else (none)) else (none)) else (spec_CrossRight.j1 k1 l0 x3_1 false ((rd_T102 l0 x3_1).f0) ((rd_T102 l0 x3_1).f1) ((rd_T102 l0 x3_1).f2))) else (spec_CrossRight.j1 k1 l0 x3_1 true ((rd_T102 l0 x3_1).f0) ((rd_T102 l0 x3_1).f1) ((rd_T102 l0 x3_1).f2)))) else (spec_CrossRight.j1 k1 l0 x3_1 true ((rd_T102 l0 x3_1).f0) ((rd_T102 l0 x3_1).f1) ((rd_T102 l0 x3_1).f2))))=some r:=by rw [if_pos rfl] at H;exact H
        clear H;have H:=H1;clear H1;replace H:=Option.bind_eq_some_iff.mp H;obtain ⟨t256,A100,H⟩:=H;replace H:(if t256=true then ((spec_l01Name.f k1 ((rd_T102 l0 x3_1).f2)).bind fun t257=>(if t257=true then (if x3_1>0 then (if 0≤(wrap64 (x3_1 - 1)) then (if (wrap64 (x3_1 - 1))<(l0.length:Int) then ((spec_l08Before.f ((rd_T102 l0 (wrap64 (x3_1 - 1))).f0) ((rd_T102 l0 (wrap64 (x3_1 - 1))).f1) ((rd_T102 l0 (wrap64 (x3_1 - 1))).f2) ((rd_T102 l0 x3_1).f0) ((rd_T102 l0 x3_1).f1) ((rd_T102 l0 x3_1).f2)).bind fun t259=>(spec_CrossRight.j1 k1 l0 x3_1 (!t259) ((rd_T102 l0 x3_1).f0) ((rd_T102 l0 x3_1).f1) ((rd_T102 l0 x3_1).f2))) else (none)) else (none)) else (spec_CrossRight.j1 k1 l0 x3_1 false ((rd_T102 l0 x3_1).f0) ((rd_T102 l0 x3_1).f1) ((rd_T102 l0 x3_1).f2))) else (spec_CrossRight.j1 k1 l0 x3_1 true ((rd_T102 l0 x3_1).f0) ((rd_T102 l0 x3_1).f1) ((rd_T102 l0 x3_1).f2)))) else (spec_CrossRight.j1 k1 l0 x3_1 true ((rd_T102 l0 x3_1).f0) ((rd_T102 l0 x3_1).f1) ((rd_T102 l0 x3_1).f2)))=some r:=H;have A10:=am A100;clear A100
        by_cases c11:t256=true
        ·subst c11
         have H1:((spec_l01Name.f k1 ((rd_T102 l0 x3_1).f2)).bind fun t257=>(if t257=true then (if x3_1>0 then (if 0≤(wrap64 (x3_1 - 1)) then (if (wrap64 (x3_1 - 1))<(l0.length:Int) then ((spec_l08Before.f ((rd_T102 l0 (wrap64 (x3_1 - 1))).f0) ((rd_T102 l0 (wrap64 (x3_1 - 1))).f1) ((rd_T102 l0 (wrap64 (x3_1 - 1))).f2) ((rd_T102 l0 x3_1).f0) ((rd_T102 l0 x3_1).f1) ((rd_T102 l0 x3_1).f2)).bind fun t259=>(spec_CrossRight.j1 k1 l0 x3_1 (!t259) ((rd_T102 l0 x3_1).f0) ((rd_T102 l0 x3_1).f1) ((rd_T102 l0 x3_1).f2))) else (none)) else (none)) else (spec_CrossRight.j1 k1 l0 x3_1 false ((rd_T102 l0 x3_1).f0) ((rd_T102 l0 x3_1).f1) ((rd_T102 l0 x3_1).f2))) else (spec_CrossRight.j1 k1 l0 x3_1 true ((rd_T102 l0 x3_1).f0) ((rd_T102 l0 x3_1).f1) ((rd_T102 l0 x3_1).f2))))=some r:=by rw [if_pos rfl] at H;exact H
         clear H;have H:=H1;clear H1;replace H:=Option.bind_eq_some_iff.mp H;obtain ⟨t257,A120,H⟩:=H;replace H:(if t257=true then (if x3_1>0 then (if 0≤(wrap64 (x3_1 - 1)) then (if (wrap64 (x3_1 - 1))<(l0.length:Int) then ((spec_l08Before.f ((rd_T102 l0 (wrap64 (x3_1 - 1))).f0) ((rd_T102 l0 (wrap64 (x3_1 - 1))).f1) ((rd_T102 l0 (wrap64 (x3_1 - 1))).f2) ((rd_T102 l0 x3_1).f0) ((rd_T102 l0 x3_1).f1) ((rd_T102 l0 x3_1).f2)).bind fun t259=>(spec_CrossRight.j1 k1 l0 x3_1 (!t259) ((rd_T102 l0 x3_1).f0) ((rd_T102 l0 x3_1).f1) ((rd_T102 l0 x3_1).f2))) else (none)) else (none)) else (spec_CrossRight.j1 k1 l0 x3_1 false ((rd_T102 l0 x3_1).f0) ((rd_T102 l0 x3_1).f1) ((rd_T102 l0 x3_1).f2))) else (spec_CrossRight.j1 k1 l0 x3_1 true ((rd_T102 l0 x3_1).f0) ((rd_T102 l0 x3_1).f1) ((rd_T102 l0 x3_1).f2)))=some r:=H;have A12:=am A120;clear A120
         by_cases c13:t257=true
         ·subst c13
          have H1:(if x3_1>0 then (if 0≤(wrap64 (x3_1 - 1)) then (if (wrap64 (x3_1 - 1))<(l0.length:Int) then ((spec_l08Before.f ((rd_T102 l0 (wrap64 (x3_1 - 1))).f0) ((rd_T102 l0 (wrap64 (x3_1 - 1))).f1) ((rd_T102 l0 (wrap64 (x3_1 - 1))).f2) ((rd_T102 l0 x3_1).f0) ((rd_T102 l0 x3_1).f1) ((rd_T102 l0 x3_1).f2)).bind fun t259=>(spec_CrossRight.j1 k1 l0 x3_1 (!t259) ((rd_T102 l0 x3_1).f0) ((rd_T102 l0 x3_1).f1) ((rd_T102 l0 x3_1).f2))) else (none)) else (none)) else (spec_CrossRight.j1 k1 l0 x3_1 false ((rd_T102 l0 x3_1).f0) ((rd_T102 l0 x3_1).f1) ((rd_T102 l0 x3_1).f2)))=some r:=by rw [if_pos rfl] at H;exact H
          clear H;have H:=H1;clear H1
          by_cases c14:x3_1>0
          ·rw [if_pos c14] at H;have c14b0:decide (0<x3_1)=true:=decide_eq_true c14;clear c14
           (first|rw [c14b0]|(simp only [i64_w,i32_w];rw [c14b0])|skip)
           obtain ⟨ji15,hji15⟩:∃ j_:Int,(wrap64 (x3_1 - 1))=j_:=⟨_,rfl⟩
           replace H:(if 0≤(ji15) then (if (ji15)<(l0.length:Int) then ((spec_l08Before.f ((rd_T102 l0 (ji15)).f0) ((rd_T102 l0 (ji15)).f1) ((rd_T102 l0 (ji15)).f2) ((rd_T102 l0 x3_1).f0) ((rd_T102 l0 x3_1).f1) ((rd_T102 l0 x3_1).f2)).bind fun t259=>(spec_CrossRight.j1 k1 l0 x3_1 (!t259) ((rd_T102 l0 x3_1).f0) ((rd_T102 l0 x3_1).f1) ((rd_T102 l0 x3_1).f2))) else (none)) else (none))=some r:=by first|(rw [hji15] at H;exact H)|(simp only [hji15] at H ⊢;exact H)
           (try rw [hji15] at A8)
           (try rw [hji15] at A10)
           (try rw [hji15] at A12)
           have hji15w:(IntKind.i64.wrap (x3_1 - 1))=ji15:=(i64_w _).trans hji15
           by_cases c16:0≤(ji15)
           ·rw [if_pos c16] at H;have c16b0:decide (0≤(ji15))=true:=decide_eq_true c16;clear c16
            by_cases c17:(ji15)<(l0.length:Int)
            ·rw [if_pos c17] at H;have c17b0:decide ((ji15)<(l0.length:Int))=true:=decide_eq_true c17;clear c17;replace H:=Option.bind_eq_some_iff.mp H;obtain ⟨t259,A180,H⟩:=H;replace H:(spec_CrossRight.j1 k1 l0 x3_1 (!t259) ((rd_T102 l0 x3_1).f0) ((rd_T102 l0 x3_1).f1) ((rd_T102 l0 x3_1).f2))=some r:=H;have A18:=am A180;clear A180;have H':=am H;clear H
             try go_wp2
             have n0_:Aside0 ((((w6.setCell ⟨gb254,0,none⟩ (.string ((rd_T102 l0 x3_1).f0))).setCell ⟨gb254,1,none⟩ (.string ((rd_T102 l0 x3_1).f1))).setCell ⟨gb254,2,none⟩ (.string ((rd_T102 l0 x3_1).f2))).heap[gb254]? = some (.cells #[.string ((rd_T102 l0 x3_1).f0),.string ((rd_T102 l0 x3_1).f1),.string ((rd_T102 l0 x3_1).f2)] 102 (0,0))):=⟨kp BK254⟩;have n1_:Aside0 (Below w.heap.size w (((w6.setCell ⟨gb254,0,none⟩ (.string ((rd_T102 l0 x3_1).f0))).setCell ⟨gb254,1,none⟩ (.string ((rd_T102 l0 x3_1).f1))).setCell ⟨gb254,2,none⟩ (.string ((rd_T102 l0 x3_1).f2)))):=⟨bs HB⟩;(try clear BK254);(try clear HB)
             generalize (((w6.setCell ⟨gb254,0,none⟩ (.string ((rd_T102 l0 x3_1).f0))).setCell ⟨gb254,1,none⟩ (.string ((rd_T102 l0 x3_1).f1))).setCell ⟨gb254,2,none⟩ (.string ((rd_T102 l0 x3_1).f2)))=w19 at n0_ n1_ ⊢
             have BK254:=n0_;have HB:=n1_;clear n0_ n1_;replace BK254:=am (blk_drew BK254.out);replace HB:=am (below_drew1 HB.out);have p258:0≤((ji15):Int):=oa;have q258:(ji15)<(l0.length:Int):=oa;obtain ⟨ad258,e258,hx258_0,hx258_1,hx258_2⟩:=at_T102 HR0.out (ji15) p258 q258;have hw258_2:=hx258_2;have hw258_1:=hx258_1;have hw258_0:=hx258_0;obtain rfl:ad253=ad258:=(by injection e258);replace hx258_0:=cb HB hx258_0;replace hx258_1:=cb HB hx258_1;replace hx258_2:=cb HB hx258_2;replace p258:=eq_true p258;replace q258:=eq_true q258;refine start_ (n:=30) (S:=fun w'=>qk3a w' gb254 (.string ((rd_T102 l0 x3_1).f0)) (.string ((rd_T102 l0 x3_1).f1)) (.string ((rd_T102 l0 x3_1).f2)) (qe3 w' (ad253.add (((ji15)).toNat * 3)) (.string ((rd_T102 l0 (ji15)).f0)) (.string ((rd_T102 l0 (ji15)).f1)) (.string ((rd_T102 l0 (ji15)).f2)))) (ds:=[]) _ (by kernel_rfl) rfl rfl (qb3a BK254 ⟨((cb HB hw258_0).trans rfl),((cb HB hw258_1).trans rfl),((cb HB hw258_2).trans rfl)⟩) (fun hHeld=>?_);refine with_tabW spec_CrossRight.tab7 spec_CrossRight.bits7 (fun HT_ HW_=>?_)
             generalize w19.drew=w20 at BK254 HB hx258_0 hx258_1 hx258_2 hHeld ⊢
             refine pA 0 19 HT_ ?_;refine tA 1 20 HT_ HW_ hHeld ?_;refine oA 2 21 HT_ (fun K hK=>?_);refine gA Try.func24 #[.string ((rd_T102 l0 x3_1).f0)] ?_;(with_reducible refine (spec_l01Name.calls k1 ((rd_T102 l0 x3_1).f0) true _ A8.out).mono ?_);rintro e w' ⟨rfl,⟨nd,rfl⟩⟩;refine ⟨_,rfl,?_⟩;refine hK.out _ _ (qb3a BK254 ⟨((cb HB hw258_0).trans rfl),((cb HB hw258_1).trans rfl),((cb HB hw258_2).trans rfl)⟩) (fun hHeld=>?_);clear hK K;refine nA 21 ?_;refine pA 3 22 HT_ ?_;refine pA 4 23 HT_ ?_;refine pA 5 24 HT_ ?_;refine tA 6 25 HT_ HW_ hHeld ?_;refine oA 7 26 HT_ (fun K hK=>?_);refine gA Try.func24 #[.string ((rd_T102 l0 x3_1).f1)] ?_;(with_reducible refine (spec_l01Name.calls k1 ((rd_T102 l0 x3_1).f1) true _ A10.out).mono ?_);rintro e w' ⟨rfl,⟨nd,rfl⟩⟩;refine ⟨_,rfl,?_⟩;refine hK.out _ _ (qb3a BK254 ⟨((cb HB hw258_0).trans rfl),((cb HB hw258_1).trans rfl),((cb HB hw258_2).trans rfl)⟩) (fun hHeld=>?_);clear hK K;refine nA 26 ?_;refine pA 8 27 HT_ ?_;refine pA 9 28 HT_ ?_;refine pA 10 29 HT_ ?_;refine pA 11 30 HT_ ?_;refine tA 12 31 HT_ HW_ hHeld ?_;refine oA 13 32 HT_ (fun K hK=>?_);refine gA Try.func24 #[.string ((rd_T102 l0 x3_1).f2)] ?_;(with_reducible refine (spec_l01Name.calls k1 ((rd_T102 l0 x3_1).f2) true _ A12.out).mono ?_);rintro e w' ⟨rfl,⟨nd,rfl⟩⟩;refine ⟨_,rfl,?_⟩;refine hK.out _ _ (qb3a BK254 ⟨((cb HB hw258_0).trans rfl),((cb HB hw258_1).trans rfl),((cb HB hw258_2).trans rfl)⟩) (fun hHeld=>?_);clear hK K;refine nA 32 ?_;refine pA 14 33 HT_ ?_;refine pA 15 34 HT_ ?_;refine pA 16 35 HT_ ?_;refine pA 17 36 HT_ ?_;refine pA 18 37 HT_ ?_;refine pA 19 38 HT_ ?_;refine pA 20 39 HT_ ?_;refine pA 21 40 HT_ ?_;refine pA 22 41 HT_ ?_;refine pA 23 42 HT_ ?_;refine tA 24 43 HT_ HW_ hHeld ?_;refine tA 25 44 HT_ HW_ hHeld ?_;refine oA 26 45 HT_ (fun K hK=>?_);refine goes_ Try.func92 (by kernel_rfl) rfl #[.agg #[.string ((rd_T102 l0 (ji15)).f0),.string ((rd_T102 l0 (ji15)).f1),.string ((rd_T102 l0 (ji15)).f2)],.agg #[.string ((rd_T102 l0 x3_1).f0),.string ((rd_T102 l0 x3_1).f1),.string ((rd_T102 l0 x3_1).f2)]] (by rfl) rfl rfl (by (try simp only [List.map_toArray,List.map_cons,List.map_nil]);first|done|(simp only [hji15];rfl)|rfl|(simp only [List.length_drop,List.length_take];rfl)) ?_;(with_reducible refine (spec_l08Before.calls ((rd_T102 l0 (ji15)).f0) ((rd_T102 l0 (ji15)).f1) ((rd_T102 l0 (ji15)).f2) ((rd_T102 l0 x3_1).f0) ((rd_T102 l0 x3_1).f1) ((rd_T102 l0 x3_1).f2) t259 _ A18.out).mono ?_);rintro e w21 ⟨rfl,hb⟩;refine ⟨_,rfl,?_⟩;replace BK254:=am (blk_below (ks BK254) hb);replace HB:=am (below_step (bs HB) hb);(try clear hb);(try clear hb2);(try clear hk);(try clear hi);refine hK.out _ _ (qb3a BK254 ⟨((cb HB hw258_0).trans rfl),((cb HB hw258_1).trans rfl),((cb HB hw258_2).trans rfl)⟩) (fun hHeld=>?_);clear hK K;refine nA 45 ?_;refine pA 27 46 HT_ ?_;refine pA 28 47 HT_ ?_;refine pA 29 48 HT_ ?_;refine done_ (done_of HT_.out (by kernel_rfl)) ?_
             try go_wp2
             go_meet
             case rel=>exact ⟨_,(!t259),fg,H',⟨by have:=HK1.out;first|omega|exact Nat.le_refl _⟩,⟨ks BK254⟩,⟨bs HB⟩⟩
            ·rw [if_neg c17] at H
             exact absurd H (by simp)
           ·rw [if_neg c16] at H
            exact absurd H (by simp)
          ·rw [if_neg c14] at H;have c14b0:decide (0<x3_1)=false:=decide_eq_false c14;clear c14
           (first|rw [c14b0]|(simp only [i64_w,i32_w];rw [c14b0])|skip)
           have H':=am H;clear H
           try go_wp2
           have n0_:Aside0 ((((w6.setCell ⟨gb254,0,none⟩ (.string ((rd_T102 l0 x3_1).f0))).setCell ⟨gb254,1,none⟩ (.string ((rd_T102 l0 x3_1).f1))).setCell ⟨gb254,2,none⟩ (.string ((rd_T102 l0 x3_1).f2))).heap[gb254]? = some (.cells #[.string ((rd_T102 l0 x3_1).f0),.string ((rd_T102 l0 x3_1).f1),.string ((rd_T102 l0 x3_1).f2)] 102 (0,0))):=⟨kp BK254⟩;have n1_:Aside0 (Below w.heap.size w (((w6.setCell ⟨gb254,0,none⟩ (.string ((rd_T102 l0 x3_1).f0))).setCell ⟨gb254,1,none⟩ (.string ((rd_T102 l0 x3_1).f1))).setCell ⟨gb254,2,none⟩ (.string ((rd_T102 l0 x3_1).f2)))):=⟨bs HB⟩;(try clear BK254);(try clear HB)
           generalize (((w6.setCell ⟨gb254,0,none⟩ (.string ((rd_T102 l0 x3_1).f0))).setCell ⟨gb254,1,none⟩ (.string ((rd_T102 l0 x3_1).f1))).setCell ⟨gb254,2,none⟩ (.string ((rd_T102 l0 x3_1).f2)))=w22 at n0_ n1_ ⊢
           have BK254:=n0_;have HB:=n1_;clear n0_ n1_;replace BK254:=am (blk_drew BK254.out);replace HB:=am (below_drew1 HB.out);refine start_ (n:=30) (S:=fun w'=>qk3 w' gb254 (.string ((rd_T102 l0 x3_1).f0)) (.string ((rd_T102 l0 x3_1).f1)) (.string ((rd_T102 l0 x3_1).f2))) (ds:=[]) _ (by kernel_rfl) rfl rfl (qb3 BK254) (fun hHeld=>?_);refine with_tabW spec_CrossRight.tab7 spec_CrossRight.bits7 (fun HT_ HW_=>?_)
           generalize w22.drew=w23 at BK254 HB hHeld ⊢
           refine pA 0 19 HT_ ?_;refine tA 1 20 HT_ HW_ hHeld ?_;refine oA 2 21 HT_ (fun K hK=>?_);refine gA Try.func24 #[.string ((rd_T102 l0 x3_1).f0)] ?_;(with_reducible refine (spec_l01Name.calls k1 ((rd_T102 l0 x3_1).f0) true _ A8.out).mono ?_);rintro e w' ⟨rfl,⟨nd,rfl⟩⟩;refine ⟨_,rfl,?_⟩;refine hK.out _ _ (qb3 BK254) (fun hHeld=>?_);clear hK K;refine nA 21 ?_;refine pA 3 22 HT_ ?_;refine pA 4 23 HT_ ?_;refine pA 5 24 HT_ ?_;refine tA 6 25 HT_ HW_ hHeld ?_;refine oA 7 26 HT_ (fun K hK=>?_);refine gA Try.func24 #[.string ((rd_T102 l0 x3_1).f1)] ?_;(with_reducible refine (spec_l01Name.calls k1 ((rd_T102 l0 x3_1).f1) true _ A10.out).mono ?_);rintro e w' ⟨rfl,⟨nd,rfl⟩⟩;refine ⟨_,rfl,?_⟩;refine hK.out _ _ (qb3 BK254) (fun hHeld=>?_);clear hK K;refine nA 26 ?_;refine pA 8 27 HT_ ?_;refine pA 9 28 HT_ ?_;refine pA 10 29 HT_ ?_;refine pA 11 30 HT_ ?_;refine tA 12 31 HT_ HW_ hHeld ?_;refine oA 13 32 HT_ (fun K hK=>?_);refine gA Try.func24 #[.string ((rd_T102 l0 x3_1).f2)] ?_;(with_reducible refine (spec_l01Name.calls k1 ((rd_T102 l0 x3_1).f2) true _ A12.out).mono ?_);rintro e w' ⟨rfl,⟨nd,rfl⟩⟩;refine ⟨_,rfl,?_⟩;refine hK.out _ _ (qb3 BK254) (fun hHeld=>?_);clear hK K;refine nA 32 ?_;refine pA 14 33 HT_ ?_;refine pA 15 34 HT_ ?_;refine pA 16 35 HT_ ?_;refine pA 17 36 HT_ ?_;refine pA 18 37 HT_ ?_;refine pA 19 38 HT_ ?_;refine pB 20 39 HT_ ?_;refine pB 21 40 HT_ ?_;refine pB 22 41 HT_ ?_;refine pB 23 42 HT_ ?_;refine pB 24 43 HT_ ?_;refine pB 25 44 HT_ ?_;refine pB 26 45 HT_ ?_;refine pB 27 46 HT_ ?_;refine pA 28 47 HT_ ?_;refine pA 29 48 HT_ ?_;refine done_ (done_of HT_.out (by kernel_rfl)) ?_
           try go_wp2
           go_meet
           case rel=>exact ⟨_,(false),fg,H',⟨by have:=HK1.out;first|omega|exact Nat.le_refl _⟩,⟨ks BK254⟩,⟨bs HB⟩⟩
         ·replace c13:=Bool.eq_false_iff.mpr c13;subst c13
          have H1:(spec_CrossRight.j1 k1 l0 x3_1 true ((rd_T102 l0 x3_1).f0) ((rd_T102 l0 x3_1).f1) ((rd_T102 l0 x3_1).f2))=some r:=by rw [if_neg (show ¬ (false=true) by decide)] at H;exact H
          clear H;have H:=H1;clear H1;have H':=am H;clear H
          try go_wp2
          have n0_:Aside0 ((((w6.setCell ⟨gb254,0,none⟩ (.string ((rd_T102 l0 x3_1).f0))).setCell ⟨gb254,1,none⟩ (.string ((rd_T102 l0 x3_1).f1))).setCell ⟨gb254,2,none⟩ (.string ((rd_T102 l0 x3_1).f2))).heap[gb254]? = some (.cells #[.string ((rd_T102 l0 x3_1).f0),.string ((rd_T102 l0 x3_1).f1),.string ((rd_T102 l0 x3_1).f2)] 102 (0,0))):=⟨kp BK254⟩;have n1_:Aside0 (Below w.heap.size w (((w6.setCell ⟨gb254,0,none⟩ (.string ((rd_T102 l0 x3_1).f0))).setCell ⟨gb254,1,none⟩ (.string ((rd_T102 l0 x3_1).f1))).setCell ⟨gb254,2,none⟩ (.string ((rd_T102 l0 x3_1).f2)))):=⟨bs HB⟩;(try clear BK254);(try clear HB)
          generalize (((w6.setCell ⟨gb254,0,none⟩ (.string ((rd_T102 l0 x3_1).f0))).setCell ⟨gb254,1,none⟩ (.string ((rd_T102 l0 x3_1).f1))).setCell ⟨gb254,2,none⟩ (.string ((rd_T102 l0 x3_1).f2)))=w24 at n0_ n1_ ⊢
          have BK254:=n0_;have HB:=n1_;clear n0_ n1_;replace BK254:=am (blk_drew BK254.out);replace HB:=am (below_drew1 HB.out);refine start_ (n:=30) (S:=fun w'=>qk3 w' gb254 (.string ((rd_T102 l0 x3_1).f0)) (.string ((rd_T102 l0 x3_1).f1)) (.string ((rd_T102 l0 x3_1).f2))) (ds:=[]) _ (by kernel_rfl) rfl rfl (qb3 BK254) (fun hHeld=>?_);refine with_tabW spec_CrossRight.tab7 spec_CrossRight.bits7 (fun HT_ HW_=>?_)
          generalize w24.drew=w25 at BK254 HB hHeld ⊢
          refine pA 0 19 HT_ ?_;refine tA 1 20 HT_ HW_ hHeld ?_;refine oA 2 21 HT_ (fun K hK=>?_);refine gA Try.func24 #[.string ((rd_T102 l0 x3_1).f0)] ?_;(with_reducible refine (spec_l01Name.calls k1 ((rd_T102 l0 x3_1).f0) true _ A8.out).mono ?_);rintro e w' ⟨rfl,⟨nd,rfl⟩⟩;refine ⟨_,rfl,?_⟩;refine hK.out _ _ (qb3 BK254) (fun hHeld=>?_);clear hK K;refine nA 21 ?_;refine pA 3 22 HT_ ?_;refine pA 4 23 HT_ ?_;refine pA 5 24 HT_ ?_;refine tA 6 25 HT_ HW_ hHeld ?_;refine oA 7 26 HT_ (fun K hK=>?_);refine gA Try.func24 #[.string ((rd_T102 l0 x3_1).f1)] ?_;(with_reducible refine (spec_l01Name.calls k1 ((rd_T102 l0 x3_1).f1) true _ A10.out).mono ?_);rintro e w' ⟨rfl,⟨nd,rfl⟩⟩;refine ⟨_,rfl,?_⟩;refine hK.out _ _ (qb3 BK254) (fun hHeld=>?_);clear hK K;refine nA 26 ?_;refine pA 8 27 HT_ ?_;refine pA 9 28 HT_ ?_;refine pA 10 29 HT_ ?_;refine pA 11 30 HT_ ?_;refine tA 12 31 HT_ HW_ hHeld ?_;refine oA 13 32 HT_ (fun K hK=>?_);refine gA Try.func24 #[.string ((rd_T102 l0 x3_1).f2)] ?_;(with_reducible refine (spec_l01Name.calls k1 ((rd_T102 l0 x3_1).f2) false _ A12.out).mono ?_);rintro e w' ⟨rfl,⟨nd,rfl⟩⟩;refine ⟨_,rfl,?_⟩;refine hK.out _ _ (qb3 BK254) (fun hHeld=>?_);clear hK K;refine nA 32 ?_;refine pA 14 33 HT_ ?_;refine pA 15 34 HT_ ?_;refine pA 16 35 HT_ ?_;refine pB 17 36 HT_ ?_;refine pB 18 37 HT_ ?_;refine pB 19 38 HT_ ?_;refine pB 20 39 HT_ ?_;refine pB 21 40 HT_ ?_;refine pB 22 41 HT_ ?_;refine pB 23 42 HT_ ?_;refine pB 24 43 HT_ ?_;refine pB 25 44 HT_ ?_;refine pB 26 45 HT_ ?_;refine pB 27 46 HT_ ?_;refine pB 28 47 HT_ ?_;refine pA 29 48 HT_ ?_;refine done_ (done_of HT_.out (by kernel_rfl)) ?_
          try go_wp2
          go_meet
          case rel=>exact ⟨_,(true),fg,H',⟨by have:=HK1.out;first|omega|exact Nat.le_refl _⟩,⟨ks BK254⟩,⟨bs HB⟩⟩
        ·replace c11:=Bool.eq_false_iff.mpr c11;subst c11
         have H1:(spec_CrossRight.j1 k1 l0 x3_1 true ((rd_T102 l0 x3_1).f0) ((rd_T102 l0 x3_1).f1) ((rd_T102 l0 x3_1).f2))=some r:=by rw [if_neg (show ¬ (false=true) by decide)] at H;exact H
         clear H;have H:=H1;clear H1;have H':=am H;clear H
         try go_wp2
         have n0_:Aside0 ((((w6.setCell ⟨gb254,0,none⟩ (.string ((rd_T102 l0 x3_1).f0))).setCell ⟨gb254,1,none⟩ (.string ((rd_T102 l0 x3_1).f1))).setCell ⟨gb254,2,none⟩ (.string ((rd_T102 l0 x3_1).f2))).heap[gb254]? = some (.cells #[.string ((rd_T102 l0 x3_1).f0),.string ((rd_T102 l0 x3_1).f1),.string ((rd_T102 l0 x3_1).f2)] 102 (0,0))):=⟨kp BK254⟩;have n1_:Aside0 (Below w.heap.size w (((w6.setCell ⟨gb254,0,none⟩ (.string ((rd_T102 l0 x3_1).f0))).setCell ⟨gb254,1,none⟩ (.string ((rd_T102 l0 x3_1).f1))).setCell ⟨gb254,2,none⟩ (.string ((rd_T102 l0 x3_1).f2)))):=⟨bs HB⟩;(try clear BK254);(try clear HB)
         generalize (((w6.setCell ⟨gb254,0,none⟩ (.string ((rd_T102 l0 x3_1).f0))).setCell ⟨gb254,1,none⟩ (.string ((rd_T102 l0 x3_1).f1))).setCell ⟨gb254,2,none⟩ (.string ((rd_T102 l0 x3_1).f2)))=w26 at n0_ n1_ ⊢
         have BK254:=n0_;have HB:=n1_;clear n0_ n1_;replace BK254:=am (blk_drew BK254.out);replace HB:=am (below_drew1 HB.out);refine start_ (n:=30) (S:=fun w'=>qk3 w' gb254 (.string ((rd_T102 l0 x3_1).f0)) (.string ((rd_T102 l0 x3_1).f1)) (.string ((rd_T102 l0 x3_1).f2))) (ds:=[]) _ (by kernel_rfl) rfl rfl (qb3 BK254) (fun hHeld=>?_);refine with_tabW spec_CrossRight.tab7 spec_CrossRight.bits7 (fun HT_ HW_=>?_)
         generalize w26.drew=w27 at BK254 HB hHeld ⊢
         refine pA 0 19 HT_ ?_;refine tA 1 20 HT_ HW_ hHeld ?_;refine oA 2 21 HT_ (fun K hK=>?_);refine gA Try.func24 #[.string ((rd_T102 l0 x3_1).f0)] ?_;(with_reducible refine (spec_l01Name.calls k1 ((rd_T102 l0 x3_1).f0) true _ A8.out).mono ?_);rintro e w' ⟨rfl,⟨nd,rfl⟩⟩;refine ⟨_,rfl,?_⟩;refine hK.out _ _ (qb3 BK254) (fun hHeld=>?_);clear hK K;refine nA 21 ?_;refine pA 3 22 HT_ ?_;refine pA 4 23 HT_ ?_;refine pA 5 24 HT_ ?_;refine tA 6 25 HT_ HW_ hHeld ?_;refine oA 7 26 HT_ (fun K hK=>?_);refine gA Try.func24 #[.string ((rd_T102 l0 x3_1).f1)] ?_;(with_reducible refine (spec_l01Name.calls k1 ((rd_T102 l0 x3_1).f1) false _ A10.out).mono ?_);rintro e w' ⟨rfl,⟨nd,rfl⟩⟩;refine ⟨_,rfl,?_⟩;refine hK.out _ _ (qb3 BK254) (fun hHeld=>?_);clear hK K;refine nA 26 ?_;refine pA 8 27 HT_ ?_;refine pA 9 28 HT_ ?_;refine pA 10 29 HT_ ?_;refine pB 11 30 HT_ ?_;refine pB 12 31 HT_ ?_;refine pB 13 32 HT_ ?_;refine pB 14 33 HT_ ?_;refine pA 15 34 HT_ ?_;refine pA 16 35 HT_ ?_;refine pB 17 36 HT_ ?_;refine pB 18 37 HT_ ?_;refine pB 19 38 HT_ ?_;refine pB 20 39 HT_ ?_;refine pB 21 40 HT_ ?_;refine pB 22 41 HT_ ?_;refine pB 23 42 HT_ ?_;refine pB 24 43 HT_ ?_;refine pB 25 44 HT_ ?_;refine pB 26 45 HT_ ?_;refine pB 27 46 HT_ ?_;refine pB 28 47 HT_ ?_;refine pA 29 48 HT_ ?_;refine done_ (done_of HT_.out (by kernel_rfl)) ?_
         try go_wp2
         go_meet
         case rel=>exact ⟨_,(true),fg,H',⟨by have:=HK1.out;first|omega|exact Nat.le_refl _⟩,⟨ks BK254⟩,⟨bs HB⟩⟩
       ·replace c9:=Bool.eq_false_iff.mpr c9;subst c9
        have H1:(spec_CrossRight.j1 k1 l0 x3_1 true ((rd_T102 l0 x3_1).f0) ((rd_T102 l0 x3_1).f1) ((rd_T102 l0 x3_1).f2))=some r:=by rw [if_neg (show ¬ (false=true) by decide)] at H;exact H
        clear H;have H:=H1;clear H1;have H':=am H;clear H
        try go_wp2
        have n0_:Aside0 ((((w6.setCell ⟨gb254,0,none⟩ (.string ((rd_T102 l0 x3_1).f0))).setCell ⟨gb254,1,none⟩ (.string ((rd_T102 l0 x3_1).f1))).setCell ⟨gb254,2,none⟩ (.string ((rd_T102 l0 x3_1).f2))).heap[gb254]? = some (.cells #[.string ((rd_T102 l0 x3_1).f0),.string ((rd_T102 l0 x3_1).f1),.string ((rd_T102 l0 x3_1).f2)] 102 (0,0))):=⟨kp BK254⟩;have n1_:Aside0 (Below w.heap.size w (((w6.setCell ⟨gb254,0,none⟩ (.string ((rd_T102 l0 x3_1).f0))).setCell ⟨gb254,1,none⟩ (.string ((rd_T102 l0 x3_1).f1))).setCell ⟨gb254,2,none⟩ (.string ((rd_T102 l0 x3_1).f2)))):=⟨bs HB⟩;(try clear BK254);(try clear HB)
        generalize (((w6.setCell ⟨gb254,0,none⟩ (.string ((rd_T102 l0 x3_1).f0))).setCell ⟨gb254,1,none⟩ (.string ((rd_T102 l0 x3_1).f1))).setCell ⟨gb254,2,none⟩ (.string ((rd_T102 l0 x3_1).f2)))=w28 at n0_ n1_ ⊢
        have BK254:=n0_;have HB:=n1_;clear n0_ n1_;replace BK254:=am (blk_drew BK254.out);replace HB:=am (below_drew1 HB.out);refine start_ (n:=30) (S:=fun w'=>qk3 w' gb254 (.string ((rd_T102 l0 x3_1).f0)) (.string ((rd_T102 l0 x3_1).f1)) (.string ((rd_T102 l0 x3_1).f2))) (ds:=[]) _ (by kernel_rfl) rfl rfl (qb3 BK254) (fun hHeld=>?_);refine with_tabW spec_CrossRight.tab7 spec_CrossRight.bits7 (fun HT_ HW_=>?_)
        generalize w28.drew=w29 at BK254 HB hHeld ⊢
        refine pA 0 19 HT_ ?_;refine tA 1 20 HT_ HW_ hHeld ?_;refine oA 2 21 HT_ (fun K hK=>?_);refine gA Try.func24 #[.string ((rd_T102 l0 x3_1).f0)] ?_;(with_reducible refine (spec_l01Name.calls k1 ((rd_T102 l0 x3_1).f0) false _ A8.out).mono ?_);rintro e w' ⟨rfl,⟨nd,rfl⟩⟩;refine ⟨_,rfl,?_⟩;refine hK.out _ _ (qb3 BK254) (fun hHeld=>?_);clear hK K;refine nA 21 ?_;refine pA 3 22 HT_ ?_;refine pA 4 23 HT_ ?_;refine pB 5 24 HT_ ?_;refine pB 6 25 HT_ ?_;refine pB 7 26 HT_ ?_;refine pB 8 27 HT_ ?_;refine pA 9 28 HT_ ?_;refine pA 10 29 HT_ ?_;refine pB 11 30 HT_ ?_;refine pB 12 31 HT_ ?_;refine pB 13 32 HT_ ?_;refine pB 14 33 HT_ ?_;refine pA 15 34 HT_ ?_;refine pA 16 35 HT_ ?_;refine pB 17 36 HT_ ?_;refine pB 18 37 HT_ ?_;refine pB 19 38 HT_ ?_;refine pB 20 39 HT_ ?_;refine pB 21 40 HT_ ?_;refine pB 22 41 HT_ ?_;refine pB 23 42 HT_ ?_;refine pB 24 43 HT_ ?_;refine pB 25 44 HT_ ?_;refine pB 26 45 HT_ ?_;refine pB 27 46 HT_ ?_;refine pB 28 47 HT_ ?_;refine pA 29 48 HT_ ?_;refine done_ (done_of HT_.out (by kernel_rfl)) ?_
        try go_wp2
        go_meet
        case rel=>exact ⟨_,(true),fg,H',⟨by have:=HK1.out;first|omega|exact Nat.le_refl _⟩,⟨ks BK254⟩,⟨bs HB⟩⟩
      case rest =>
       clear HC5
       try clear c1
       try clear c2
       try clear p2
       try clear c9
       try clear c11
       try clear c24
       obtain ⟨kq,x48_4,rfl,HA,HJ4,BK254,HB⟩:=hcut
       cases kq with
       | zero=>exact absurd HA.out (by simp [spec_CrossRight.j1])
       | succ kj4 =>
        have H:=HA.out;clear HA;simp only [spec_CrossRight.j1] at H
        by_cases c30:x48_4=true
        ·subst c30
         have H1:(some false)=some r:=by rw [if_pos rfl] at H;exact H
         clear H;have H:=H1;clear H1;obtain rfl:=Option.some.inj H
         go_wp2
         go_ret
         exact ⟨ff,bs HB⟩
        ·replace c30:=Bool.eq_false_iff.mpr c30;subst c30
         have H1:(spec_CrossRight.l1 kj4 l0 x3_1 0 ((rd_T102 l0 x3_1).f0) ((rd_T102 l0 x3_1).f1) ((rd_T102 l0 x3_1).f2))=some r:=by rw [if_neg (show ¬ (false=true) by decide)] at H;exact H
         clear H;have H:=H1;clear H1;have H':=am H;clear H
         go_wp2
         go_loopg [5] kj4 (fun kq v5 w'=>∃ (x5_3:Int),v5=.int .i64 x5_3∧Aside0 (spec_CrossRight.l1 kq l0 x3_1 x5_3 ((rd_T102 l0 x3_1).f0) ((rd_T102 l0 x3_1).f1) ((rd_T102 l0 x3_1).f2)=some r)∧Aside0 (kq≤kj4)∧Aside0 (w'.heap[gb254]? = some (.cells #[.string ((rd_T102 l0 x3_1).f0),.string ((rd_T102 l0 x3_1).f1),.string ((rd_T102 l0 x3_1).f2)] 102 (0,0)))∧Aside0 (Below w.heap.size w w'))
         case atStart=>exact ⟨(0),fg,H',⟨Nat.le_refl _⟩,⟨ks BK254⟩,⟨bs HB⟩⟩
         case round =>
          clear H'
          try clear c1
          try clear c2
          try clear p2
          try clear c3
          try clear c9
          try clear c11
          try clear c24
          try clear c30
          try clear p2
          obtain ⟨x5_3,rfl,HA,HK3,BK254,HB⟩:=hrel
          cases gk with
          | zero=>exact absurd HA.out (by simp [spec_CrossRight.l1])
          | succ k3 =>
           have H:=HA.out;clear HA;simp only [spec_CrossRight.l1] at H
           by_cases c31:x5_3<x3_1
           ·rw [if_pos c31] at H;have c31b0:decide (x5_3<x3_1)=true:=decide_eq_true c31;clear c31
            by_cases c32:0≤x5_3
            ·rw [if_pos c32] at H;have c32b0:decide (0≤x5_3)=true:=decide_eq_true c32;clear c32
             by_cases c33:x5_3<(l0.length:Int)
             ·rw [if_pos c33] at H;have c33b0:decide (x5_3<(l0.length:Int))=true:=decide_eq_true c33;clear c33
              by_cases c34:((rd_T102 l0 x5_3).f0).toList=((rd_T102 l0 x3_1).f0).toList
              ·rw [if_pos c34] at H;have c34b0:(((rd_T102 l0 x5_3).f0).toList == ((rd_T102 l0 x3_1).f0).toList)=true:=beq_iff_eq.mpr c34;have c34b1:(((rd_T102 l0 x5_3).f0).toList != ((rd_T102 l0 x3_1).f0).toList)=false:=bne_eq_false_iff_eq.mpr c34;clear c34
               by_cases c35:((rd_T102 l0 x5_3).f2).toList=((rd_T102 l0 x3_1).f2).toList
               ·rw [if_pos c35] at H;have c35b0:(((rd_T102 l0 x5_3).f2).toList == ((rd_T102 l0 x3_1).f2).toList)=true:=beq_iff_eq.mpr c35;have c35b1:(((rd_T102 l0 x5_3).f2).toList != ((rd_T102 l0 x3_1).f2).toList)=false:=bne_eq_false_iff_eq.mpr c35;clear c35;obtain rfl:=Option.some.inj H
                try go_wp2
                replace BK254:=am (blk_drew BK254.out);replace HB:=am (below_drew1 HB.out);have p260:0≤(x5_3:Int):=oa;have q260:x5_3<(l0.length:Int):=oa;obtain ⟨ad260,e260,hx260_0,hx260_1,hx260_2⟩:=at_T102 HR0.out x5_3 p260 q260;have hw260_2:=hx260_2;have hw260_1:=hx260_1;have hw260_0:=hx260_0;obtain rfl:ad253=ad260:=(by injection e260);replace hx260_0:=cb HB hx260_0;replace hx260_1:=cb HB hx260_1;replace hx260_2:=cb HB hx260_2;replace p260:=eq_true p260;replace q260:=eq_true q260;have p261:0≤(x5_3:Int):=oa;have q261:x5_3<(l0.length:Int):=oa;obtain ⟨ad261,e261,hx261_0,hx261_1,hx261_2⟩:=at_T102 HR0.out x5_3 p261 q261;have hw261_2:=hx261_2;have hw261_1:=hx261_1;have hw261_0:=hx261_0;obtain rfl:ad253=ad261:=(by injection e261);replace hx261_0:=cb HB hx261_0;replace hx261_1:=cb HB hx261_1;replace hx261_2:=cb HB hx261_2;replace p261:=eq_true p261;replace q261:=eq_true q261;refine start_ (n:=18) (S:=fun w'=>qk3a w' gb254 (.string ((rd_T102 l0 x3_1).f0)) (.string ((rd_T102 l0 x3_1).f1)) (.string ((rd_T102 l0 x3_1).f2)) (qe3a w' (ad253.add ((x5_3).toNat * 3)) (.string ((rd_T102 l0 x5_3).f0)) (.string ((rd_T102 l0 x5_3).f1)) (.string ((rd_T102 l0 x5_3).f2)) (qe3 w' (ad253.add ((x5_3).toNat * 3)) (.string ((rd_T102 l0 x5_3).f0)) (.string ((rd_T102 l0 x5_3).f1)) (.string ((rd_T102 l0 x5_3).f2))))) (ds:=[]) _ (by kernel_rfl) rfl rfl (qb3a BK254 ⟨((cb HB hw260_0).trans rfl),((cb HB hw260_1).trans rfl),((cb HB hw260_2).trans rfl),((cb HB hw261_0).trans rfl),((cb HB hw261_1).trans rfl),((cb HB hw261_2).trans rfl)⟩) (fun hHeld=>?_);refine with_tabW spec_CrossRight.tab12 spec_CrossRight.bits12 (fun HT_ HW_=>?_)
                generalize wr.drew=w36 at BK254 HB hx260_0 hx260_1 hx260_2 hx261_0 hx261_1 hx261_2 hHeld ⊢
                refine pA 0 54 HT_ ?_;refine pA 1 55 HT_ ?_;refine pA 2 56 HT_ ?_;refine pA 3 57 HT_ ?_;refine pA 5 59 HT_ ?_;refine tA 4 58 HT_ HW_ hHeld ?_;refine tA 6 60 HT_ HW_ hHeld ?_;refine pA 7 61 HT_ ?_;refine pA 8 62 HT_ ?_;refine pA 9 63 HT_ ?_;refine pA 10 64 HT_ ?_;refine pA 11 65 HT_ ?_;refine pA 12 66 HT_ ?_;refine pA 14 68 HT_ ?_;refine tA 13 67 HT_ HW_ hHeld ?_;refine tA 15 69 HT_ HW_ hHeld ?_;refine pA 16 70 HT_ ?_;refine pA 17 71 HT_ ?_;refine done_ (done_of HT_.out (by kernel_rfl)) ?_
                try go_wp2
                go_ret
                exact ⟨ff,bs HB⟩
               ·rw [if_neg c35] at H;have c35b0:(((rd_T102 l0 x5_3).f2).toList == ((rd_T102 l0 x3_1).f2).toList)=false:=beq_eq_false_iff_ne.mpr c35;have c35b1:(((rd_T102 l0 x5_3).f2).toList != ((rd_T102 l0 x3_1).f2).toList)=true:=bne_iff_ne.mpr c35;have H':=am H;clear H
                try go_wp2
                replace BK254:=am (blk_drew BK254.out);replace HB:=am (below_drew1 HB.out);have p260:0≤(x5_3:Int):=oa;have q260:x5_3<(l0.length:Int):=oa;obtain ⟨ad260,e260,hx260_0,hx260_1,hx260_2⟩:=at_T102 HR0.out x5_3 p260 q260;have hw260_2:=hx260_2;have hw260_1:=hx260_1;have hw260_0:=hx260_0;obtain rfl:ad253=ad260:=(by injection e260);replace hx260_0:=cb HB hx260_0;replace hx260_1:=cb HB hx260_1;replace hx260_2:=cb HB hx260_2;replace p260:=eq_true p260;replace q260:=eq_true q260;have p261:0≤(x5_3:Int):=oa;have q261:x5_3<(l0.length:Int):=oa;obtain ⟨ad261,e261,hx261_0,hx261_1,hx261_2⟩:=at_T102 HR0.out x5_3 p261 q261;have hw261_2:=hx261_2;have hw261_1:=hx261_1;have hw261_0:=hx261_0;obtain rfl:ad253=ad261:=(by injection e261);replace hx261_0:=cb HB hx261_0;replace hx261_1:=cb HB hx261_1;replace hx261_2:=cb HB hx261_2;replace p261:=eq_true p261;replace q261:=eq_true q261;refine start_ (n:=18) (S:=fun w'=>qk3a w' gb254 (.string ((rd_T102 l0 x3_1).f0)) (.string ((rd_T102 l0 x3_1).f1)) (.string ((rd_T102 l0 x3_1).f2)) (qe3a w' (ad253.add ((x5_3).toNat * 3)) (.string ((rd_T102 l0 x5_3).f0)) (.string ((rd_T102 l0 x5_3).f1)) (.string ((rd_T102 l0 x5_3).f2)) (qe3 w' (ad253.add ((x5_3).toNat * 3)) (.string ((rd_T102 l0 x5_3).f0)) (.string ((rd_T102 l0 x5_3).f1)) (.string ((rd_T102 l0 x5_3).f2))))) (ds:=[]) _ (by kernel_rfl) rfl rfl (qb3a BK254 ⟨((cb HB hw260_0).trans rfl),((cb HB hw260_1).trans rfl),((cb HB hw260_2).trans rfl),((cb HB hw261_0).trans rfl),((cb HB hw261_1).trans rfl),((cb HB hw261_2).trans rfl)⟩) (fun hHeld=>?_);refine with_tabW spec_CrossRight.tab12 spec_CrossRight.bits12 (fun HT_ HW_=>?_)
                generalize wr.drew=w37 at BK254 HB hx260_0 hx260_1 hx260_2 hx261_0 hx261_1 hx261_2 hHeld ⊢
                refine pA 0 54 HT_ ?_;refine pA 1 55 HT_ ?_;refine pA 2 56 HT_ ?_;refine pA 3 57 HT_ ?_;refine pA 5 59 HT_ ?_;refine tA 4 58 HT_ HW_ hHeld ?_;refine tA 6 60 HT_ HW_ hHeld ?_;refine pA 7 61 HT_ ?_;refine pA 8 62 HT_ ?_;refine pA 9 63 HT_ ?_;refine pA 10 64 HT_ ?_;refine pA 11 65 HT_ ?_;refine pA 12 66 HT_ ?_;refine pA 14 68 HT_ ?_;refine tA 13 67 HT_ HW_ hHeld ?_;refine tA 15 69 HT_ HW_ hHeld ?_;refine pA 16 70 HT_ ?_;refine pA 17 71 HT_ ?_;refine done_ (done_of HT_.out (by kernel_rfl)) ?_
                try go_wp2
                go_roundg k3
                case measure=>have:=HK1.out;have:=HJ4.out;have:=HK3.out;omega
                case rel=>exact ⟨(wrap64 (x5_3+1)),fg,H',⟨by have:=HK1.out;have:=HJ4.out;have:=HK3.out;omega⟩,⟨ks BK254⟩,⟨bs HB⟩⟩
              ·rw [if_neg c34] at H;have c34b0:(((rd_T102 l0 x5_3).f0).toList == ((rd_T102 l0 x3_1).f0).toList)=false:=beq_eq_false_iff_ne.mpr c34;have c34b1:(((rd_T102 l0 x5_3).f0).toList != ((rd_T102 l0 x3_1).f0).toList)=true:=bne_iff_ne.mpr c34;have H':=am H;clear H
               try go_wp2
               replace BK254:=am (blk_drew BK254.out);replace HB:=am (below_drew1 HB.out);have p260:0≤(x5_3:Int):=oa;have q260:x5_3<(l0.length:Int):=oa;obtain ⟨ad260,e260,hx260_0,hx260_1,hx260_2⟩:=at_T102 HR0.out x5_3 p260 q260;have hw260_2:=hx260_2;have hw260_1:=hx260_1;have hw260_0:=hx260_0;obtain rfl:ad253=ad260:=(by injection e260);replace hx260_0:=cb HB hx260_0;replace hx260_1:=cb HB hx260_1;replace hx260_2:=cb HB hx260_2;replace p260:=eq_true p260;replace q260:=eq_true q260;refine start_ (n:=18) (S:=fun w'=>qk3a w' gb254 (.string ((rd_T102 l0 x3_1).f0)) (.string ((rd_T102 l0 x3_1).f1)) (.string ((rd_T102 l0 x3_1).f2)) (qe3 w' (ad253.add ((x5_3).toNat * 3)) (.string ((rd_T102 l0 x5_3).f0)) (.string ((rd_T102 l0 x5_3).f1)) (.string ((rd_T102 l0 x5_3).f2)))) (ds:=[]) _ (by kernel_rfl) rfl rfl (qb3a BK254 ⟨((cb HB hw260_0).trans rfl),((cb HB hw260_1).trans rfl),((cb HB hw260_2).trans rfl)⟩) (fun hHeld=>?_);refine with_tabW spec_CrossRight.tab12 spec_CrossRight.bits12 (fun HT_ HW_=>?_)
               generalize wr.drew=w38 at BK254 HB hx260_0 hx260_1 hx260_2 hHeld ⊢
               refine pA 0 54 HT_ ?_;refine pA 1 55 HT_ ?_;refine pA 2 56 HT_ ?_;refine pA 3 57 HT_ ?_;refine pA 5 59 HT_ ?_;refine tA 4 58 HT_ HW_ hHeld ?_;refine tA 6 60 HT_ HW_ hHeld ?_;refine pA 7 61 HT_ ?_;refine pA 8 62 HT_ ?_;refine pB 9 63 HT_ ?_;refine pB 10 64 HT_ ?_;refine pB 11 65 HT_ ?_;refine pB 12 66 HT_ ?_;refine pB 13 67 HT_ ?_;refine pB 14 68 HT_ ?_;refine pB 15 69 HT_ ?_;refine pB 16 70 HT_ ?_;refine pA 17 71 HT_ ?_;refine done_ (done_of HT_.out (by kernel_rfl)) ?_
               try go_wp2
               go_roundg k3
               case measure=>have:=HK1.out;have:=HJ4.out;have:=HK3.out;omega
               case rel=>exact ⟨(wrap64 (x5_3+1)),fg,H',⟨by have:=HK1.out;have:=HJ4.out;have:=HK3.out;omega⟩,⟨ks BK254⟩,⟨bs HB⟩⟩
             ·rw [if_neg c33] at H
              exact absurd H (by simp)
            ·rw [if_neg c32] at H
             exact absurd H (by simp)
           ·rw [if_neg c31] at H;have c31b0:decide (x5_3<x3_1)=false:=decide_eq_false c31;clear c31;have H':=am H;clear H
            go_wp2
            go_roundg k3
            case measure=>have:=HK1.out;have:=HJ4.out;have:=HK3.out;omega
            case rel=>exact ⟨(wrap64 (x3_1+1)),fg,H',⟨by have:=HK1.out;have:=HJ4.out;have:=HK3.out;omega⟩,⟨bs HB⟩⟩
     ·rw [if_neg c4] at H
      exact absurd H (by simp)
    ·rw [if_neg c3] at H;have c3b0:decide (x3_1<(l0.length:Int))=false:=decide_eq_false c3;clear c3;obtain rfl:=Option.some.inj H
     go_wp2
     go_ret
     exact ⟨ff,bs HB⟩
end Go.Proofs.Ytjjfjgdhloideaa.QI
namespace Go.Proofs.Ytjjfjgdhloideaa.QI
open Go.RowKit Go.Proofs.YtjjfjgdhloideaaW.PrintWords Go.Proofs.YtjjfjgdhloideaaW.PrintLast Go.Proofs.YtjjfjgdhloideaaW.PrintMore
attribute [local go_sem] max2_int min2_int max_two min_two max_three min_three max_four min_four   -- for this text's walks alone
set_option linter.unusedVariables false
set_option linter.unusedSimpArgs false
set_option maxHeartbeats 8000000 in
set_option maxRecDepth 100000 in
theorem spec_l01Qty.calls (a0:Int) (r:Bool) (w:World) (h:spec_l01Qty.f a0=some r) :
  Calls Try.prog 122 #[.int .i64 a0] w fun e w'=>e=.returned (.bool r)∧Drawn0 w w':=by
 have H:(if a0≥1 then (some (decide (a0≤1000000))) else (some false))=some r:=h;clear h
 by_cases c2:a0≥1
 ·rw [if_pos c2] at H;have c2b0:decide (1≤a0)=true:=decide_eq_true c2;clear c2;obtain rfl:=Option.some.inj H
  go_enter Try.func122,Try.ntmps122
  go_wp2
  go_ret
  exact ⟨fg,by repeat (first|exact Drawn0.refl _|apply Drawn0.step)⟩
 ·rw [if_neg c2] at H;have c2b0:decide (1≤a0)=false:=decide_eq_false c2;clear c2;obtain rfl:=Option.some.inj H
  go_enter Try.func122,Try.ntmps122
  go_wp2
  go_ret
  exact ⟨fg,by repeat (first|exact Drawn0.refl _|apply Drawn0.step)⟩
end Go.Proofs.Ytjjfjgdhloideaa.QI
namespace Go.Proofs.Ytjjfjgdhloideaa.QI
open Go.RowKit Go.Proofs.YtjjfjgdhloideaaW.PrintWords Go.Proofs.YtjjfjgdhloideaaW.PrintLast Go.Proofs.YtjjfjgdhloideaaW.PrintMore
attribute [local go_sem] max2_int min2_int max_two min_two max_three min_three max_four min_four   -- for this text's walks alone
set_option linter.unusedVariables false
set_option linter.unusedSimpArgs false
set_option maxHeartbeats 8000000 in
set_option maxRecDepth 100000 in
theorem spec_LineRight.calls (k:Nat) (a0_0:ByteArray) (a0_1:ByteArray) (a0_2:Int) (a0_3:ByteArray) (a0_4:Int) (a0_5:Int) (a0_6:Int) (a0_7:Int) (r:Bool) (w:World) (h:spec_LineRight.f k a0_0 a0_1 a0_2 a0_3 a0_4 a0_5 a0_6 a0_7=some r) :
  Calls Try.prog 108 #[.agg #[.string a0_0,.string a0_1,.int .i64 a0_2,.string a0_3,.int .i64 a0_4,.int .i64 a0_5,.int .i64 a0_6,.int .i64 a0_7]] w fun e w'=>e=.returned (.bool r)∧Below w.heap.size w w':=by
 have hu73:=Try.underlying73;have HB:=am (Below.refl w.heap.size w);have H:((spec_l01Name.f k a0_0).bind fun t263=>(if t263=true then ((spec_l01Name.f k a0_1).bind fun t264=>(if t264=true then ((spec_l01Name.f k a0_3).bind fun t265=>(if t265=true then (if a0_2≥1 then (if a0_2≤999 then ((spec_l01Qty.f a0_4).bind fun t266=>(if t266=true then (if a0_5≥0 then (if a0_6≥0 then (if a0_7≥0 then (if a0_6≤a0_5 then (if a0_5≤a0_4 then (some (decide (a0_7≤(wrap64 (a0_4 - a0_5))))) else (some false)) else (some false)) else (some false)) else (some false)) else (some false)) else (some false))) else (some false)) else (some false)) else (some false))) else (some false))) else (some false)))=some r:=h;clear h;replace H:=Option.bind_eq_some_iff.mp H;obtain ⟨t263,A20,H⟩:=H;replace H:(if t263=true then ((spec_l01Name.f k a0_1).bind fun t264=>(if t264=true then ((spec_l01Name.f k a0_3).bind fun t265=>(if t265=true then (if a0_2≥1 then (if a0_2≤999 then ((spec_l01Qty.f a0_4).bind fun t266=>(if t266=true then (if a0_5≥0 then (if a0_6≥0 then (if a0_7≥0 then (if a0_6≤a0_5 then (if a0_5≤a0_4 then (some (decide (a0_7≤(wrap64 (a0_4 - a0_5))))) else (some false)) else (some false)) else (some false)) else (some false)) else (some false)) else (some false))) else (some false)) else (some false)) else (some false))) else (some false))) else (some false))=some r:=H;have A2:=am A20;clear A20
 go_enter Try.func108,Try.ntmps108
 try go_wp2_with (first|((with_reducible refine gate_dst (N:=1) rfl ?_);refine bx 1 (cs:=#[.string a0_0,.string a0_1,.int .i64 a0_2,.string a0_3,.int .i64 a0_4,.int .i64 a0_5,.int .i64 a0_6,.int .i64 a0_7]) (t:=73) ?_;intro gb262 hg w3 hbox hb;have BK262:=am (hbox);have GW262:=am ((gs hg (bs HB)));have GE262:=am ((gs hg (bs HB)));replace HB:=am (below_step (bs HB) hb);clear hb hbox hg;obtain ⟨hcz4_0,hcz4_1,hcz4_2,hcz4_3,hcz4_4,hcz4_5,hcz4_6,hcz4_7,hfz4_0,hfz4_1,hfz4_2,hfz4_3,hfz4_4,hfz4_5,hfz4_6,hfz4_7⟩:=cf8 BK262))
 go_at_call 24;(with_reducible refine (spec_l01Name.calls k a0_0 t263 _ A2.out).mono ?_);rintro e w' ⟨rfl,⟨nd,rfl⟩⟩
 by_cases c5:t263=true
 ·subst c5
  have H1:((spec_l01Name.f k a0_1).bind fun t264=>(if t264=true then ((spec_l01Name.f k a0_3).bind fun t265=>(if t265=true then (if a0_2≥1 then (if a0_2≤999 then ((spec_l01Qty.f a0_4).bind fun t266=>(if t266=true then (if a0_5≥0 then (if a0_6≥0 then (if a0_7≥0 then (if a0_6≤a0_5 then (if a0_5≤a0_4 then (some (decide (a0_7≤(wrap64 (a0_4 - a0_5))))) else (some false)) else (some false)) else (some false)) else (some false)) else (some false)) else (some false))) else (some false)) else (some false)) else (some false))) else (some false)))=some r:=by rw [if_pos rfl] at H;exact H
  clear H;have H:=H1;clear H1;replace H:=Option.bind_eq_some_iff.mp H;obtain ⟨t264,A60,H⟩:=H;replace H:(if t264=true then ((spec_l01Name.f k a0_3).bind fun t265=>(if t265=true then (if a0_2≥1 then (if a0_2≤999 then ((spec_l01Qty.f a0_4).bind fun t266=>(if t266=true then (if a0_5≥0 then (if a0_6≥0 then (if a0_7≥0 then (if a0_6≤a0_5 then (if a0_5≤a0_4 then (some (decide (a0_7≤(wrap64 (a0_4 - a0_5))))) else (some false)) else (some false)) else (some false)) else (some false)) else (some false)) else (some false))) else (some false)) else (some false)) else (some false))) else (some false))=some r:=H;have A6:=am A60;clear A60;obtain ⟨hcz7_0,hcz7_1,hcz7_2,hcz7_3,hcz7_4,hcz7_5,hcz7_6,hcz7_7,hfz7_0,hfz7_1,hfz7_2,hfz7_3,hfz7_4,hfz7_5,hfz7_6,hfz7_7⟩:=cf8 BK262
  try go_wp2_with (fail)
  go_at_call 24;(with_reducible refine (spec_l01Name.calls k a0_1 t264 _ A6.out).mono ?_);rintro e w' ⟨rfl,⟨nd,rfl⟩⟩
  by_cases c8:t264=true
  ·subst c8
   have H1:((spec_l01Name.f k a0_3).bind fun t265=>(if t265=true then (if a0_2≥1 then (if a0_2≤999 then ((spec_l01Qty.f a0_4).bind fun t266=>(if t266=true then (if a0_5≥0 then (if a0_6≥0 then (if a0_7≥0 then (if a0_6≤a0_5 then (if a0_5≤a0_4 then (some (decide (a0_7≤(wrap64 (a0_4 - a0_5))))) else (some false)) else (some false)) else (some false)) else (some false)) else (some false)) else (some false))) else (some false)) else (some false)) else (some false)))=some r:=by rw [if_pos rfl] at H;exact H
   clear H;have H:=H1;clear H1;replace H:=Option.bind_eq_some_iff.mp H;obtain ⟨t265,A90,H⟩:=H;replace H:(if t265=true then (if a0_2≥1 then (if a0_2≤999 then ((spec_l01Qty.f a0_4).bind fun t266=>(if t266=true then (if a0_5≥0 then (if a0_6≥0 then (if a0_7≥0 then (if a0_6≤a0_5 then (if a0_5≤a0_4 then (some (decide (a0_7≤(wrap64 (a0_4 - a0_5))))) else (some false)) else (some false)) else (some false)) else (some false)) else (some false)) else (some false))) else (some false)) else (some false)) else (some false))=some r:=H;have A9:=am A90;clear A90;obtain ⟨hcz10_0,hcz10_1,hcz10_2,hcz10_3,hcz10_4,hcz10_5,hcz10_6,hcz10_7,hfz10_0,hfz10_1,hfz10_2,hfz10_3,hfz10_4,hfz10_5,hfz10_6,hfz10_7⟩:=cf8 BK262
   try go_wp2_with (fail)
   go_at_call 24;(with_reducible refine (spec_l01Name.calls k a0_3 t265 _ A9.out).mono ?_);rintro e w' ⟨rfl,⟨nd,rfl⟩⟩
   by_cases c11:t265=true
   ·subst c11
    have H1:(if a0_2≥1 then (if a0_2≤999 then ((spec_l01Qty.f a0_4).bind fun t266=>(if t266=true then (if a0_5≥0 then (if a0_6≥0 then (if a0_7≥0 then (if a0_6≤a0_5 then (if a0_5≤a0_4 then (some (decide (a0_7≤(wrap64 (a0_4 - a0_5))))) else (some false)) else (some false)) else (some false)) else (some false)) else (some false)) else (some false))) else (some false)) else (some false))=some r:=by rw [if_pos rfl] at H;exact H
    clear H;have H:=H1;clear H1
    by_cases c12:a0_2≥1
    ·rw [if_pos c12] at H;have c12b0:decide (1≤a0_2)=true:=decide_eq_true c12;clear c12
     by_cases c13:a0_2≤999
     ·rw [if_pos c13] at H;have c13b0:decide (a0_2≤999)=true:=decide_eq_true c13;clear c13;replace H:=Option.bind_eq_some_iff.mp H;obtain ⟨t266,A140,H⟩:=H;replace H:(if t266=true then (if a0_5≥0 then (if a0_6≥0 then (if a0_7≥0 then (if a0_6≤a0_5 then (if a0_5≤a0_4 then (some (decide (a0_7≤(wrap64 (a0_4 - a0_5))))) else (some false)) else (some false)) else (some false)) else (some false)) else (some false)) else (some false))=some r:=H;have A14:=am A140;clear A140;obtain ⟨hcz15_0,hcz15_1,hcz15_2,hcz15_3,hcz15_4,hcz15_5,hcz15_6,hcz15_7,hfz15_0,hfz15_1,hfz15_2,hfz15_3,hfz15_4,hfz15_5,hfz15_6,hfz15_7⟩:=cf8 BK262
      try go_wp2_with (fail)
      go_at_call 122;(with_reducible refine (spec_l01Qty.calls a0_4 t266 _ A14.out).mono ?_);rintro e w' ⟨rfl,⟨nd,rfl⟩⟩
      by_cases c16:t266=true
      ·subst c16
       have H1:(if a0_5≥0 then (if a0_6≥0 then (if a0_7≥0 then (if a0_6≤a0_5 then (if a0_5≤a0_4 then (some (decide (a0_7≤(wrap64 (a0_4 - a0_5))))) else (some false)) else (some false)) else (some false)) else (some false)) else (some false))=some r:=by rw [if_pos rfl] at H;exact H
       clear H;have H:=H1;clear H1
       by_cases c17:a0_5≥0
       ·rw [if_pos c17] at H;have c17b0:decide (0≤a0_5)=true:=decide_eq_true c17;clear c17
        by_cases c18:a0_6≥0
        ·rw [if_pos c18] at H;have c18b0:decide (0≤a0_6)=true:=decide_eq_true c18;clear c18
         by_cases c19:a0_7≥0
         ·rw [if_pos c19] at H;have c19b0:decide (0≤a0_7)=true:=decide_eq_true c19;clear c19
          by_cases c20:a0_6≤a0_5
          ·rw [if_pos c20] at H;have c20b0:decide (a0_6≤a0_5)=true:=decide_eq_true c20;clear c20
           by_cases c21:a0_5≤a0_4
           ·rw [if_pos c21] at H;have c21b0:decide (a0_5≤a0_4)=true:=decide_eq_true c21;clear c21;obtain rfl:=Option.some.inj H;obtain ⟨hcz22_0,hcz22_1,hcz22_2,hcz22_3,hcz22_4,hcz22_5,hcz22_6,hcz22_7,hfz22_0,hfz22_1,hfz22_2,hfz22_3,hfz22_4,hfz22_5,hfz22_6,hfz22_7⟩:=cf8 BK262
            go_wp2
            go_ret
            exact ⟨ff,bs HB⟩
           ·rw [if_neg c21] at H;have c21b0:decide (a0_5≤a0_4)=false:=decide_eq_false c21;clear c21;obtain rfl:=Option.some.inj H;obtain ⟨hcz23_0,hcz23_1,hcz23_2,hcz23_3,hcz23_4,hcz23_5,hcz23_6,hcz23_7,hfz23_0,hfz23_1,hfz23_2,hfz23_3,hfz23_4,hfz23_5,hfz23_6,hfz23_7⟩:=cf8 BK262
            go_wp2
            go_ret
            exact ⟨ff,bs HB⟩
          ·rw [if_neg c20] at H;have c20b0:decide (a0_6≤a0_5)=false:=decide_eq_false c20;clear c20;obtain rfl:=Option.some.inj H;obtain ⟨hcz24_0,hcz24_1,hcz24_2,hcz24_3,hcz24_4,hcz24_5,hcz24_6,hcz24_7,hfz24_0,hfz24_1,hfz24_2,hfz24_3,hfz24_4,hfz24_5,hfz24_6,hfz24_7⟩:=cf8 BK262
           go_wp2
           go_ret
           exact ⟨ff,bs HB⟩
         ·rw [if_neg c19] at H;have c19b0:decide (0≤a0_7)=false:=decide_eq_false c19;clear c19;obtain rfl:=Option.some.inj H;obtain ⟨hcz25_0,hcz25_1,hcz25_2,hcz25_3,hcz25_4,hcz25_5,hcz25_6,hcz25_7,hfz25_0,hfz25_1,hfz25_2,hfz25_3,hfz25_4,hfz25_5,hfz25_6,hfz25_7⟩:=cf8 BK262
          go_wp2
          go_ret
          exact ⟨ff,bs HB⟩
        ·rw [if_neg c18] at H;have c18b0:decide (0≤a0_6)=false:=decide_eq_false c18;clear c18;obtain rfl:=Option.some.inj H;obtain ⟨hcz26_0,hcz26_1,hcz26_2,hcz26_3,hcz26_4,hcz26_5,hcz26_6,hcz26_7,hfz26_0,hfz26_1,hfz26_2,hfz26_3,hfz26_4,hfz26_5,hfz26_6,hfz26_7⟩:=cf8 BK262
         go_wp2
         go_ret
         exact ⟨ff,bs HB⟩
       ·rw [if_neg c17] at H;have c17b0:decide (0≤a0_5)=false:=decide_eq_false c17;clear c17;obtain rfl:=Option.some.inj H;obtain ⟨hcz27_0,hcz27_1,hcz27_2,hcz27_3,hcz27_4,hcz27_5,hcz27_6,hcz27_7,hfz27_0,hfz27_1,hfz27_2,hfz27_3,hfz27_4,hfz27_5,hfz27_6,hfz27_7⟩:=cf8 BK262
        go_wp2
        go_ret
        exact ⟨ff,bs HB⟩
      ·replace c16:=Bool.eq_false_iff.mpr c16;subst c16
       have H1:(some false)=some r:=by rw [if_neg (show ¬ (false=true) by decide)] at H;exact H
       clear H;have H:=H1;clear H1;obtain rfl:=Option.some.inj H
       go_wp2
       go_ret
       exact ⟨ff,bs HB⟩
     ·rw [if_neg c13] at H;have c13b0:decide (a0_2≤999)=false:=decide_eq_false c13;clear c13;obtain rfl:=Option.some.inj H;obtain ⟨hcz28_0,hcz28_1,hcz28_2,hcz28_3,hcz28_4,hcz28_5,hcz28_6,hcz28_7,hfz28_0,hfz28_1,hfz28_2,hfz28_3,hfz28_4,hfz28_5,hfz28_6,hfz28_7⟩:=cf8 BK262
      go_wp2
      go_ret
      exact ⟨ff,bs HB⟩
    ·rw [if_neg c12] at H;have c12b0:decide (1≤a0_2)=false:=decide_eq_false c12;clear c12;obtain rfl:=Option.some.inj H;obtain ⟨hcz29_0,hcz29_1,hcz29_2,hcz29_3,hcz29_4,hcz29_5,hcz29_6,hcz29_7,hfz29_0,hfz29_1,hfz29_2,hfz29_3,hfz29_4,hfz29_5,hfz29_6,hfz29_7⟩:=cf8 BK262
     go_wp2
     go_ret
     exact ⟨ff,bs HB⟩
   ·replace c11:=Bool.eq_false_iff.mpr c11;subst c11
    have H1:(some false)=some r:=by rw [if_neg (show ¬ (false=true) by decide)] at H;exact H
    clear H;have H:=H1;clear H1;obtain rfl:=Option.some.inj H
    go_wp2
    go_ret
    exact ⟨ff,bs HB⟩
  ·replace c8:=Bool.eq_false_iff.mpr c8;subst c8
   have H1:(some false)=some r:=by rw [if_neg (show ¬ (false=true) by decide)] at H;exact H
   clear H;have H:=H1;clear H1;obtain rfl:=Option.some.inj H
   go_wp2
   go_ret
   exact ⟨ff,bs HB⟩
 ·replace c5:=Bool.eq_false_iff.mpr c5;subst c5
  have H1:(some false)=some r:=by rw [if_neg (show ¬ (false=true) by decide)] at H;exact H
  clear H;have H:=H1;clear H1;obtain rfl:=Option.some.inj H
  go_wp2
  go_ret
  exact ⟨ff,bs HB⟩
end Go.Proofs.Ytjjfjgdhloideaa.QI
namespace Go.Proofs.Ytjjfjgdhloideaa.QI
open Go.RowKit Go.Proofs.YtjjfjgdhloideaaW.PrintWords Go.Proofs.YtjjfjgdhloideaaW.PrintLast Go.Proofs.YtjjfjgdhloideaaW.PrintMore
attribute [local go_sem] max2_int min2_int max_two min_two max_three min_three max_four min_four   -- for this text's walks alone
set_option linter.unusedVariables false
set_option linter.unusedSimpArgs false
set_option maxHeartbeats 8000000 in
set_option maxRecDepth 100000 in
theorem spec_l09Before.calls (a0_0:ByteArray) (a0_1:ByteArray) (a0_2:Int) (a0_3:ByteArray) (a0_4:Int) (a0_5:Int) (a0_6:Int) (a0_7:Int) (a1_0:ByteArray) (a1_1:ByteArray) (a1_2:Int) (a1_3:ByteArray) (a1_4:Int) (a1_5:Int) (a1_6:Int) (a1_7:Int) (r:Bool) (w:World) (h:spec_l09Before.f a0_0 a0_1 a0_2 a0_3 a0_4 a0_5 a0_6 a0_7 a1_0 a1_1 a1_2 a1_3 a1_4 a1_5 a1_6 a1_7=some r) :
  Calls Try.prog 109 #[.agg #[.string a0_0,.string a0_1,.int .i64 a0_2,.string a0_3,.int .i64 a0_4,.int .i64 a0_5,.int .i64 a0_6,.int .i64 a0_7],.agg #[.string a1_0,.string a1_1,.int .i64 a1_2,.string a1_3,.int .i64 a1_4,.int .i64 a1_5,.int .i64 a1_6,.int .i64 a1_7]] w fun e w'=>e=.returned (.bool r)∧Below w.heap.size w w':=by
 have hu73:=Try.underlying73;have HB:=am (Below.refl w.heap.size w);have H:(if a0_0.toList=a1_0.toList then (if a0_1.toList=a1_1.toList then (some (decide (a0_2<a1_2))) else (some (Op.bytesLess a0_1.toList a1_1.toList))) else (some (Op.bytesLess a0_0.toList a1_0.toList)))=some r:=h;clear h
 by_cases c3:a0_0.toList=a1_0.toList
 ·rw [if_pos c3] at H;have c3b0:(a0_0.toList == a1_0.toList)=true:=beq_iff_eq.mpr c3;have c3b1:(a0_0.toList != a1_0.toList)=false:=bne_eq_false_iff_eq.mpr c3;clear c3
  by_cases c4:a0_1.toList=a1_1.toList
  ·rw [if_pos c4] at H;have c4b0:(a0_1.toList == a1_1.toList)=true:=beq_iff_eq.mpr c4;have c4b1:(a0_1.toList != a1_1.toList)=false:=bne_eq_false_iff_eq.mpr c4;clear c4;obtain rfl:=Option.some.inj H
   go_enter Try.func109,Try.ntmps109
   go_wp2_with (first|((with_reducible refine gate_dst (N:=2) rfl ?_);refine bx 2 (cs:=#[.string a0_0,.string a0_1,.int .i64 a0_2,.string a0_3,.int .i64 a0_4,.int .i64 a0_5,.int .i64 a0_6,.int .i64 a0_7]) (t:=73) ?_;intro gb267 hg w5 hbox hb;have BK267:=am (hbox);have GW267:=am ((gs hg (bs HB)));have GE267:=am ((gs hg (bs HB)));replace HB:=am (below_step (bs HB) hb);clear hb hbox hg)|((with_reducible refine gate_dst (N:=3) rfl ?_);refine bx 3 (cs:=#[.string a1_0,.string a1_1,.int .i64 a1_2,.string a1_3,.int .i64 a1_4,.int .i64 a1_5,.int .i64 a1_6,.int .i64 a1_7]) (t:=73) ?_;intro gb268 hg w6 hbox hb;have BK268:=am (hbox);have GW268:=am ((gs hg (bs HB)));have GE268:=am ((gs hg (bs HB)));replace HB:=am (below_step (bs HB) hb);have NB267_268:=am ((gn hg (ks BK267)));have NB268_267:=am ((gm hg (ks BK267)));replace BK267:=am (blk_below (ks BK267) hb);clear hb hbox hg;have hnb7:=NB267_268.out;have hnc7:=NB268_267.out;obtain ⟨hcz8_0,hcz8_1,hcz8_2,hcz8_3,hcz8_4,hcz8_5,hcz8_6,hcz8_7,hfz8_0,hfz8_1,hfz8_2,hfz8_3,hfz8_4,hfz8_5,hfz8_6,hfz8_7⟩:=cf8 BK267;obtain ⟨hcz9_0,hcz9_1,hcz9_2,hcz9_3,hcz9_4,hcz9_5,hcz9_6,hcz9_7,hfz9_0,hfz9_1,hfz9_2,hfz9_3,hfz9_4,hfz9_5,hfz9_6,hfz9_7⟩:=cf8 BK268))
   go_ret
   exact ⟨ff,bs HB⟩
  ·rw [if_neg c4] at H;have c4b0:(a0_1.toList == a1_1.toList)=false:=beq_eq_false_iff_ne.mpr c4;have c4b1:(a0_1.toList != a1_1.toList)=true:=bne_iff_ne.mpr c4;obtain rfl:=Option.some.inj H
   go_enter Try.func109,Try.ntmps109
   go_wp2_with (first|((with_reducible refine gate_dst (N:=2) rfl ?_);refine bx 2 (cs:=#[.string a0_0,.string a0_1,.int .i64 a0_2,.string a0_3,.int .i64 a0_4,.int .i64 a0_5,.int .i64 a0_6,.int .i64 a0_7]) (t:=73) ?_;intro gb267 hg w10 hbox hb;have BK267:=am (hbox);have GW267:=am ((gs hg (bs HB)));have GE267:=am ((gs hg (bs HB)));replace HB:=am (below_step (bs HB) hb);clear hb hbox hg)|((with_reducible refine gate_dst (N:=3) rfl ?_);refine bx 3 (cs:=#[.string a1_0,.string a1_1,.int .i64 a1_2,.string a1_3,.int .i64 a1_4,.int .i64 a1_5,.int .i64 a1_6,.int .i64 a1_7]) (t:=73) ?_;intro gb268 hg w11 hbox hb;have BK268:=am (hbox);have GW268:=am ((gs hg (bs HB)));have GE268:=am ((gs hg (bs HB)));replace HB:=am (below_step (bs HB) hb);have NB267_268:=am ((gn hg (ks BK267)));have NB268_267:=am ((gm hg (ks BK267)));replace BK267:=am (blk_below (ks BK267) hb);clear hb hbox hg;have hnb12:=NB267_268.out;have hnc12:=NB268_267.out;obtain ⟨hcz13_0,hcz13_1,hcz13_2,hcz13_3,hcz13_4,hcz13_5,hcz13_6,hcz13_7,hfz13_0,hfz13_1,hfz13_2,hfz13_3,hfz13_4,hfz13_5,hfz13_6,hfz13_7⟩:=cf8 BK267;obtain ⟨hcz14_0,hcz14_1,hcz14_2,hcz14_3,hcz14_4,hcz14_5,hcz14_6,hcz14_7,hfz14_0,hfz14_1,hfz14_2,hfz14_3,hfz14_4,hfz14_5,hfz14_6,hfz14_7⟩:=cf8 BK268))
   go_ret
   exact ⟨ff,bs HB⟩
 ·rw [if_neg c3] at H;have c3b0:(a0_0.toList == a1_0.toList)=false:=beq_eq_false_iff_ne.mpr c3;have c3b1:(a0_0.toList != a1_0.toList)=true:=bne_iff_ne.mpr c3;obtain rfl:=Option.some.inj H
  go_enter Try.func109,Try.ntmps109
  go_wp2_with (first|((with_reducible refine gate_dst (N:=2) rfl ?_);refine bx 2 (cs:=#[.string a0_0,.string a0_1,.int .i64 a0_2,.string a0_3,.int .i64 a0_4,.int .i64 a0_5,.int .i64 a0_6,.int .i64 a0_7]) (t:=73) ?_;intro gb267 hg w15 hbox hb;have BK267:=am (hbox);have GW267:=am ((gs hg (bs HB)));have GE267:=am ((gs hg (bs HB)));replace HB:=am (below_step (bs HB) hb);clear hb hbox hg)|((with_reducible refine gate_dst (N:=3) rfl ?_);refine bx 3 (cs:=#[.string a1_0,.string a1_1,.int .i64 a1_2,.string a1_3,.int .i64 a1_4,.int .i64 a1_5,.int .i64 a1_6,.int .i64 a1_7]) (t:=73) ?_;intro gb268 hg w16 hbox hb;have BK268:=am (hbox);have GW268:=am ((gs hg (bs HB)));have GE268:=am ((gs hg (bs HB)));replace HB:=am (below_step (bs HB) hb);have NB267_268:=am ((gn hg (ks BK267)));have NB268_267:=am ((gm hg (ks BK267)));replace BK267:=am (blk_below (ks BK267) hb);clear hb hbox hg;have hnb17:=NB267_268.out;have hnc17:=NB268_267.out;obtain ⟨hcz18_0,hcz18_1,hcz18_2,hcz18_3,hcz18_4,hcz18_5,hcz18_6,hcz18_7,hfz18_0,hfz18_1,hfz18_2,hfz18_3,hfz18_4,hfz18_5,hfz18_6,hfz18_7⟩:=cf8 BK267;obtain ⟨hcz19_0,hcz19_1,hcz19_2,hcz19_3,hcz19_4,hcz19_5,hcz19_6,hcz19_7,hfz19_0,hfz19_1,hfz19_2,hfz19_3,hfz19_4,hfz19_5,hfz19_6,hfz19_7⟩:=cf8 BK268))
  go_ret
  exact ⟨ff,bs HB⟩
end Go.Proofs.Ytjjfjgdhloideaa.QI
