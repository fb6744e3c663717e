-- Merged by a program of this session (wip/tool/pack.py) out of its own texts for this claim.
import Derived.Test.YtjbdljhjplidmaaDoorKFnTables0
import Derived.Test.YtjbdljhjplidmaaDoorKFnTables1
import Derived.Test.YtjbdljhjplidmaaDoorKFnTables2
import Derived.Test.YtjbdljhjplidmaaDoorKFnTables3
import Derived.Test.YtjbdljhjplidmaaDoorKFnTables4
import Derived.Test.YtjbdljhjplidmaaDoorKFnTables5
namespace Go.Proofs.YtjbdljhjplidmaaDoor.QF
open Go.RowKit Go.Proofs.YtjbdljhjplidmaaDoorW.PrintWords Go.Proofs.YtjbdljhjplidmaaDoorW.PrintLast Go.Proofs.YtjbdljhjplidmaaDoorW.PrintMore
attribute [local go_sem] max2_int min2_int max_two min_two max_three min_three max_four min_four   -- for this text's walks alone
set_option linter.unusedVariables false
set_option linter.unusedSimpArgs false
set_option maxHeartbeats 8000000 in
set_option maxRecDepth 100000 in
theorem spec_l01Name.calls (k:Nat) (a0:ByteArray) (r:Bool) (w:World) (h:spec_l01Name.f k a0=some r) :
  Calls Tryd.prog 51 #[.string a0] w fun e w'=>e=.returned (.bool r)∧Drawn0 w w':=by
 have H:(if (a0.size:Int)<1 then (spec_l01Name.j0 k a0 true) else (if (a0.size:Int)>12 then (spec_l01Name.j0 k a0 true) else (if 0<(a0.size:Int) then (if (bt a0 0)<65 then (spec_l01Name.j0 k a0 true) else (spec_l01Name.j0 k a0 (decide ((bt a0 0)>90)))) else (none))))=some r:=h;clear h;have HC2:=am H;clear H
 go_enter Tryd.func51,Tryd.ntmps51
 go_upto_region 1 with (fail)
 go_cut [22] (fun v22 wc=>∃ (kq:Nat) (x22_1:Bool),v22=.bool x22_1∧Aside0 (spec_l01Name.j0 kq a0 x22_1=some r)∧Aside0 (kq≤k)∧Drawn0 w wc)
 case first =>
  have H:=HC2.out;clear HC2
  by_cases c3:(a0.size:Int)<1
  ·rw [if_pos c3] at H;have c3b0:decide ((a0.size:Int)<1)=true:=decide_eq_true c3;have c3b1:decide (a0.size<1)=true:=decide_eq_true (by omega);clear c3
   (first|rw [c3b0]|(simp only [i64_w,i32_w];rw [c3b0])|skip)
   have H':=am H;clear H
   go_wp2
   go_meet
   case rel=>exact ⟨_,(true),fg,H',⟨fl⟩,by repeat (first|exact Drawn0.refl _|apply Drawn0.step)⟩
  ·rw [if_neg c3] at H;have c3b0:decide ((a0.size:Int)<1)=false:=decide_eq_false c3;have c3b1:decide (a0.size<1)=false:=decide_eq_false (by omega);clear c3
   (first|rw [c3b0]|(simp only [i64_w,i32_w];rw [c3b0])|skip)
   by_cases c4:(a0.size:Int)>12
   ·rw [if_pos c4] at H;have c4b0:decide (12<(a0.size:Int))=true:=decide_eq_true c4;have c4b1:decide (12<a0.size)=true:=decide_eq_true (by omega);clear c4;have H':=am H;clear H
    go_wp2
    go_meet
    case rel=>exact ⟨_,(true),fg,H',⟨fl⟩,by repeat (first|exact Drawn0.refl _|apply Drawn0.step)⟩
   ·rw [if_neg c4] at H;have c4b0:decide (12<(a0.size:Int))=false:=decide_eq_false c4;have c4b1:decide (12<a0.size)=false:=decide_eq_false (by omega);clear c4
    by_cases c5:0<(a0.size:Int)
    ·rw [if_pos c5] at H;have c5b0:decide (0<(a0.size:Int))=true:=decide_eq_true c5;have c5b1:decide (0<a0.size)=true:=decide_eq_true (by omega);clear c5
     by_cases c7:(bt a0 0)<65
     ·rw [if_pos c7] at H;have c7b0:decide ((bt a0 0)<65)=true:=decide_eq_true c7;clear c7;have H':=am H;clear H;have p6:0≤(0:Int):=(by omega);have q6:0<a0.size:=(by have:(0:Int)<(a0.size:Int):=oa;omega);have hx6:∀ h:0<a0.size,((a0[0]'h).toNat:Int)=bt a0 0:=bt_at a0 0;clear p6;have qi6:(0<(a0.size:Int))=True:=eq_true (oa);replace q6:=eq_true q6
      go_wp2
      go_meet
      case rel=>exact ⟨_,(true),fg,H',⟨fl⟩,by repeat (first|exact Drawn0.refl _|apply Drawn0.step)⟩
     ·rw [if_neg c7] at H;have c7b0:decide ((bt a0 0)<65)=false:=decide_eq_false c7;clear c7;have H':=am H;clear H;have p6:0≤(0:Int):=(by omega);have q6:0<a0.size:=(by have:(0:Int)<(a0.size:Int):=oa;omega);have hx6:∀ h:0<a0.size,((a0[0]'h).toNat:Int)=bt a0 0:=bt_at a0 0;clear p6;have qi6:(0<(a0.size:Int))=True:=eq_true (oa);replace q6:=eq_true q6;have p8:0≤(0:Int):=(by omega);have q8:0<a0.size:=(by have:(0:Int)<(a0.size:Int):=oa;omega);have hx8:∀ h:0<a0.size,((a0[0]'h).toNat:Int)=bt a0 0:=bt_at a0 0;clear p8;have qi8:(0<(a0.size:Int))=True:=eq_true (oa);replace q8:=eq_true q8
      go_wp2
      go_meet
      case rel=>exact ⟨_,(decide ((bt a0 0)>90)),fg,H',⟨fl⟩,by repeat (first|exact Drawn0.refl _|apply Drawn0.step)⟩
    ·rw [if_neg c5] at H
     exact absurd H (by simp)
 case rest =>
  clear HC2
  try clear p2
  try clear c3
  try clear c3b0
  try clear c3b1
  try clear c4
  try clear c4b0
  try clear c4b1
  try clear c5
  try clear c5b0
  try clear c5b1
  try clear p6
  try clear q6
  try clear hx6
  try clear qi6
  try clear c7
  try clear c7b0
  try clear p8
  try clear q8
  try clear hx8
  try clear qi8
  try clear p6
  try clear p8
  try clear q6
  try clear q8
  obtain ⟨kq,x22_1,rfl,HA,HJ1,⟨mc1,rfl⟩⟩:=hcut
  cases kq with
  | zero=>exact absurd HA.out (by simp [spec_l01Name.j0])
  | succ kj1 =>
   have H:=HA.out;clear HA;simp only [spec_l01Name.j0] at H
   by_cases c9:x22_1=true
   ·subst c9
    have H1:(some false)=some r:=by rw [if_pos rfl] at H;exact H
    clear H;have H:=H1;clear H1;obtain rfl:=Option.some.inj H
    go_wp2
    go_ret
    exact ⟨fg,by repeat (first|exact Drawn0.refl _|apply Drawn0.step)⟩
   ·replace c9:=Bool.eq_false_iff.mpr c9;subst c9
    have H1:(spec_l01Name.l0 kj1 a0 0)=some r:=by rw [if_neg (show ¬ (false=true) by decide)] at H;exact H
    clear H;have H:=H1;clear H1;have H':=am H;clear H
    go_wp2
    go_loopg [3] kj1 (fun kq v3 w'=>∃ (x3_2:Int),v3=.int .i64 x3_2∧Aside0 (spec_l01Name.l0 kq a0 x3_2=some r)∧Aside0 (kq≤kj1)∧Drawn0 w w')
    case atStart=>exact ⟨(0),fg,H',⟨Nat.le_refl _⟩,by repeat (first|exact Drawn0.refl _|apply Drawn0.step)⟩
    case round =>
     clear H'
     try clear c1
     try clear p2
     try clear c3
     try clear c3b0
     try clear c3b1
     try clear c4
     try clear c4b0
     try clear c4b1
     try clear c5
     try clear c5b0
     try clear c5b1
     try clear p6
     try clear q6
     try clear hx6
     try clear qi6
     try clear c7
     try clear c7b0
     try clear p8
     try clear q8
     try clear hx8
     try clear qi8
     try clear c9
     try clear p2
     try clear p6
     try clear p8
     try clear q6
     try clear q8
     obtain ⟨x3_2,rfl,HA,HK2,⟨m2,rfl⟩⟩:=hrel
     cases gk with
     | zero=>exact absurd HA.out (by simp [spec_l01Name.l0])
     | succ k2 =>
      have H:=HA.out;clear HA;simp only [spec_l01Name.l0] at H
      by_cases c10:x3_2<(a0.size:Int)
      ·rw [if_pos c10] at H;have c10b0:decide (x3_2<(a0.size:Int))=true:=decide_eq_true c10;clear c10
       by_cases c11:0≤x3_2
       ·rw [if_pos c11] at H;have c11b0:decide (0≤x3_2)=true:=decide_eq_true c11;clear c11
        by_cases c13:(bt a0 x3_2)≥65
        ·rw [if_pos c13] at H;have c13b0:decide (65≤(bt a0 x3_2))=true:=decide_eq_true c13;clear c13
         by_cases c14:(bt a0 x3_2)≤90
         ·rw [if_pos c14] at H;have c14b0:decide ((bt a0 x3_2)≤90)=true:=decide_eq_true c14;clear c14;have H':=am H;clear H;have p12:0≤(x3_2:Int):=oa;have q12:x3_2<(a0.size:Int):=oa;have hx12:=bt_at a0 x3_2;replace p12:=eq_true p12;replace q12:=eq_true q12
          go_wp2
          go_roundg k2
          case measure=>have:=HJ1.out;have:=HK2.out;omega
          case rel=>exact ⟨(wrap64 (x3_2+1)),fg,H',⟨by have:=HJ1.out;have:=HK2.out;omega⟩,by repeat (first|exact Drawn0.refl _|apply Drawn0.step)⟩
         ·rw [if_neg c14] at H;have c14b0:decide ((bt a0 x3_2)≤90)=false:=decide_eq_false c14;clear c14
          by_cases c15:(bt a0 x3_2)≥48
          ·rw [if_pos c15] at H;have c15b0:decide (48≤(bt a0 x3_2))=true:=decide_eq_true c15;clear c15
           by_cases c16:(bt a0 x3_2)≤57
           ·rw [if_pos c16] at H;have c16b0:decide ((bt a0 x3_2)≤57)=true:=decide_eq_true c16;clear c16;have H':=am H;clear H;have p12:0≤(x3_2:Int):=oa;have q12:x3_2<(a0.size:Int):=oa;have hx12:=bt_at a0 x3_2;replace p12:=eq_true p12;replace q12:=eq_true q12
            go_wp2
            go_roundg k2
            case measure=>have:=HJ1.out;have:=HK2.out;omega
            case rel=>exact ⟨(wrap64 (x3_2+1)),fg,H',⟨by have:=HJ1.out;have:=HK2.out;omega⟩,by repeat (first|exact Drawn0.refl _|apply Drawn0.step)⟩
           ·rw [if_neg c16] at H;have c16b0:decide ((bt a0 x3_2)≤57)=false:=decide_eq_false c16;clear c16
            by_cases c17:((bt a0 x3_2)=45)
            ·rw [if_pos c17] at H;have c17b0:((bt a0 x3_2) == 45)=true:=beq_iff_eq.mpr c17;have c17b1:((bt a0 x3_2) != 45)=false:=bne_eq_false_iff_eq.mpr c17;clear c17;have H':=am H;clear H;have p12:0≤(x3_2:Int):=oa;have q12:x3_2<(a0.size:Int):=oa;have hx12:=bt_at a0 x3_2;replace p12:=eq_true p12;replace q12:=eq_true q12
             go_wp2
             go_roundg k2
             case measure=>have:=HJ1.out;have:=HK2.out;omega
             case rel=>exact ⟨(wrap64 (x3_2+1)),fg,H',⟨by have:=HJ1.out;have:=HK2.out;omega⟩,by repeat (first|exact Drawn0.refl _|apply Drawn0.step)⟩
            ·rw [if_neg c17] at H;have c17b0:((bt a0 x3_2) == 45)=false:=beq_eq_false_iff_ne.mpr c17;have c17b1:((bt a0 x3_2) != 45)=true:=bne_iff_ne.mpr c17;obtain rfl:=Option.some.inj H;have p12:0≤(x3_2:Int):=oa;have q12:x3_2<(a0.size:Int):=oa;have hx12:=bt_at a0 x3_2;replace p12:=eq_true p12;replace q12:=eq_true q12
             go_wp2
             go_ret
             exact ⟨fg,by repeat (first|exact Drawn0.refl _|apply Drawn0.step)⟩
          ·rw [if_neg c15] at H;have c15b0:decide (48≤(bt a0 x3_2))=false:=decide_eq_false c15;clear c15
           by_cases c18:((bt a0 x3_2)=45)
           ·rw [if_pos c18] at H;have c18b0:((bt a0 x3_2) == 45)=true:=beq_iff_eq.mpr c18;have c18b1:((bt a0 x3_2) != 45)=false:=bne_eq_false_iff_eq.mpr c18;clear c18;have H':=am H;clear H;have p12:0≤(x3_2:Int):=oa;have q12:x3_2<(a0.size:Int):=oa;have hx12:=bt_at a0 x3_2;replace p12:=eq_true p12;replace q12:=eq_true q12
            go_wp2
            go_roundg k2
            case measure=>have:=HJ1.out;have:=HK2.out;omega
            case rel=>exact ⟨(wrap64 (x3_2+1)),fg,H',⟨by have:=HJ1.out;have:=HK2.out;omega⟩,by repeat (first|exact Drawn0.refl _|apply Drawn0.step)⟩
           ·rw [if_neg c18] at H;have c18b0:((bt a0 x3_2) == 45)=false:=beq_eq_false_iff_ne.mpr c18;have c18b1:((bt a0 x3_2) != 45)=true:=bne_iff_ne.mpr c18;obtain rfl:=Option.some.inj H;have p12:0≤(x3_2:Int):=oa;have q12:x3_2<(a0.size:Int):=oa;have hx12:=bt_at a0 x3_2;replace p12:=eq_true p12;replace q12:=eq_true q12
            go_wp2
            go_ret
            exact ⟨fg,by repeat (first|exact Drawn0.refl _|apply Drawn0.step)⟩
        ·rw [if_neg c13] at H;have c13b0:decide (65≤(bt a0 x3_2))=false:=decide_eq_false c13;clear c13
         by_cases c19:(bt a0 x3_2)≥48
         ·rw [if_pos c19] at H;have c19b0:decide (48≤(bt a0 x3_2))=true:=decide_eq_true c19;clear c19
          by_cases c20:(bt a0 x3_2)≤57
          ·rw [if_pos c20] at H;have c20b0:decide ((bt a0 x3_2)≤57)=true:=decide_eq_true c20;clear c20;have H':=am H;clear H;have p12:0≤(x3_2:Int):=oa;have q12:x3_2<(a0.size:Int):=oa;have hx12:=bt_at a0 x3_2;replace p12:=eq_true p12;replace q12:=eq_true q12
           go_wp2
           go_roundg k2
           case measure=>have:=HJ1.out;have:=HK2.out;omega
           case rel=>exact ⟨(wrap64 (x3_2+1)),fg,H',⟨by have:=HJ1.out;have:=HK2.out;omega⟩,by repeat (first|exact Drawn0.refl _|apply Drawn0.step)⟩
          ·rw [if_neg c20] at H;have c20b0:decide ((bt a0 x3_2)≤57)=false:=decide_eq_false c20;clear c20
           by_cases c21:((bt a0 x3_2)=45)
           ·rw [if_pos c21] at H;have c21b0:((bt a0 x3_2) == 45)=true:=beq_iff_eq.mpr c21;have c21b1:((bt a0 x3_2) != 45)=false:=bne_eq_false_iff_eq.mpr c21;clear c21;have H':=am H;clear H;have p12:0≤(x3_2:Int):=oa;have q12:x3_2<(a0.size:Int):=oa;have hx12:=bt_at a0 x3_2;replace p12:=eq_true p12;replace q12:=eq_true q12
            go_wp2
            go_roundg k2
            case measure=>have:=HJ1.out;have:=HK2.out;omega
            case rel=>exact ⟨(wrap64 (x3_2+1)),fg,H',⟨by have:=HJ1.out;have:=HK2.out;omega⟩,by repeat (first|exact Drawn0.refl _|apply Drawn0.step)⟩
           ·rw [if_neg c21] at H;have c21b0:((bt a0 x3_2) == 45)=false:=beq_eq_false_iff_ne.mpr c21;have c21b1:((bt a0 x3_2) != 45)=true:=bne_iff_ne.mpr c21;obtain rfl:=Option.some.inj H;have p12:0≤(x3_2:Int):=oa;have q12:x3_2<(a0.size:Int):=oa;have hx12:=bt_at a0 x3_2;replace p12:=eq_true p12;replace q12:=eq_true q12
            go_wp2
            go_ret
            exact ⟨fg,by repeat (first|exact Drawn0.refl _|apply Drawn0.step)⟩
         ·rw [if_neg c19] at H;have c19b0:decide (48≤(bt a0 x3_2))=false:=decide_eq_false c19;clear c19
          by_cases c22:((bt a0 x3_2)=45)
          ·rw [if_pos c22] at H;have c22b0:((bt a0 x3_2) == 45)=true:=beq_iff_eq.mpr c22;have c22b1:((bt a0 x3_2) != 45)=false:=bne_eq_false_iff_eq.mpr c22;clear c22;have H':=am H;clear H;have p12:0≤(x3_2:Int):=oa;have q12:x3_2<(a0.size:Int):=oa;have hx12:=bt_at a0 x3_2;replace p12:=eq_true p12;replace q12:=eq_true q12
           go_wp2
           go_roundg k2
           case measure=>have:=HJ1.out;have:=HK2.out;omega
           case rel=>exact ⟨(wrap64 (x3_2+1)),fg,H',⟨by have:=HJ1.out;have:=HK2.out;omega⟩,by repeat (first|exact Drawn0.refl _|apply Drawn0.step)⟩
          ·rw [if_neg c22] at H;have c22b0:((bt a0 x3_2) == 45)=false:=beq_eq_false_iff_ne.mpr c22;have c22b1:((bt a0 x3_2) != 45)=true:=bne_iff_ne.mpr c22;obtain rfl:=Option.some.inj H;have p12:0≤(x3_2:Int):=oa;have q12:x3_2<(a0.size:Int):=oa;have hx12:=bt_at a0 x3_2;replace p12:=eq_true p12;replace q12:=eq_true q12
           go_wp2
           go_ret
           exact ⟨fg,by repeat (first|exact Drawn0.refl _|apply Drawn0.step)⟩
       ·rw [if_neg c11] at H
        exact absurd H (by simp)
      ·rw [if_neg c10] at H;have c10b0:decide (x3_2<(a0.size:Int))=false:=decide_eq_false c10;clear c10;obtain rfl:=Option.some.inj H
       go_wp2
       go_ret
       exact ⟨fg,by repeat (first|exact Drawn0.refl _|apply Drawn0.step)⟩
set_option maxHeartbeats 8000000 in
set_option maxRecDepth 100000 in
theorem spec_l01Qty.calls (a0:Int) (r:Bool) (w:World) (h:spec_l01Qty.f a0=some r) :
  Calls Tryd.prog 52 #[.int .i64 a0] w fun e w'=>e=.returned (.bool r)∧Drawn0 w w':=by
 have H:(if a0≥1 then (some (decide (a0≤1000000))) else (some false))=some r:=h;clear h
 by_cases c2:a0≥1
 ·rw [if_pos c2] at H;have c2b0:decide (1≤a0)=true:=decide_eq_true c2;clear c2;obtain rfl:=Option.some.inj H
  go_enter Tryd.func52,Tryd.ntmps52
  go_wp2
  go_ret
  exact ⟨fg,by repeat (first|exact Drawn0.refl _|apply Drawn0.step)⟩
 ·rw [if_neg c2] at H;have c2b0:decide (1≤a0)=false:=decide_eq_false c2;clear c2;obtain rfl:=Option.some.inj H
  go_enter Tryd.func52,Tryd.ntmps52
  go_wp2
  go_ret
  exact ⟨fg,by repeat (first|exact Drawn0.refl _|apply Drawn0.step)⟩
set_option maxHeartbeats 8000000 in
set_option maxRecDepth 100000 in
theorem spec_l01Day.calls (a0:Int) (r:Bool) (w:World) (h:spec_l01Day.f a0=some r) :
  Calls Tryd.prog 53 #[.int .i64 a0] w fun e w'=>e=.returned (.bool r)∧Drawn0 w w':=by
 have H:(if a0≥0 then (some (decide (a0≤100000))) else (some false))=some r:=h;clear h
 by_cases c2:a0≥0
 ·rw [if_pos c2] at H;have c2b0:decide (0≤a0)=true:=decide_eq_true c2;clear c2;obtain rfl:=Option.some.inj H
  go_enter Tryd.func53,Tryd.ntmps53
  go_wp2
  go_ret
  exact ⟨fg,by repeat (first|exact Drawn0.refl _|apply Drawn0.step)⟩
 ·rw [if_neg c2] at H;have c2b0:decide (0≤a0)=false:=decide_eq_false c2;clear c2;obtain rfl:=Option.some.inj H
  go_enter Tryd.func53,Tryd.ntmps53
  go_wp2
  go_ret
  exact ⟨fg,by repeat (first|exact Drawn0.refl _|apply Drawn0.step)⟩
set_option maxHeartbeats 8000000 in
set_option maxRecDepth 100000 in
theorem spec_l02Part.calls (k:Nat) (a0:ByteArray) (r:Bool) (w:World) (h:spec_l02Part.f k a0=some r) :
  Calls Tryd.prog 54 #[.string a0] w fun e w'=>e=.returned (.bool r)∧Drawn0 w w':=by
 have H:(if (a0.size:Int)>40 then (some false) else (spec_l02Part.l0 k a0 0))=some r:=h;clear h
 by_cases c2:(a0.size:Int)>40
 ·rw [if_pos c2] at H;have c2b0:decide (40<(a0.size:Int))=true:=decide_eq_true c2;have c2b1:decide (40<a0.size)=true:=decide_eq_true (by omega);clear c2;obtain rfl:=Option.some.inj H
  go_enter Tryd.func54,Tryd.ntmps54
  go_wp2
  go_ret
  exact ⟨fg,by repeat (first|exact Drawn0.refl _|apply Drawn0.step)⟩
 ·rw [if_neg c2] at H;have c2b0:decide (40<(a0.size:Int))=false:=decide_eq_false c2;have c2b1:decide (40<a0.size)=false:=decide_eq_false (by omega);clear c2;have H':=am H;clear H
  go_enter Tryd.func54,Tryd.ntmps54
  go_wp2
  go_loopg [3] k (fun kq v3 w'=>∃ (x3_1:Int),v3=.int .i64 x3_1∧Aside0 (spec_l02Part.l0 kq a0 x3_1=some r)∧Aside0 (kq≤k)∧Drawn0 w w')
  case atStart=>exact ⟨(0),fg,H',⟨Nat.le_refl _⟩,by repeat (first|exact Drawn0.refl _|apply Drawn0.step)⟩
  case round =>
   clear H'
   try clear c2
   try clear c2b0
   try clear c2b1
   try clear p2
   obtain ⟨x3_1,rfl,HA,HK1,⟨m1,rfl⟩⟩:=hrel
   cases gk with
   | zero=>exact absurd HA.out (by simp [spec_l02Part.l0])
   | succ k1 =>
    have H:=HA.out;clear HA;simp only [spec_l02Part.l0] at H
    by_cases c3:x3_1<(a0.size:Int)
    ·rw [if_pos c3] at H;have c3b0:decide (x3_1<(a0.size:Int))=true:=decide_eq_true c3;clear c3
     by_cases c4:0≤x3_1
     ·rw [if_pos c4] at H;have c4b0:decide (0≤x3_1)=true:=decide_eq_true c4;clear c4
      by_cases c6:(bt a0 x3_1)<32
      ·rw [if_pos c6] at H;have c6b0:decide ((bt a0 x3_1)<32)=true:=decide_eq_true c6;clear c6;obtain rfl:=Option.some.inj H;have p5:0≤(x3_1:Int):=oa;have q5:x3_1<(a0.size:Int):=oa;have hx5:=bt_at a0 x3_1;replace p5:=eq_true p5;replace q5:=eq_true q5
       go_wp2
       go_ret
       exact ⟨fg,by repeat (first|exact Drawn0.refl _|apply Drawn0.step)⟩
      ·rw [if_neg c6] at H;have c6b0:decide ((bt a0 x3_1)<32)=false:=decide_eq_false c6;clear c6
       by_cases c8:(bt a0 x3_1)>126
       ·rw [if_pos c8] at H;have c8b0:decide (126<(bt a0 x3_1))=true:=decide_eq_true c8;clear c8;obtain rfl:=Option.some.inj H;have p5:0≤(x3_1:Int):=oa;have q5:x3_1<(a0.size:Int):=oa;have hx5:=bt_at a0 x3_1;replace p5:=eq_true p5;replace q5:=eq_true q5;have p7:0≤(x3_1:Int):=oa;have q7:x3_1<(a0.size:Int):=oa;have hx7:=bt_at a0 x3_1;replace p7:=eq_true p7;replace q7:=eq_true q7
        go_wp2
        go_ret
        exact ⟨fg,by repeat (first|exact Drawn0.refl _|apply Drawn0.step)⟩
       ·rw [if_neg c8] at H;have c8b0:decide (126<(bt a0 x3_1))=false:=decide_eq_false c8;clear c8;have H':=am H;clear H;have p5:0≤(x3_1:Int):=oa;have q5:x3_1<(a0.size:Int):=oa;have hx5:=bt_at a0 x3_1;replace p5:=eq_true p5;replace q5:=eq_true q5;have p7:0≤(x3_1:Int):=oa;have q7:x3_1<(a0.size:Int):=oa;have hx7:=bt_at a0 x3_1;replace p7:=eq_true p7;replace q7:=eq_true q7
        go_wp2
        go_roundg k1
        case measure=>have:=HK1.out;omega
        case rel=>exact ⟨(wrap64 (x3_1+1)),fg,H',⟨by have:=HK1.out;omega⟩,by repeat (first|exact Drawn0.refl _|apply Drawn0.step)⟩
     ·rw [if_neg c4] at H
      exact absurd H (by simp)
    ·rw [if_neg c3] at H;have c3b0:decide (x3_1<(a0.size:Int))=false:=decide_eq_false c3;clear c3;obtain rfl:=Option.some.inj H
     go_wp2
     go_ret
     exact ⟨fg,by repeat (first|exact Drawn0.refl _|apply Drawn0.step)⟩
set_option maxHeartbeats 8000000 in
set_option maxRecDepth 100000 in
theorem spec_l04Element.calls (k:Nat) (a0:Int) (A1_0:Option Addr) (c1_0:Nat) (l1_0:List ByteArray) (r:Bool) (w:World) (hr1_0:Kd.C Kd.string w A1_0 l1_0.length l1_0) (hc1_0:l1_0.length≤c1_0) (h:spec_l04Element.f k a0 l1_0=some r) :
  Calls Tryd.prog 30 #[.int .u8 a0,.agg #[.slice A1_0 l1_0.length c1_0]] w fun e w'=>e=.returned (.bool r)∧Below w.heap.size w w':=by
 have hu65:=Tryd.underlying65;have HR1_0:=am hr1_0;have HC1_0:=am hc1_0;clear hr1_0 hc1_0;have HB:=am (Below.refl w.heap.size w);have H:(if (l1_0.length:Int)=1 then (if 0<(l1_0.length:Int) then ((spec_l01Num.f k (rdOf ByteArray.empty l1_0 0)).bind fun bt178=>(if a0=114 then ((spec_l01Name.f k (rdOf ByteArray.empty l1_0 0)).bind fun t180=>(some t180)) else (if a0=110 then (if bt178.2=true then (if bt178.1≥0 then (some (decide (bt178.1≤1000000000))) else (some false)) else (some false)) else (if a0=113 then (if bt178.2=true then ((spec_l01Qty.f bt178.1).bind fun t181=>(some t181)) else (some false)) else (if a0=122 then (if bt178.2=true then (if bt178.1≥(-1000000) then (if bt178.1≤1000000 then (some (bt178.1 != 0)) else (some false)) else (some false)) else (some false)) else (if a0=100 then (if bt178.2=true then ((spec_l01Day.f bt178.1).bind fun t182=>(some t182)) else (some false)) else (if (rdOf ByteArray.empty l1_0 0).toList=([]:List UInt8) then (some false) else ((spec_l02Part.f k (rdOf ByteArray.empty l1_0 0)).bind fun t183=>(some t183))))))))) else (none)) else (some false))=some r:=h;clear h
 by_cases c3:(l1_0.length:Int)=1
 ·rw [if_pos c3] at H;have c3b0:((l1_0.length:Int) == 1)=true:=beq_iff_eq.mpr c3;have c3b1:((l1_0.length:Int) != 1)=false:=bne_eq_false_iff_eq.mpr c3;clear c3
  by_cases c4:0<(l1_0.length:Int)
  ·rw [if_pos c4] at H;have c4b0:decide (0<(l1_0.length:Int))=true:=decide_eq_true c4;have c4b1:decide (0<l1_0.length)=true:=decide_eq_true (by omega);clear c4;replace H:=Option.bind_eq_some_iff.mp H;obtain ⟨⟨t178,t179⟩,A50,H⟩:=H;replace H:(if a0=114 then ((spec_l01Name.f k (rdOf ByteArray.empty l1_0 0)).bind fun t180=>(some t180)) else (if a0=110 then (if t179=true then (if t178≥0 then (some (decide (t178≤1000000000))) else (some false)) else (some false)) else (if a0=113 then (if t179=true then ((spec_l01Qty.f t178).bind fun t181=>(some t181)) else (some false)) else (if a0=122 then (if t179=true then (if t178≥(-1000000) then (if t178≤1000000 then (some (t178 != 0)) else (some false)) else (some false)) else (some false)) else (if a0=100 then (if t179=true then ((spec_l01Day.f t178).bind fun t182=>(some t182)) else (some false)) else (if (rdOf ByteArray.empty l1_0 0).toList=([]:List UInt8) then (some false) else ((spec_l02Part.f k (rdOf ByteArray.empty l1_0 0)).bind fun t183=>(some t183))))))))=some r:=H;have A5:=am A50;clear A50
   go_enter Tryd.func30,Tryd.ntmps30
   try go_wp2_with (first|((with_reducible refine gate_dst (N:=3) rfl ?_);refine bx 3 (cs:=#[.slice A1_0 l1_0.length c1_0]) (t:=65) ?_;intro gb176 hg w6 hbox hb;have BK176:=am (hbox);have GW176:=am ((gs hg (bs HB)));have GE176:=am ((gs hg (bs HB)));replace HB:=am (below_step (bs HB) hb);clear hb hbox hg;obtain ⟨hcz7_0,hfz7_0⟩:=cf1 BK176;have p177:0≤(0:Int):=(by omega);have q177:0<(l1_0.length:Int):=oa;obtain ⟨ad177,e177,hx177_0⟩:=Kd.at_string HR1_0.out 0 p177 q177;cases e177;have qi177:(0<l1_0.length)=True:=eq_true (by omega);(try rw [show ((0:Int)).toNat=0 from rfl] at hx177_0);(try rw [Addr.add_zero'] at hx177_0);replace hx177_0:=cb HB hx177_0;replace p177:=eq_true p177;replace q177:=eq_true q177))
   go_at_call 50;(with_reducible refine (spec_l01Num.calls k (rdOf ByteArray.empty l1_0 0) t178 t179 _ A5.out).mono ?_);rintro e w8 ⟨rfl,hb⟩;replace BK176:=am (blk_below (ks BK176) hb);replace HB:=am (below_step (bs HB) hb);(try clear hb);(try clear hb2);(try clear hk);(try clear hi)
   by_cases c9:a0=114
   ·rw [if_pos c9] at H;have c9b0:(a0 == 114)=true:=beq_iff_eq.mpr c9;have c9b1:(a0 != 114)=false:=bne_eq_false_iff_eq.mpr c9;clear c9;replace H:=Option.bind_eq_some_iff.mp H;obtain ⟨t180,A100,H⟩:=H;replace H:(some t180)=some r:=H;have A10:=am A100;clear A100;obtain rfl:=Option.some.inj H
    go_wp2_with (first|((first|((with_reducible refine gate_callee (f:=51) rfl ?_);refine goesL_ (some 25) rfl rfl Tryd.func51 (by kernel_rfl) rfl #[.string (rdOf ByteArray.empty l1_0 0)] rfl (by (try simp only [List.map_toArray,List.map_cons,List.map_nil]);first|done|rfl|(simp only [List.length_drop,List.length_take];rfl)) ?_;(with_reducible refine (spec_l01Name.calls k (rdOf ByteArray.empty l1_0 0) t180 _ A10.out).mono ?_);rintro e w' ⟨rfl,⟨nd,rfl⟩⟩;refine ⟨_,rfl,?_⟩)|(go_at_call 51;(with_reducible refine (spec_l01Name.calls k (rdOf ByteArray.empty l1_0 0) t180 _ A10.out).mono ?_);rintro e w' ⟨rfl,⟨nd,rfl⟩⟩))))
    go_ret
    exact ⟨ff,bs HB⟩
   ·rw [if_neg c9] at H;have c9b0:(a0 == 114)=false:=beq_eq_false_iff_ne.mpr c9;have c9b1:(a0 != 114)=true:=bne_iff_ne.mpr c9
    by_cases c11:a0=110
    ·rw [if_pos c11] at H;have c11b0:(a0 == 110)=true:=beq_iff_eq.mpr c11;have c11b1:(a0 != 110)=false:=bne_eq_false_iff_eq.mpr c11;clear c11
     by_cases c12:t179=true
     ·subst c12
      have H1:(if t178≥0 then (some (decide (t178≤1000000000))) else (some false))=some r:=by rw [if_pos rfl] at H;exact H
      clear H;have H:=H1;clear H1
      by_cases c13:t178≥0
      ·rw [if_pos c13] at H;have c13b0:decide (0≤t178)=true:=decide_eq_true c13;clear c13;obtain rfl:=Option.some.inj H
       go_wp2
       go_ret
       exact ⟨ff,bs HB⟩
      ·rw [if_neg c13] at H;have c13b0:decide (0≤t178)=false:=decide_eq_false c13;clear c13;obtain rfl:=Option.some.inj H
       go_wp2
       go_ret
       exact ⟨ff,bs HB⟩
     ·replace c12:=Bool.eq_false_iff.mpr c12;subst c12
      have H1:(some false)=some r:=by rw [if_neg (show ¬ (false=true) by decide)] at H;exact H
      clear H;have H:=H1;clear H1;obtain rfl:=Option.some.inj H
      go_wp2
      go_ret
      exact ⟨ff,bs HB⟩
    ·rw [if_neg c11] at H;have c11b0:(a0 == 110)=false:=beq_eq_false_iff_ne.mpr c11;have c11b1:(a0 != 110)=true:=bne_iff_ne.mpr c11
     by_cases c14:a0=113
     ·rw [if_pos c14] at H;have c14b0:(a0 == 113)=true:=beq_iff_eq.mpr c14;have c14b1:(a0 != 113)=false:=bne_eq_false_iff_eq.mpr c14;clear c14
      by_cases c15:t179=true
      ·subst c15
       have H1:((spec_l01Qty.f t178).bind fun t181=>(some t181))=some r:=by rw [if_pos rfl] at H;exact H
       clear H;have H:=H1;clear H1;replace H:=Option.bind_eq_some_iff.mp H;obtain ⟨t181,A160,H⟩:=H;replace H:(some t181)=some r:=H;have A16:=am A160;clear A160;obtain rfl:=Option.some.inj H
       go_wp2_with (first|(go_at_call 52;(with_reducible refine (spec_l01Qty.calls t178 t181 _ A16.out).mono ?_);rintro e w' ⟨rfl,⟨nd,rfl⟩⟩))
       go_ret
       exact ⟨ff,bs HB⟩
      ·replace c15:=Bool.eq_false_iff.mpr c15;subst c15
       have H1:(some false)=some r:=by rw [if_neg (show ¬ (false=true) by decide)] at H;exact H
       clear H;have H:=H1;clear H1;obtain rfl:=Option.some.inj H
       go_wp2
       go_ret
       exact ⟨ff,bs HB⟩
     ·rw [if_neg c14] at H;have c14b0:(a0 == 113)=false:=beq_eq_false_iff_ne.mpr c14;have c14b1:(a0 != 113)=true:=bne_iff_ne.mpr c14
      by_cases c17:a0=122
      ·rw [if_pos c17] at H;have c17b0:(a0 == 122)=true:=beq_iff_eq.mpr c17;have c17b1:(a0 != 122)=false:=bne_eq_false_iff_eq.mpr c17;clear c17
       by_cases c18:t179=true
       ·subst c18
        have H1:(if t178≥(-1000000) then (if t178≤1000000 then (some (t178 != 0)) else (some false)) else (some false))=some r:=by rw [if_pos rfl] at H;exact H
        clear H;have H:=H1;clear H1
        by_cases c19:t178≥(-1000000)
        ·rw [if_pos c19] at H;have c19b0:decide ((-1000000)≤t178)=true:=decide_eq_true c19;clear c19
         by_cases c20:t178≤1000000
         ·rw [if_pos c20] at H;have c20b0:decide (t178≤1000000)=true:=decide_eq_true c20;clear c20;obtain rfl:=Option.some.inj H
          go_wp2
          go_ret
          exact ⟨ff,bs HB⟩
         ·rw [if_neg c20] at H;have c20b0:decide (t178≤1000000)=false:=decide_eq_false c20;clear c20;obtain rfl:=Option.some.inj H
          go_wp2
          go_ret
          exact ⟨ff,bs HB⟩
        ·rw [if_neg c19] at H;have c19b0:decide ((-1000000)≤t178)=false:=decide_eq_false c19;clear c19;obtain rfl:=Option.some.inj H
         go_wp2
         go_ret
         exact ⟨ff,bs HB⟩
       ·replace c18:=Bool.eq_false_iff.mpr c18;subst c18
        have H1:(some false)=some r:=by rw [if_neg (show ¬ (false=true) by decide)] at H;exact H
        clear H;have H:=H1;clear H1;obtain rfl:=Option.some.inj H
        go_wp2
        go_ret
        exact ⟨ff,bs HB⟩
      ·rw [if_neg c17] at H;have c17b0:(a0 == 122)=false:=beq_eq_false_iff_ne.mpr c17;have c17b1:(a0 != 122)=true:=bne_iff_ne.mpr c17
       by_cases c21:a0=100
       ·rw [if_pos c21] at H;have c21b0:(a0 == 100)=true:=beq_iff_eq.mpr c21;have c21b1:(a0 != 100)=false:=bne_eq_false_iff_eq.mpr c21;clear c21
        by_cases c22:t179=true
        ·subst c22
         have H1:((spec_l01Day.f t178).bind fun t182=>(some t182))=some r:=by rw [if_pos rfl] at H;exact H
         clear H;have H:=H1;clear H1;replace H:=Option.bind_eq_some_iff.mp H;obtain ⟨t182,A230,H⟩:=H;replace H:(some t182)=some r:=H;have A23:=am A230;clear A230;obtain rfl:=Option.some.inj H
         go_wp2_with (first|(go_at_call 53;(with_reducible refine (spec_l01Day.calls t178 t182 _ A23.out).mono ?_);rintro e w' ⟨rfl,⟨nd,rfl⟩⟩))
         go_ret
         exact ⟨ff,bs HB⟩
        ·replace c22:=Bool.eq_false_iff.mpr c22;subst c22
         have H1:(some false)=some r:=by rw [if_neg (show ¬ (false=true) by decide)] at H;exact H
         clear H;have H:=H1;clear H1;obtain rfl:=Option.some.inj H
         go_wp2
         go_ret
         exact ⟨ff,bs HB⟩
       ·rw [if_neg c21] at H;have c21b0:(a0 == 100)=false:=beq_eq_false_iff_ne.mpr c21;have c21b1:(a0 != 100)=true:=bne_iff_ne.mpr c21
        by_cases c24:(rdOf ByteArray.empty l1_0 0).toList=([]:List UInt8)
        ·rw [if_pos c24] at H;have c24b0:((rdOf ByteArray.empty l1_0 0).toList == ([]:List UInt8))=true:=beq_iff_eq.mpr c24;have c24b1:((rdOf ByteArray.empty l1_0 0).toList != ([]:List UInt8))=false:=bne_eq_false_iff_eq.mpr c24;clear c24;obtain rfl:=Option.some.inj H
         go_wp2
         go_ret
         exact ⟨ff,bs HB⟩
        ·rw [if_neg c24] at H;have c24b0:((rdOf ByteArray.empty l1_0 0).toList == ([]:List UInt8))=false:=beq_eq_false_iff_ne.mpr c24;have c24b1:((rdOf ByteArray.empty l1_0 0).toList != ([]:List UInt8))=true:=bne_iff_ne.mpr c24;replace H:=Option.bind_eq_some_iff.mp H;obtain ⟨t183,A250,H⟩:=H;replace H:(some t183)=some r:=H;have A25:=am A250;clear A250;obtain rfl:=Option.some.inj H
         go_wp2_with (first|(go_at_call 54;(with_reducible refine (spec_l02Part.calls k (rdOf ByteArray.empty l1_0 0) t183 _ A25.out).mono ?_);rintro e w' ⟨rfl,⟨nd,rfl⟩⟩))
         go_ret
         exact ⟨ff,bs HB⟩
  ·rw [if_neg c4] at H
   exact absurd H (by simp)
 ·rw [if_neg c3] at H;have c3b0:((l1_0.length:Int) == 1)=false:=beq_eq_false_iff_ne.mpr c3;have c3b1:((l1_0.length:Int) != 1)=true:=bne_iff_ne.mpr c3;obtain rfl:=Option.some.inj H
  go_enter Tryd.func30,Tryd.ntmps30
  go_wp2_with (first|((with_reducible refine gate_dst (N:=3) rfl ?_);refine bx 3 (cs:=#[.slice A1_0 l1_0.length c1_0]) (t:=65) ?_;intro gb176 hg w26 hbox hb;have BK176:=am (hbox);have GW176:=am ((gs hg (bs HB)));have GE176:=am ((gs hg (bs HB)));replace HB:=am (below_step (bs HB) hb);clear hb hbox hg;obtain ⟨hcz27_0,hfz27_0⟩:=cf1 BK176))
  go_ret
  exact ⟨ff,bs HB⟩
end Go.Proofs.YtjbdljhjplidmaaDoor.QF
