-- Merged by a program of this session (wip/tool/pack.py) out of its own texts for this claim.
import Derived.Test.YtjbdljhjplidmaaDoorKFnTables0
import Derived.Test.YtjbdljhjplidmaaDoorKFnTables1
import Derived.Test.YtjbdljhjplidmaaDoorKFnTables2
import Derived.Test.YtjbdljhjplidmaaDoorKFnTables3
import Derived.Test.YtjbdljhjplidmaaDoorKFnTables4
import Derived.Test.YtjbdljhjplidmaaDoorKFnTables8
namespace Go.Proofs.YtjbdljhjplidmaaDoor.QF
open Go.RowKit Go.Proofs.YtjbdljhjplidmaaDoorW.PrintWords Go.Proofs.YtjbdljhjplidmaaDoorW.PrintLast Go.Proofs.YtjbdljhjplidmaaDoorW.PrintMore
attribute [local go_sem] max2_int min2_int max_two min_two max_three min_three max_four min_four   -- for this text's walks alone
set_option linter.unusedVariables false
set_option linter.unusedSimpArgs false
set_option maxHeartbeats 8000000 in
set_option maxRecDepth 100000 in
theorem impl_isNumber.calls (k:Nat) (a0:ByteArray) (r:Bool) (w:World) (h:impl_isNumber.f k a0=some r) :
  Calls Tryd.prog 81 #[.string a0] w fun e w'=>e=.returned (.bool r)∧Drawn0 w w':=by
 have H:(if a0.toList=([]:List UInt8) then (impl_isNumber.j0 k a0 a0 false) else (if 0<(a0.size:Int) then (impl_isNumber.j0 k a0 a0 ((bt a0 0) == 45)) else (none)))=some r:=h;clear h;have HC2:=am H;clear H
 go_enter Tryd.func81,Tryd.ntmps81
 go_upto_region 2 with (fail)
 go_cut [12] (fun v12 wc=>∃ (kq:Nat) (x12_1:Bool),v12=.bool x12_1∧Aside0 (impl_isNumber.j0 kq a0 a0 x12_1=some r)∧Aside0 (kq≤k)∧Drawn0 w wc)
 case first =>
  have H:=HC2.out;clear HC2
  by_cases c3:a0.toList=([]:List UInt8)
  ·rw [if_pos c3] at H;have c3b0:(a0.toList == ([]:List UInt8))=true:=beq_iff_eq.mpr c3;have c3b1:(a0.toList != ([]:List UInt8))=false:=bne_eq_false_iff_eq.mpr c3;clear c3
   (first|rw [c3b0]|(simp only [i64_w,i32_w];rw [c3b0])|skip)
   have H':=am H;clear H
   go_wp2
   go_meet
   case rel=>exact ⟨_,(false),fg,H',⟨fl⟩,by repeat (first|exact Drawn0.refl _|apply Drawn0.step)⟩
  ·rw [if_neg c3] at H;have c3b0:(a0.toList == ([]:List UInt8))=false:=beq_eq_false_iff_ne.mpr c3;have c3b1:(a0.toList != ([]:List UInt8))=true:=bne_iff_ne.mpr c3
   (first|rw [c3b0]|(simp only [i64_w,i32_w];rw [c3b0])|skip)
   by_cases c4:0<(a0.size:Int)
   ·rw [if_pos c4] at H;have c4b0:decide (0<(a0.size:Int))=true:=decide_eq_true c4;have c4b1:decide (0<a0.size)=true:=decide_eq_true (by omega);clear c4;have H':=am H;clear H;have p5:0≤(0:Int):=(by omega);have q5:0<a0.size:=(by have:(0:Int)<(a0.size:Int):=oa;omega);have hx5:∀ h:0<a0.size,((a0[0]'h).toNat:Int)=bt a0 0:=bt_at a0 0;clear p5;have qi5:(0<(a0.size:Int))=True:=eq_true (oa);replace q5:=eq_true q5
    go_wp2
    go_meet
    case rel=>exact ⟨_,(((bt a0 0) == 45)),fg,H',⟨fl⟩,by repeat (first|exact Drawn0.refl _|apply Drawn0.step)⟩
   ·rw [if_neg c4] at H
    exact absurd H (by simp)
 case rest =>
  clear HC2
  try clear p2
  try clear c3
  try clear c3b0
  try clear c3b1
  try clear c4
  try clear c4b0
  try clear c4b1
  try clear p5
  try clear q5
  try clear hx5
  try clear qi5
  try clear p5
  try clear q5
  obtain ⟨kq,x12_1,rfl,HA,HJ1,⟨mc1,rfl⟩⟩:=hcut
  cases kq with
  | zero=>exact absurd HA.out (by simp [impl_isNumber.j0])
  | succ kj1 =>
   have H:=HA.out;clear HA;simp only [impl_isNumber.j0] at H;have HC6:=am H;clear H
   go_upto_if 12 with (fail)
   go_cut [3] (fun v3 wc=>∃ (kq:Nat) (x3_5:ByteArray),v3=.string x3_5∧Aside0 (impl_isNumber.j1 kq a0 x3_5=some r)∧Aside0 (kq≤kj1)∧Drawn0 w wc)
   case first =>
    have H:=HC6.out;clear HC6
    by_cases c7:x12_1=true
    ·subst c7
     have H1:(if 1≤(a0.size:Int) then (impl_isNumber.j1 kj1 a0 (a0.extract 1 a0.size)) else (none))=some r:=by rw [if_pos rfl] at H;exact H
     clear H;have H:=H1;clear H1
     by_cases c8:1≤(a0.size:Int)
     ·rw [if_pos c8] at H;have c8b0:=eq_true c8;have c8b1:decide (1≤(a0.size:Int))=true:=decide_eq_true c8;clear c8;have H':=am H;clear H
      go_wp2
      go_meet
      case rel=>exact ⟨_,(a0.extract 1 a0.size),fg,H',⟨by have:=HJ1.out;first|omega|exact Nat.le_refl _⟩,by repeat (first|exact Drawn0.refl _|apply Drawn0.step)⟩
     ·rw [if_neg c8] at H
      exact absurd H (by simp)
    ·replace c7:=Bool.eq_false_iff.mpr c7;subst c7
     have H1:(impl_isNumber.j1 kj1 a0 a0)=some r:=by rw [if_neg (show ¬ (false=true) by decide)] at H;exact H
     clear H;have H:=H1;clear H1;have H':=am H;clear H
     go_wp2
     go_meet
     case rel=>exact ⟨_,(a0),fg,H',⟨by have:=HJ1.out;first|omega|exact Nat.le_refl _⟩,by repeat (first|exact Drawn0.refl _|apply Drawn0.step)⟩
   case rest =>
    clear HC6
    try clear c1
    try clear p2
    try clear c3
    try clear c3b0
    try clear c3b1
    try clear c4
    try clear c4b0
    try clear c4b1
    try clear p5
    try clear q5
    try clear hx5
    try clear qi5
    try clear c7
    try clear c8
    try clear c8b0
    try clear c8b1
    try clear p2
    try clear p5
    try clear q5
    obtain ⟨kq,x3_5,rfl,HA,HJ5,⟨mc5,rfl⟩⟩:=hcut
    cases kq with
    | zero=>exact absurd HA.out (by simp [impl_isNumber.j1])
    | succ kj5 =>
     have H:=HA.out;clear HA;simp only [impl_isNumber.j1] at H;have H':=am H;clear H
     go_wp2
     go_loopg [17] kj5 (fun kq v17 w'=>∃ (x17_3:Int),v17=.int .i64 x17_3∧Aside0 (impl_isNumber.l0 kq a0 x3_5 (x3_5.size:Int) x17_3=some r)∧Aside0 (kq≤kj5)∧Drawn0 w w')
     case atStart=>exact ⟨(0),fg,H',⟨Nat.le_refl _⟩,by repeat (first|exact Drawn0.refl _|apply Drawn0.step)⟩
     case round =>
      clear H'
      try clear c1
      try clear p2
      try clear c3
      try clear c3b0
      try clear c3b1
      try clear c4
      try clear c4b0
      try clear c4b1
      try clear c5
      try clear p5
      try clear q5
      try clear hx5
      try clear qi5
      try clear c7
      try clear c8
      try clear c8b0
      try clear c8b1
      try clear p2
      try clear p5
      try clear q5
      obtain ⟨x17_3,rfl,HA,HK3,⟨m3,rfl⟩⟩:=hrel
      cases gk with
      | zero=>exact absurd HA.out (by simp [impl_isNumber.l0])
      | succ k3 =>
       have H:=HA.out;clear HA;simp only [impl_isNumber.l0] at H
       by_cases c9:x17_3<(x3_5.size:Int)
       ·rw [if_pos c9] at H;have c9b0:decide (x17_3<(x3_5.size:Int))=true:=decide_eq_true c9;clear c9
        by_cases c10:0≤x17_3
        ·rw [if_pos c10] at H;have c10b0:decide (0≤x17_3)=true:=decide_eq_true c10;clear c10
         by_cases c11:x17_3<(x3_5.size:Int)
         ·rw [if_pos c11] at H;have c11b0:decide (x17_3<(x3_5.size:Int))=true:=decide_eq_true c11;clear c11;replace H:=Option.bind_eq_some_iff.mp H;obtain ⟨t294,A130,H⟩:=H;replace H:(if t294=true then (impl_isNumber.l0 k3 a0 x3_5 (x3_5.size:Int) (wrap64 (x17_3+1))) else (some false))=some r:=H;have A13:=am A130;clear A130;have p12:0≤(x17_3:Int):=oa;have q12:x17_3<(x3_5.size:Int):=oa;have hx12:=bt_at x3_5 x17_3;replace p12:=eq_true p12;replace q12:=eq_true q12
          try go_wp2_with (fail)
          go_at_call 79;(with_reducible refine (impl_isDigit.calls (bt x3_5 x17_3) t294 _ A13.out).mono ?_);rintro e w' ⟨rfl,⟨nd,rfl⟩⟩
          by_cases c14:t294=true
          ·subst c14
           have H1:(impl_isNumber.l0 k3 a0 x3_5 (x3_5.size:Int) (wrap64 (x17_3+1)))=some r:=by rw [if_pos rfl] at H;exact H
           clear H;have H:=H1;clear H1;have H':=am H;clear H
           go_wp2
           go_roundg k3
           case measure=>have:=HJ1.out;have:=HJ5.out;have:=HK3.out;omega
           case rel=>exact ⟨(wrap64 (x17_3+1)),fg,H',⟨by have:=HJ1.out;have:=HJ5.out;have:=HK3.out;omega⟩,by repeat (first|exact Drawn0.refl _|apply Drawn0.step)⟩
          ·replace c14:=Bool.eq_false_iff.mpr c14;subst c14
           have H1:(some false)=some r:=by rw [if_neg (show ¬ (false=true) by decide)] at H;exact H
           clear H;have H:=H1;clear H1;obtain rfl:=Option.some.inj H
           go_wp2
           go_ret
           exact ⟨fg,by repeat (first|exact Drawn0.refl _|apply Drawn0.step)⟩
         ·rw [if_neg c11] at H
          exact absurd H (by simp)
        ·rw [if_neg c10] at H
         exact absurd H (by simp)
       ·rw [if_neg c9] at H;have c9b0:decide (x17_3<(x3_5.size:Int))=false:=decide_eq_false c9;clear c9
        by_cases c15:x3_5.toList=([]:List UInt8)
        ·rw [if_pos c15] at H;have c15b0:(x3_5.toList == ([]:List UInt8))=true:=beq_iff_eq.mpr c15;have c15b1:(x3_5.toList != ([]:List UInt8))=false:=bne_eq_false_iff_eq.mpr c15;clear c15;obtain rfl:=Option.some.inj H
         go_wp2
         go_ret
         exact ⟨fg,by repeat (first|exact Drawn0.refl _|apply Drawn0.step)⟩
        ·rw [if_neg c15] at H;have c15b0:(x3_5.toList == ([]:List UInt8))=false:=beq_eq_false_iff_ne.mpr c15;have c15b1:(x3_5.toList != ([]:List UInt8))=true:=bne_iff_ne.mpr c15
         by_cases c16:0<(x3_5.size:Int)
         ·rw [if_pos c16] at H;have c16b0:decide (0<(x3_5.size:Int))=true:=decide_eq_true c16;have c16b1:decide (0<x3_5.size)=true:=decide_eq_true (by omega);clear c16
          by_cases c18:(bt x3_5 0)=48
          ·rw [if_pos c18] at H;have c18b0:((bt x3_5 0) == 48)=true:=beq_iff_eq.mpr c18;have c18b1:((bt x3_5 0) != 48)=false:=bne_eq_false_iff_eq.mpr c18;clear c18;obtain rfl:=Option.some.inj H;have p17:0≤(0:Int):=(by omega);have q17:0<x3_5.size:=(by have:(0:Int)<(x3_5.size:Int):=oa;omega);have hx17:∀ h:0<x3_5.size,((x3_5[0]'h).toNat:Int)=bt x3_5 0:=bt_at x3_5 0;clear p17;have qi17:(0<(x3_5.size:Int))=True:=eq_true (oa);replace q17:=eq_true q17
           go_wp2
           go_ret
           exact ⟨fg,by repeat (first|exact Drawn0.refl _|apply Drawn0.step)⟩
          ·rw [if_neg c18] at H;have c18b0:((bt x3_5 0) == 48)=false:=beq_eq_false_iff_ne.mpr c18;have c18b1:((bt x3_5 0) != 48)=true:=bne_iff_ne.mpr c18;obtain rfl:=Option.some.inj H;have p17:0≤(0:Int):=(by omega);have q17:0<x3_5.size:=(by have:(0:Int)<(x3_5.size:Int):=oa;omega);have hx17:∀ h:0<x3_5.size,((x3_5[0]'h).toNat:Int)=bt x3_5 0:=bt_at x3_5 0;clear p17;have qi17:(0<(x3_5.size:Int))=True:=eq_true (oa);replace q17:=eq_true q17
           go_wp2
           go_ret
           exact ⟨fg,by repeat (first|exact Drawn0.refl _|apply Drawn0.step)⟩
         ·rw [if_neg c16] at H
          exact absurd H (by simp)
def TbP (w : World) : Prop := (∃ ev, w.cell? ⟨2, 0, none⟩ = some ev ∧ (ev = .nilIface ∨ ∃ te pe, ev = .iface te pe)) ∧ ∃ ev, w.cell? ⟨3, 0, none⟩ = some ev ∧ (ev = .nilIface ∨ ∃ te pe, ev = .iface te pe)
theorem tbP {w W : World} (h : Aside0 (TbP w)) (hb : Below w.heap.size w W) : TbP W := by
  obtain ⟨⟨e0, h0, g0⟩, e1, h1, g1⟩ := h.out
  exact ⟨⟨e0, (hb.cell (World.block_lt_of_cell? w _ h0)).trans h0, g0⟩, e1, (hb.cell (World.block_lt_of_cell? w _ h1)).trans h1, g1⟩
set_option maxHeartbeats 8000000 in
set_option maxRecDepth 100000 in
theorem impl_numberIn.calls (k:Nat) (a0:ByteArray) (a1:Int) (a2:Int) (r1:Int) (r2:Bool) (w:World) (hTP:TbP w) (h:impl_numberIn.f k a0 a1 a2=some (r1,r2)) :
  Calls Tryd.prog 61 #[.string a0,.int .i64 a1,.int .i64 a2] w fun e w'=>e=.returned (.tuple #[.int .i64 r1,.bool r2])∧Below w.heap.size w w':=by
 unfold impl_numberIn.f at h
 by_cases c1:a0.size≤281474976710656
 ·rw [if_pos c1] at h
  obtain ⟨⟨e0,g0,t0⟩,e1,g1,t1⟩:=hTP
  cases hp:Lib.parseIntB 64 a0.data.toList with
  | ok v =>
   simp only [hp] at h
   obtain ⟨b,hb,h⟩:=Option.bind_eq_some_iff.mp h;have A1:=am hb;clear hb
   cases b with
   | true =>
    simp only [if_true] at h
    obtain ⟨c,hc,h⟩:=Option.bind_eq_some_iff.mp h;have A2:=am hc;clear hc;obtain ⟨rfl,rfl⟩:=Prod.mk.inj (Option.some.inj h);clear h
    go_enter Tryd.func61,Tryd.ntmps61
    go_wp2_with (go_at_call 80;refine (Any.strconv_ParseInt_10_at64_ok Tryd.laysC174 a0 (by omega) _ hp _).mono ?_;rintro e W1 ⟨rfl,hw⟩)
    have HB:Aside0 (Below w.heap.size w W1):=⟨hw.elim (fun e_=>by rw [e_];exact Below.refl _ _) (fun ⟨t_,e_⟩=>by rw [e_];exact Lib.bytesWorld_below _ _ _)⟩;clear hw
    go_wp2_with (go_at_call 81;refine (impl_isNumber.calls k a0 true _ A1.out).mono ?_;rintro e W2 ⟨rfl,hd⟩;replace HB:=am (below_step HB.out hd.below))
    go_wp2_with (go_at_call 39;refine (impl_within.calls _ a1 a2 _ _ A2.out).mono ?_;rintro e W3 ⟨rfl,hd⟩;replace HB:=am (below_step HB.out hd.below))
    go_ret2
    exact ⟨rfl,HB.out⟩
   | false =>
    simp only [Bool.false_eq_true,if_false] at h
    obtain ⟨rfl,rfl⟩:=Prod.mk.inj (Option.some.inj h);clear h
    go_enter Tryd.func61,Tryd.ntmps61
    go_wp2_with (go_at_call 80;refine (Any.strconv_ParseInt_10_at64_ok Tryd.laysC174 a0 (by omega) _ hp _).mono ?_;rintro e W1 ⟨rfl,hw⟩)
    have HB:Aside0 (Below w.heap.size w W1):=⟨hw.elim (fun e_=>by rw [e_];exact Below.refl _ _) (fun ⟨t_,e_⟩=>by rw [e_];exact Lib.bytesWorld_below _ _ _)⟩;clear hw
    go_wp2_with (go_at_call 81;refine (impl_isNumber.calls k a0 false _ A1.out).mono ?_;rintro e W2 ⟨rfl,hd⟩;replace HB:=am (below_step HB.out hd.below))
    go_ret2
    exact ⟨rfl,HB.out⟩
  | «syntax» =>
   simp only [hp] at h
   obtain ⟨rfl,rfl⟩:=Prod.mk.inj (Option.some.inj h);clear h
   go_enter Tryd.func61,Tryd.ntmps61
   go_wp2_with (go_at_call 80;refine (Any.strconv_ParseInt_10_at64_syntax Tryd.laysC174 a0 c1 hp e0 _ ?_ t0).mono ?_)
   ·exact g0
   rintro e W1 ⟨N,rfl,-,-,hb⟩
   go_wp2
   go_ret2
   exact ⟨rfl,hb⟩
  | range =>
   simp only [hp] at h
   obtain ⟨rfl,rfl⟩:=Prod.mk.inj (Option.some.inj h);clear h
   go_enter Tryd.func61,Tryd.ntmps61
   go_wp2_with (go_at_call 80;refine (Any.strconv_ParseInt_10_at64_range Tryd.laysC174 a0 c1 hp e1 _ ?_ t1).mono ?_)
   ·exact g1
   rintro e W1 ⟨N,rfl,-,-,hb⟩
   go_wp2
   go_ret2
   exact ⟨rfl,hb⟩
 ·rw [if_neg c1] at h;cases h
set_option maxHeartbeats 8000000 in
set_option maxRecDepth 100000 in
theorem impl_isPrinted.calls (k:Nat) (a0:ByteArray) (r:Bool) (w:World) (h:impl_isPrinted.f k a0=some r) :
  Calls Tryd.prog 82 #[.string a0] w fun e w'=>e=.returned (.bool r)∧Drawn0 w w':=by
 have H:(impl_isPrinted.l0 k a0 (a0.size:Int) 0)=some r:=h;clear h;have H':=am H;clear H
 go_enter Tryd.func82,Tryd.ntmps82
 go_wp2
 go_loopg [6] k (fun kq v6 w'=>∃ (x6_1:Int),v6=.int .i64 x6_1∧Aside0 (impl_isPrinted.l0 kq a0 (a0.size:Int) x6_1=some r)∧Aside0 (kq≤k)∧Drawn0 w w')
 case atStart=>exact ⟨(0),fg,H',⟨Nat.le_refl _⟩,by repeat (first|exact Drawn0.refl _|apply Drawn0.step)⟩
 case round =>
  clear H';obtain ⟨x6_1,rfl,HA,HK1,⟨m1,rfl⟩⟩:=hrel
  cases gk with
  | zero=>exact absurd HA.out (by simp [impl_isPrinted.l0])
  | succ k1 =>
   have H:=HA.out;clear HA;simp only [impl_isPrinted.l0] at H
   by_cases c2:x6_1<(a0.size:Int)
   ·rw [if_pos c2] at H;have c2b0:decide (x6_1<(a0.size:Int))=true:=decide_eq_true c2;clear c2
    by_cases c3:0≤x6_1
    ·rw [if_pos c3] at H;have c3b0:decide (0≤x6_1)=true:=decide_eq_true c3;clear c3
     by_cases c4:x6_1<(a0.size:Int)
     ·rw [if_pos c4] at H;have c4b0:decide (x6_1<(a0.size:Int))=true:=decide_eq_true c4;clear c4
      by_cases c6:(bt a0 x6_1)<32
      ·rw [if_pos c6] at H;have c6b0:decide ((bt a0 x6_1)<32)=true:=decide_eq_true c6;clear c6;obtain rfl:=Option.some.inj H;have p5:0≤(x6_1:Int):=oa;have q5:x6_1<(a0.size:Int):=oa;have hx5:=bt_at a0 x6_1;replace p5:=eq_true p5;replace q5:=eq_true q5
       go_wp2
       go_ret
       exact ⟨fg,by repeat (first|exact Drawn0.refl _|apply Drawn0.step)⟩
      ·rw [if_neg c6] at H;have c6b0:decide ((bt a0 x6_1)<32)=false:=decide_eq_false c6;clear c6
       by_cases c8:(bt a0 x6_1)>126
       ·rw [if_pos c8] at H;have c8b0:decide (126<(bt a0 x6_1))=true:=decide_eq_true c8;clear c8;obtain rfl:=Option.some.inj H;have p5:0≤(x6_1:Int):=oa;have q5:x6_1<(a0.size:Int):=oa;have hx5:=bt_at a0 x6_1;replace p5:=eq_true p5;replace q5:=eq_true q5;have p7:0≤(x6_1:Int):=oa;have q7:x6_1<(a0.size:Int):=oa;have hx7:=bt_at a0 x6_1;replace p7:=eq_true p7;replace q7:=eq_true q7
        go_wp2
        go_ret
        exact ⟨fg,by repeat (first|exact Drawn0.refl _|apply Drawn0.step)⟩
       ·rw [if_neg c8] at H;have c8b0:decide (126<(bt a0 x6_1))=false:=decide_eq_false c8;clear c8;have H':=am H;clear H;have p5:0≤(x6_1:Int):=oa;have q5:x6_1<(a0.size:Int):=oa;have hx5:=bt_at a0 x6_1;replace p5:=eq_true p5;replace q5:=eq_true q5;have p7:0≤(x6_1:Int):=oa;have q7:x6_1<(a0.size:Int):=oa;have hx7:=bt_at a0 x6_1;replace p7:=eq_true p7;replace q7:=eq_true q7
        go_wp2
        go_roundg k1
        case measure=>have:=HK1.out;omega
        case rel=>exact ⟨(wrap64 (x6_1+1)),fg,H',⟨by have:=HK1.out;omega⟩,by repeat (first|exact Drawn0.refl _|apply Drawn0.step)⟩
     ·rw [if_neg c4] at H
      exact absurd H (by simp)
    ·rw [if_neg c3] at H
     exact absurd H (by simp)
   ·rw [if_neg c2] at H;have c2b0:decide (x6_1<(a0.size:Int))=false:=decide_eq_false c2;clear c2;obtain rfl:=Option.some.inj H
    go_wp2
    go_ret
    exact ⟨fg,by repeat (first|exact Drawn0.refl _|apply Drawn0.step)⟩
set_option maxHeartbeats 8000000 in
set_option maxRecDepth 100000 in
theorem impl_isPart.calls (k:Nat) (a0:ByteArray) (r:Bool) (w:World) (h:impl_isPart.f k a0=some r) :
  Calls Tryd.prog 62 #[.string a0] w fun e w'=>e=.returned (.bool r)∧Drawn0 w w':=by
 have H:(if (a0.size:Int)≤40 then ((impl_isPrinted.f k a0).bind fun t295=>(some t295)) else (some false))=some r:=h;clear h
 by_cases c2:(a0.size:Int)≤40
 ·rw [if_pos c2] at H;have c2b0:decide ((a0.size:Int)≤40)=true:=decide_eq_true c2;have c2b1:decide (a0.size≤40)=true:=decide_eq_true (by omega);clear c2;replace H:=Option.bind_eq_some_iff.mp H;obtain ⟨t295,A30,H⟩:=H;replace H:(some t295)=some r:=H;have A3:=am A30;clear A30;obtain rfl:=Option.some.inj H
  go_enter Tryd.func62,Tryd.ntmps62
  go_wp2_with (first|(go_at_call 82;(with_reducible refine (impl_isPrinted.calls k a0 t295 _ A3.out).mono ?_);rintro e w' ⟨rfl,⟨nd,rfl⟩⟩))
  go_ret
  exact ⟨fg,by repeat (first|exact Drawn0.refl _|apply Drawn0.step)⟩
 ·rw [if_neg c2] at H;have c2b0:decide ((a0.size:Int)≤40)=false:=decide_eq_false c2;have c2b1:decide (a0.size≤40)=false:=decide_eq_false (by omega);clear c2;obtain rfl:=Option.some.inj H
  go_enter Tryd.func62,Tryd.ntmps62
  go_wp2
  go_ret
  exact ⟨fg,by repeat (first|exact Drawn0.refl _|apply Drawn0.step)⟩
set_option maxHeartbeats 8000000 in
set_option maxRecDepth 100000 in
theorem impl_isOf.calls (k:Nat) (a0:Int) (a1:ByteArray) (r:Bool) (w:World) (hTP:TbP w) (h:impl_isOf.f k a0 a1=some r) :
  Calls Tryd.prog 35 #[.int .u8 a0,.string a1] w fun e w'=>e=.returned (.bool r)∧Below w.heap.size w w':=by
 have HTP:=am hTP;clear hTP
 have HB:=am (Below.refl w.heap.size w);have H:(if a0=114 then ((impl_isName.f k a1).bind fun t296=>(some t296)) else (if a0=110 then ((impl_numberIn.f k a1 0 1000000000).bind fun bt297=>(some bt297.2)) else (if a0=113 then ((impl_numberIn.f k a1 1 1000000).bind fun bt299=>(some bt299.2)) else (if a0=122 then ((impl_numberIn.f k a1 (-1000000) 1000000).bind fun bt301=>(if bt301.2=true then (some (a1.toList != ([48]:List UInt8))) else (some false))) else (if a0=100 then ((impl_numberIn.f k a1 0 100000).bind fun bt303=>(some bt303.2)) else (if a0=116 then (if a1.toList=([]:List UInt8) then (some false) else ((impl_isPart.f k a1).bind fun t305=>(some t305))) else (some false)))))))=some r:=h;clear h
 by_cases c3:a0=114
 ·rw [if_pos c3] at H;have c3b0:(a0 == 114)=true:=beq_iff_eq.mpr c3;have c3b1:(a0 != 114)=false:=bne_eq_false_iff_eq.mpr c3;clear c3;replace H:=Option.bind_eq_some_iff.mp H;obtain ⟨t296,A40,H⟩:=H;replace H:(some t296)=some r:=H;have A4:=am A40;clear A40;obtain rfl:=Option.some.inj H
  go_enter Tryd.func35,Tryd.ntmps35
  go_wp2_with (first|((first|((with_reducible refine gate_callee (f:=60) rfl ?_);refine goesL_ (some 10) rfl rfl Tryd.func60 (by kernel_rfl) rfl #[.string a1] rfl (by (try simp only [List.map_toArray,List.map_cons,List.map_nil]);first|done|rfl|(simp only [List.length_drop,List.length_take];rfl)) ?_;(with_reducible refine (impl_isName.calls k a1 t296 _ A4.out).mono ?_);rintro e w' ⟨rfl,⟨nd,rfl⟩⟩;refine ⟨_,rfl,?_⟩)|(go_at_call 60;(with_reducible refine (impl_isName.calls k a1 t296 _ A4.out).mono ?_);rintro e w' ⟨rfl,⟨nd,rfl⟩⟩))))
  go_ret
  exact ⟨ff,bs HB⟩
 ·rw [if_neg c3] at H;have c3b0:(a0 == 114)=false:=beq_eq_false_iff_ne.mpr c3;have c3b1:(a0 != 114)=true:=bne_iff_ne.mpr c3
  by_cases c5:a0=110
  ·rw [if_pos c5] at H;have c5b0:(a0 == 110)=true:=beq_iff_eq.mpr c5;have c5b1:(a0 != 110)=false:=bne_eq_false_iff_eq.mpr c5;clear c5;replace H:=Option.bind_eq_some_iff.mp H;obtain ⟨⟨t297,t298⟩,A60,H⟩:=H;replace H:(some t298)=some r:=H;have A6:=am A60;clear A60;obtain rfl:=Option.some.inj H
   go_enter Tryd.func35,Tryd.ntmps35
   go_wp2_with (first|((first|((with_reducible refine gate_callee (f:=61) rfl ?_);refine goesL_ (some 15) rfl rfl Tryd.func61 (by kernel_rfl) rfl #[.string a1,.int .i64 0,.int .i64 1000000000] rfl (by (try simp only [List.map_toArray,List.map_cons,List.map_nil]);first|done|rfl|(simp only [List.length_drop,List.length_take];rfl)) ?_;(with_reducible refine (impl_numberIn.calls k a1 0 1000000000 t297 t298 _ (tbP HTP (bs HB)) A6.out).mono ?_);rintro e w7 ⟨rfl,hb⟩;refine ⟨_,rfl,?_⟩)|(go_at_call 61;(with_reducible refine (impl_numberIn.calls k a1 0 1000000000 t297 t298 _ (tbP HTP (bs HB)) A6.out).mono ?_);rintro e w7 ⟨rfl,hb⟩));replace HB:=am (below_step (bs HB) hb);(try clear hb);(try clear hb2);(try clear hk);(try clear hi)))
   go_ret
   exact ⟨ff,bs HB⟩
  ·rw [if_neg c5] at H;have c5b0:(a0 == 110)=false:=beq_eq_false_iff_ne.mpr c5;have c5b1:(a0 != 110)=true:=bne_iff_ne.mpr c5
   by_cases c8:a0=113
   ·rw [if_pos c8] at H;have c8b0:(a0 == 113)=true:=beq_iff_eq.mpr c8;have c8b1:(a0 != 113)=false:=bne_eq_false_iff_eq.mpr c8;clear c8;replace H:=Option.bind_eq_some_iff.mp H;obtain ⟨⟨t299,t300⟩,A90,H⟩:=H;replace H:(some t300)=some r:=H;have A9:=am A90;clear A90;obtain rfl:=Option.some.inj H
    go_enter Tryd.func35,Tryd.ntmps35
    go_wp2_with (first|((first|((with_reducible refine gate_callee (f:=61) rfl ?_);refine goesL_ (some 22) rfl rfl Tryd.func61 (by kernel_rfl) rfl #[.string a1,.int .i64 1,.int .i64 1000000] rfl (by (try simp only [List.map_toArray,List.map_cons,List.map_nil]);first|done|rfl|(simp only [List.length_drop,List.length_take];rfl)) ?_;(with_reducible refine (impl_numberIn.calls k a1 1 1000000 t299 t300 _ (tbP HTP (bs HB)) A9.out).mono ?_);rintro e w10 ⟨rfl,hb⟩;refine ⟨_,rfl,?_⟩)|(go_at_call 61;(with_reducible refine (impl_numberIn.calls k a1 1 1000000 t299 t300 _ (tbP HTP (bs HB)) A9.out).mono ?_);rintro e w10 ⟨rfl,hb⟩));replace HB:=am (below_step (bs HB) hb);(try clear hb);(try clear hb2);(try clear hk);(try clear hi)))
    go_ret
    exact ⟨ff,bs HB⟩
   ·rw [if_neg c8] at H;have c8b0:(a0 == 113)=false:=beq_eq_false_iff_ne.mpr c8;have c8b1:(a0 != 113)=true:=bne_iff_ne.mpr c8
    by_cases c11:a0=122
    ·rw [if_pos c11] at H;have c11b0:(a0 == 122)=true:=beq_iff_eq.mpr c11;have c11b1:(a0 != 122)=false:=bne_eq_false_iff_eq.mpr c11;clear c11;replace H:=Option.bind_eq_some_iff.mp H;obtain ⟨⟨t301,t302⟩,A120,H⟩:=H;replace H:(if t302=true then (some (a1.toList != ([48]:List UInt8))) else (some false))=some r:=H;have A12:=am A120;clear A120
     go_enter Tryd.func35,Tryd.ntmps35
     try go_wp2_with (fail)
     go_at_call 61;(with_reducible refine (impl_numberIn.calls k a1 (-1000000) 1000000 t301 t302 _ (tbP HTP (bs HB)) A12.out).mono ?_);rintro e w13 ⟨rfl,hb⟩;replace HB:=am (below_step (bs HB) hb);(try clear hb);(try clear hb2);(try clear hk);(try clear hi)
     by_cases c14:t302=true
     ·subst c14
      have H1:(some (a1.toList != ([48]:List UInt8)))=some r:=by rw [if_pos rfl] at H;exact H
      clear H;have H:=H1;clear H1;obtain rfl:=Option.some.inj H
      go_wp2
      go_ret
      exact ⟨ff,bs HB⟩
     ·replace c14:=Bool.eq_false_iff.mpr c14;subst c14
      have H1:(some false)=some r:=by rw [if_neg (show ¬ (false=true) by decide)] at H;exact H
      clear H;have H:=H1;clear H1;obtain rfl:=Option.some.inj H
      go_wp2
      go_ret
      exact ⟨ff,bs HB⟩
    ·rw [if_neg c11] at H;have c11b0:(a0 == 122)=false:=beq_eq_false_iff_ne.mpr c11;have c11b1:(a0 != 122)=true:=bne_iff_ne.mpr c11
     by_cases c15:a0=100
     ·rw [if_pos c15] at H;have c15b0:(a0 == 100)=true:=beq_iff_eq.mpr c15;have c15b1:(a0 != 100)=false:=bne_eq_false_iff_eq.mpr c15;clear c15;replace H:=Option.bind_eq_some_iff.mp H;obtain ⟨⟨t303,t304⟩,A160,H⟩:=H;replace H:(some t304)=some r:=H;have A16:=am A160;clear A160;obtain rfl:=Option.some.inj H
      go_enter Tryd.func35,Tryd.ntmps35
      go_wp2_with (first|((first|((with_reducible refine gate_callee (f:=61) rfl ?_);refine goesL_ (some 41) rfl rfl Tryd.func61 (by kernel_rfl) rfl #[.string a1,.int .i64 0,.int .i64 100000] rfl (by (try simp only [List.map_toArray,List.map_cons,List.map_nil]);first|done|rfl|(simp only [List.length_drop,List.length_take];rfl)) ?_;(with_reducible refine (impl_numberIn.calls k a1 0 100000 t303 t304 _ (tbP HTP (bs HB)) A16.out).mono ?_);rintro e w17 ⟨rfl,hb⟩;refine ⟨_,rfl,?_⟩)|(go_at_call 61;(with_reducible refine (impl_numberIn.calls k a1 0 100000 t303 t304 _ (tbP HTP (bs HB)) A16.out).mono ?_);rintro e w17 ⟨rfl,hb⟩));replace HB:=am (below_step (bs HB) hb);(try clear hb);(try clear hb2);(try clear hk);(try clear hi)))
      go_ret
      exact ⟨ff,bs HB⟩
     ·rw [if_neg c15] at H;have c15b0:(a0 == 100)=false:=beq_eq_false_iff_ne.mpr c15;have c15b1:(a0 != 100)=true:=bne_iff_ne.mpr c15
      by_cases c18:a0=116
      ·rw [if_pos c18] at H;have c18b0:(a0 == 116)=true:=beq_iff_eq.mpr c18;have c18b1:(a0 != 116)=false:=bne_eq_false_iff_eq.mpr c18;clear c18
       by_cases c19:a1.toList=([]:List UInt8)
       ·rw [if_pos c19] at H;have c19b0:(a1.toList == ([]:List UInt8))=true:=beq_iff_eq.mpr c19;have c19b1:(a1.toList != ([]:List UInt8))=false:=bne_eq_false_iff_eq.mpr c19;clear c19;obtain rfl:=Option.some.inj H
        go_enter Tryd.func35,Tryd.ntmps35
        go_wp2
        go_ret
        exact ⟨ff,bs HB⟩
       ·rw [if_neg c19] at H;have c19b0:(a1.toList == ([]:List UInt8))=false:=beq_eq_false_iff_ne.mpr c19;have c19b1:(a1.toList != ([]:List UInt8))=true:=bne_iff_ne.mpr c19;replace H:=Option.bind_eq_some_iff.mp H;obtain ⟨t305,A200,H⟩:=H;replace H:(some t305)=some r:=H;have A20:=am A200;clear A200;obtain rfl:=Option.some.inj H
        go_enter Tryd.func35,Tryd.ntmps35
        go_wp2_with (first|(go_at_call 62;(with_reducible refine (impl_isPart.calls k a1 t305 _ A20.out).mono ?_);rintro e w' ⟨rfl,⟨nd,rfl⟩⟩))
        go_ret
        exact ⟨ff,bs HB⟩
      ·rw [if_neg c18] at H;have c18b0:(a0 == 116)=false:=beq_eq_false_iff_ne.mpr c18;have c18b1:(a0 != 116)=true:=bne_iff_ne.mpr c18;obtain rfl:=Option.some.inj H
       go_enter Tryd.func35,Tryd.ntmps35
       go_wp2
       go_ret
       exact ⟨ff,bs HB⟩
def impl_FormRight.T14 : Bool × List (List Nat × List Nat) := (true, [([], []), ([], []), ([1], [1]), ([0, 2], [0, 2]), ([3], [3]), ([4], [4]), ([5, 4], [4, 5]), ([6, 4], [4, 6]), ([7, 4], [4, 7]), ([4, 8], [4, 8]), ([9, 4], [9]), ([10], [10]), ([10], [10]), ([11, 12, 10], [10, 11, 12]), ([10], [10]), ([14, 10], [10, 14]), ([15, 10], [10, 15]), ([16, 10], [10, 16]), ([13, 17, 10, 10], [10, 13, 17]), ([18, 10], [10, 18]), ([10, 19], [10, 19])])
def impl_FormRight.B14 : List Nat := [0, 0, 2, 7, 15, 31, 63, 127, 255, 511, 1023, 2047, 2047, 8191, 2047, 18431, 51199, 116735, 262143, 524287, 1048575]
theorem impl_FormRight.tab14 : rtab .any (opsOf Tryd.f14 14) = impl_FormRight.T14 := by kernel_rfl
theorem impl_FormRight.bits14 : waitsOk impl_FormRight.T14.2 impl_FormRight.B14 = true := by kernel_rfl
set_option maxHeartbeats 8000000 in
set_option maxRecDepth 100000 in
theorem impl_FormRight.calls (k:Nat) (a0:ByteArray) (a1_0:ByteArray) (A1_1:Option Addr) (c1_1:Nat) (l1_1:List (S65)) (r:Int) (w:World) (hr1_1:Kd.C k65 w A1_1 l1_1.length l1_1) (hc1_1:l1_1.length≤c1_1) (hTC:TbC w) (hTP:TbP w) (h:impl_FormRight.f k a0 a1_0 l1_1=some r) :
  Calls Tryd.prog 14 #[.string a0,.agg #[.string a1_0,.slice A1_1 l1_1.length c1_1]] w fun e w'=>e=.returned (.int .i64 r)∧Below w.heap.size w w':=by
 have HTC:=am hTC;clear hTC;have HTP:=am hTP;clear hTP
 have hu36:=Tryd.underlying36;have hu65:=Tryd.underlying65;have HR1_1:=am hr1_1;have HC1_1:=am hc1_1;clear hr1_1 hc1_1;have HB:=am (Below.refl w.heap.size w);have H:((strings_Cut.f a0 (⟨#[63]⟩:ByteArray)).bind fun bt307=>(if bt307.1.size+bt307.2.1.size≤9223372036854775807 then (impl_FormRight.l0 k a0 bt307.1 (bt307.1++bt307.2.1) ((bt307.1++bt307.2.1).size:Int) 0 a1_0 l1_1) else (none)))=some r:=h;clear h;replace H:=Option.bind_eq_some_iff.mp H;obtain ⟨⟨t307,t308,t309⟩,A30,H⟩:=H;replace H:(if t307.size+t308.size≤9223372036854775807 then (impl_FormRight.l0 k a0 t307 (t307++t308) ((t307++t308).size:Int) 0 a1_0 l1_1) else (none))=some r:=H;have A3:=am A30;clear A30
 by_cases c4:t307.size+t308.size≤9223372036854775807
 ·rw [if_pos c4] at H;have c4b0:=eq_true c4;have c4b1:decide (t307.size+t308.size≤9223372036854775807)=true:=decide_eq_true c4
  try have c4b2:(9223372036854775807<t307.size+t308.size)=False:=eq_false (Nat.not_lt.2 c4)
  have H':=am H;clear H
  go_enter Tryd.func14,Tryd.ntmps14
  go_wp2_with (first|((with_reducible refine gate_dst (N:=3) rfl ?_);(try (refine gate_guard (by rfl) ?_;dsimp only));refine bx 3 (cs:=#[.string a1_0,.slice A1_1 l1_1.length c1_1]) (t:=36) ?_;intro gb306 hg w5 hbox hb;have BK306:=am (hbox);have GW306:=am ((gs hg (bs HB)));have GE306:=am ((gs hg (bs HB)));replace HB:=am (below_step (bs HB) hb);clear hb hbox hg)|((first|((with_reducible refine gate_callee (f:=32) rfl ?_);refine goesL_ (some 14) rfl rfl Tryd.func32 (by kernel_rfl) rfl #[.string a0,.string (⟨#[63]⟩:ByteArray)] rfl (by (try simp only [List.map_toArray,List.map_cons,List.map_nil]);first|done|rfl|(simp only [List.length_drop,List.length_take];rfl)) ?_;(with_reducible refine (strings_Cut.calls a0 (⟨#[63]⟩:ByteArray) t307 t308 t309 _ (tbC HTC (bs HB)) A3.out).mono ?_);rintro e w6 ⟨rfl,hb⟩;refine ⟨_,rfl,?_⟩)|(go_at_call 32;(with_reducible refine (strings_Cut.calls a0 (⟨#[63]⟩:ByteArray) t307 t308 t309 _ (tbC HTC (bs HB)) A3.out).mono ?_);rintro e w6 ⟨rfl,hb⟩));replace BK306:=am (blk_below (ks BK306) hb);replace HB:=am (below_step (bs HB) hb);(try clear hb);(try clear hb2);(try clear hk);(try clear hi)))
  go_loopg [23] k (fun kq v23 w'=>∃ (x23_1:Int),v23=.int .i64 x23_1∧Aside0 (impl_FormRight.l0 kq a0 t307 (t307++t308) ((t307++t308).size:Int) x23_1 a1_0 l1_1=some r)∧Aside0 (kq≤k)∧Aside0 (w'.heap[gb306]? = some (.cells #[.string a1_0,(.slice A1_1 l1_1.length c1_1)] 36 (0,0)))∧Aside0 (Below w.heap.size w w'))
  case atStart=>exact ⟨(0),fg,H',⟨Nat.le_refl _⟩,⟨ks BK306⟩,⟨bs HB⟩⟩
  case round =>
   clear H'
   try clear c1
   try clear p2
   try clear c3
   try clear c4
   try clear c4b0
   try clear c4b1
   try clear c4b2
   obtain ⟨x23_1,rfl,HA,HK1,BK306,HB⟩:=hrel
   cases gk with
   | zero=>exact absurd HA.out (by simp [impl_FormRight.l0])
   | succ k1 =>
    have H:=HA.out;clear HA;simp only [impl_FormRight.l0] at H
    by_cases c7:x23_1<((t307++t308).size:Int)
    ·rw [if_pos c7] at H;have c7b0:decide (x23_1<((t307++t308).size:Int))=true:=decide_eq_true c7;(try (have c7b0n:=c7b0;simp only [ByteArray.size_append,jsz_mk,List.size_toArray,List.length_cons,List.length_nil,Nat.zero_add,Nat.reduceAdd,Int.natCast_add,Int.cast_ofNat_Int] at c7b0n));clear c7
     by_cases c8:0≤x23_1
     ·rw [if_pos c8] at H;have c8b0:decide (0≤x23_1)=true:=decide_eq_true c8;clear c8
      by_cases c9:x23_1<((t307++t308).size:Int)
      ·rw [if_pos c9] at H;have c9b0:decide (x23_1<((t307++t308).size:Int))=true:=decide_eq_true c9;(try (have c9b0n:=c9b0;simp only [ByteArray.size_append,jsz_mk,List.size_toArray,List.length_cons,List.length_nil,Nat.zero_add,Nat.reduceAdd,Int.natCast_add,Int.cast_ofNat_Int] at c9b0n));clear c9;replace H:=Option.bind_eq_some_iff.mp H;obtain ⟨t310,A110,H⟩:=H;replace H:(if t310<0 then (some 0) else (impl_FormRight.l0 k1 a0 t307 (t307++t308) ((t307++t308).size:Int) (wrap64 (x23_1+1)) a1_0 l1_1))=some r:=H;have A11:=am A110;clear A110;have p10:0≤(x23_1:Int):=oa;have q10:x23_1<((t307++t308).size:Int):=oa;have hx10:=bt_at (t307++t308) x23_1;replace p10:=eq_true p10;replace q10:=eq_true q10;(try (have q10n:=q10;simp only [ByteArray.size_append,jsz_mk,List.size_toArray,List.length_cons,List.length_nil,Nat.zero_add,Nat.reduceAdd,Int.natCast_add,Int.cast_ofNat_Int] at q10n))
       try go_wp2_with (fail)
       go_at_call 33;(with_reducible refine (strings_IndexByte.calls (⟨#[114,110,113,122,100,116]⟩:ByteArray) (bt (t307++t308) x23_1) t310 _ A11.out).mono ?_);rintro e w' ⟨rfl,⟨nd,rfl⟩⟩
       by_cases c12:t310<0
       ·rw [if_pos c12] at H;have c12b0:decide (t310<0)=true:=decide_eq_true c12;clear c12;obtain rfl:=Option.some.inj H
        go_wp2
        go_ret
        exact ⟨ff,bs HB⟩
       ·rw [if_neg c12] at H;have c12b0:decide (t310<0)=false:=decide_eq_false c12;clear c12;have H':=am H;clear H
        go_wp2
        go_roundg k1
        case measure=>have:=HK1.out;omega
        case rel=>exact ⟨(wrap64 (x23_1+1)),fg,H',⟨by have:=HK1.out;omega⟩,⟨ks BK306⟩,⟨bs HB⟩⟩
      ·rw [if_neg c9] at H
       exact absurd H (by simp)
     ·rw [if_neg c8] at H
      exact absurd H (by simp)
    ·rw [if_neg c7] at H;have c7b0:decide (x23_1<((t307++t308).size:Int))=false:=decide_eq_false c7;(try (have c7b0n:=c7b0;simp only [ByteArray.size_append,jsz_mk,List.size_toArray,List.length_cons,List.length_nil,Nat.zero_add,Nat.reduceAdd,Int.natCast_add,Int.cast_ofNat_Int] at c7b0n));clear c7;obtain ⟨y311,hy311⟩:∃ y_:List ByteArray,y_=(([a0]:List ByteArray)):=⟨_,rfl⟩
     replace H:((impl_longText.f k1 y311).bind fun t314=>(if t314=true then (some 0) else (impl_FormRight.l1 k1 t307 (t307++t308) l1_1 (l1_1.length:Int) 0 a1_0 l1_1)))=some r:=by first|(rw [hy311];with_reducible exact H)|(have H2_:=(Option.bind_some _ _).symm.trans H;rw [hy311];with_reducible exact H2_)|(have H2_:=(Option.bind_some _ _).symm.trans H;with_reducible exact H2_)|with_reducible exact H|(rw [hy311];exact H)|exact H
     have Ny311:=am hy311;clear hy311;replace H:=Option.bind_eq_some_iff.mp H;obtain ⟨t314,A130,H⟩:=H;replace H:(if t314=true then (some 0) else (impl_FormRight.l1 k1 t307 (t307++t308) l1_1 (l1_1.length:Int) 0 a1_0 l1_1))=some r:=H;have A13:=am A130;clear A130
     try go_wp2_with (first|((with_reducible refine gate_dst (N:=33) rfl ?_);(try (refine gate_guard (by rfl) ?_;dsimp only));refine Kd.R_lit Kd.string _ 9 ?hg (N:=33) ?hd (xs:=([a0]:List ByteArray)) (inner:=[.string a0]) (ok:=fun _=>True) (okp:=fun _=>True) ?hr ?hp (fun _ hk=>hk) trivial (Below.refl _ _) (Nat.le_refl _) (by simp) ?_;(case hd=>rfl);(case hg=>rfl);(case hr=>first|(go_simp;done)|(go_simp;rfl));(case hp=>exact (Reps.one (show Kd.M Kd.string _ _ _ a0 [.string a0] from rfl) (Reps.none _ _)));intro v312 w14 ho15 hb hg_ hnew_;clear hg_ hnew_;(first|rw [← Ny311.out] at ho15|(simp only [Int.reduceToNat] at ho15;rw [← Ny311.out] at ho15));have HO313:=am (Kd.R_lower ho15 (below_size (bs HB)));replace BK306:=am (blk_below (ks BK306) hb);replace HB:=am (below_step (bs HB) hb);clear hb ho15;obtain ⟨Ao16,co16,eo16⟩:=Kd.R_slice HO313.out;subst eo16))
     go_at_call 34;(with_reducible refine (impl_longText.calls k1 _ _ y311 t314 _ ?side1 ?side2 A13.out).mono ?_);(case side1=>repeat (first|exact (Kd.R_reads' HO313.out).2.2|(with_reducible refine Kd.C_alloc ?_ _)|(with_reducible refine Kd.C_drewN ?_ _)|(with_reducible refine Kd.C_drew ?_)));(case side2=>exact (Kd.R_reads' HO313.out).2.1);rintro e w' ⟨rfl,⟨nd,rfl⟩⟩
     by_cases c17:t314=true
     ·subst c17
      have H1:(some 0)=some r:=by rw [if_pos rfl] at H;exact H
      clear H;have H:=H1;clear H1;obtain rfl:=Option.some.inj H
      go_wp2
      go_ret
      exact ⟨ff,bs HB⟩
     ·replace c17:=Bool.eq_false_iff.mpr c17;subst c17
      have H1:(impl_FormRight.l1 k1 t307 (t307++t308) l1_1 (l1_1.length:Int) 0 a1_0 l1_1)=some r:=by rw [if_neg (show ¬ (false=true) by decide)] at H;exact H
      clear H;have H:=H1;clear H1;have H':=am H;clear H;obtain ⟨hcz18_0,hcz18_1,hfz18_0,hfz18_1⟩:=cf2 BK306
      go_wp2
      go_loopg [38] k1 (fun kq v38 w'=>∃ (x38_2:Int),v38=.int .i64 x38_2∧Aside0 (impl_FormRight.l1 kq t307 (t307++t308) l1_1 (l1_1.length:Int) x38_2 a1_0 l1_1=some r)∧Aside0 (kq≤k1)∧Aside0 (w'.heap[gb306]? = some (.cells #[.string a1_0,(.slice A1_1 l1_1.length c1_1)] 36 (0,0)))∧Aside0 (Below w.heap.size w w'))
      case atStart=>exact ⟨(0),fg,H',⟨Nat.le_refl _⟩,⟨ks BK306⟩,⟨bs HB⟩⟩
      case round =>
       clear H'
       try clear c1
       try clear p1
       try clear q1
       try clear hx1
       try clear p2
       try clear c3
       try clear c4
       try clear c4b0
       try clear c4b1
       try clear c4b2
       try clear p6
       try clear c7
       try clear c7b0
       try clear c8
       try clear c8b0
       try clear c9
       try clear c9b0
       try clear p10
       try clear q10
       try clear hx10
       try clear c12
       try clear c12b0
       try clear c14
       try clear c17
       try clear hcz18_0
       try clear hcz18_1
       try clear hfz18_0
       try clear hfz18_1
       try clear p10
       try clear p2
       try clear q10
       obtain ⟨x38_2,rfl,HA,HK2,BK306,HB⟩:=hrel
       cases gk with
       | zero=>exact absurd HA.out (by simp [impl_FormRight.l1])
       | succ k2 =>
        have H:=HA.out;clear HA;simp only [impl_FormRight.l1] at H
        by_cases c19:x38_2<(l1_1.length:Int)
        ·rw [if_pos c19] at H;have c19b0:decide (x38_2<(l1_1.length:Int))=true:=decide_eq_true c19;clear c19
         by_cases c20:0≤x38_2
         ·rw [if_pos c20] at H;have c20b0:decide (0≤x38_2)=true:=decide_eq_true c20;clear c20
          by_cases c21:x38_2<(l1_1.length:Int)
          ·rw [if_pos c21] at H;have c21b0:decide (x38_2<(l1_1.length:Int))=true:=decide_eq_true c21;clear c21
           by_cases c22:x38_2=((t307++t308).size:Int)
           ·rw [if_pos c22] at H;have c22b0:(x38_2 == ((t307++t308).size:Int))=true:=beq_iff_eq.mpr c22;(try (have c22b0n:=c22b0;simp only [ByteArray.size_append,jsz_mk,List.size_toArray,List.length_cons,List.length_nil,Nat.zero_add,Nat.reduceAdd,Int.natCast_add,Int.cast_ofNat_Int] at c22b0n));have c22b1:(x38_2 != ((t307++t308).size:Int))=false:=bne_eq_false_iff_eq.mpr c22;(try (have c22b1n:=c22b1;simp only [ByteArray.size_append,jsz_mk,List.size_toArray,List.length_cons,List.length_nil,Nat.zero_add,Nat.reduceAdd,Int.natCast_add,Int.cast_ofNat_Int] at c22b1n));clear c22;obtain rfl:=Option.some.inj H;have p315:0≤(x38_2:Int):=oa;have q315:x38_2<(l1_1.length:Int):=oa;obtain ⟨ad315,A315_0,c315_0,e315,hx315_0,hl315_0,hi315_0⟩:=at_T65 HR1_1.out x38_2 p315 q315
            cases e315
            replace hx315_0:=cb HB hx315_0;have HR315_0:=am hi315_0;have HC315_0:=am hl315_0;clear hi315_0 hl315_0;replace p315:=eq_true p315;replace q315:=eq_true q315
            try go_wp2_with (first|((with_reducible refine gate_dst (N:=11) rfl ?_);(try (refine gate_guard (by rfl) ?_;dsimp only));refine bx 11 (cs:=#[.slice none 0 0]) (t:=65) ?_;intro gb316 hg w23 hbox hb;have BK316:=am (hbox);have GW316:=am ((gs hg (bs HB)));have GE316:=am ((gs hg (bs HB)));replace HB:=am (below_step (bs HB) hb);have NB306_316:=am ((gn hg (ks BK306)));have NB316_306:=am ((gm hg (ks BK306)));replace BK306:=am (blk_below (ks BK306) hb);clear hb hbox hg;have hnb24:=NB316_306.out;have hnc24:=NB306_316.out;obtain ⟨hcz25_0,hfz25_0⟩:=cf1 BK316))
            have n0_:Aside0 ((w23.setCell ⟨gb316,0,none⟩ (.slice A315_0 ((rd_T65 l1_1 x38_2).f0).length c315_0)).heap[gb306]? = some (.cells #[.string a1_0,.slice (some ad315) l1_1.length c1_1] 36 (0,0))):=⟨ks BK306⟩;have n1_:Aside0 ((w23.setCell ⟨gb316,0,none⟩ (.slice A315_0 ((rd_T65 l1_1 x38_2).f0).length c315_0)).heap[gb316]? = some (.cells #[.slice A315_0 ((rd_T65 l1_1 x38_2).f0).length c315_0] 65 (0,0))):=⟨kp BK316⟩;have n2_:Aside0 (Below w.heap.size w (w23.setCell ⟨gb316,0,none⟩ (.slice A315_0 ((rd_T65 l1_1 x38_2).f0).length c315_0))):=⟨bs HB⟩;(try clear BK306);(try clear BK316);(try clear HB)
            generalize (w23.setCell ⟨gb316,0,none⟩ (.slice A315_0 ((rd_T65 l1_1 x38_2).f0).length c315_0))=w26 at n0_ n1_ n2_ ⊢
            have BK306:=n0_;have BK316:=n1_;have HB:=n2_;clear n0_ n1_ n2_;replace BK306:=am (blk_drew BK306.out);replace BK316:=am (blk_drew BK316.out);replace HB:=am (below_drew1 HB.out);refine start_ (n:=21) (S:=fun w'=>True) (ds:=[]) _ (by kernel_rfl) rfl rfl trivial (fun hHeld=>?_);refine with_tabW impl_FormRight.tab14 impl_FormRight.bits14 (fun HT_ HW_=>?_)
            generalize w26.drew=w27 at BK306 BK316 HB hHeld ⊢
            refine pA 0 43 HT_ ?_;refine pA 1 44 HT_ ?_;refine pA 2 45 HT_ ?_;refine pA 3 46 HT_ ?_;refine pA 4 47 HT_ ?_;refine pB 5 48 HT_ ?_;refine pB 6 49 HT_ ?_;refine pB 7 50 HT_ ?_;refine pB 8 51 HT_ ?_;refine pA 9 52 HT_ ?_;refine pA 10 53 HT_ ?_;refine pB 11 54 HT_ ?_;refine pB 12 55 HT_ ?_;refine pB 13 56 HT_ ?_;refine pB 14 57 HT_ ?_;refine pB 15 58 HT_ ?_;refine pB 16 59 HT_ ?_;refine pB 17 60 HT_ ?_;refine pB 18 61 HT_ ?_;refine pB 19 62 HT_ ?_;refine pA 20 63 HT_ ?_;refine done_ (done_of HT_.out (by kernel_rfl)) ?_
            try go_wp2
            go_ret
            exact ⟨ff,bs HB⟩
           ·rw [if_neg c22] at H;have c22b0:(x38_2 == ((t307++t308).size:Int))=false:=beq_eq_false_iff_ne.mpr c22;(try (have c22b0n:=c22b0;simp only [ByteArray.size_append,jsz_mk,List.size_toArray,List.length_cons,List.length_nil,Nat.zero_add,Nat.reduceAdd,Int.natCast_add,Int.cast_ofNat_Int] at c22b0n));have c22b1:(x38_2 != ((t307++t308).size:Int))=true:=bne_iff_ne.mpr c22;(try (have c22b1n:=c22b1;simp only [ByteArray.size_append,jsz_mk,List.size_toArray,List.length_cons,List.length_nil,Nat.zero_add,Nat.reduceAdd,Int.natCast_add,Int.cast_ofNat_Int] at c22b1n))
            by_cases c28:(((rd_T65 l1_1 x38_2).f0).length:Int)=1
            ·rw [if_pos c28] at H;have c28b0:((((rd_T65 l1_1 x38_2).f0).length:Int) == 1)=true:=beq_iff_eq.mpr c28;have c28b1:((((rd_T65 l1_1 x38_2).f0).length:Int) != 1)=false:=bne_eq_false_iff_eq.mpr c28;clear c28
             by_cases c29:x38_2<((t307++t308).size:Int)
             ·rw [if_pos c29] at H;have c29b0:decide (x38_2<((t307++t308).size:Int))=true:=decide_eq_true c29;(try (have c29b0n:=c29b0;simp only [ByteArray.size_append,jsz_mk,List.size_toArray,List.length_cons,List.length_nil,Nat.zero_add,Nat.reduceAdd,Int.natCast_add,Int.cast_ofNat_Int] at c29b0n));clear c29
              by_cases c31:0<(((rd_T65 l1_1 x38_2).f0).length:Int)
              ·rw [if_pos c31] at H;have c31b0:decide (0<(((rd_T65 l1_1 x38_2).f0).length:Int))=true:=decide_eq_true c31;have c31b1:decide (0<((rd_T65 l1_1 x38_2).f0).length)=true:=decide_eq_true (by omega);clear c31;replace H:=Option.bind_eq_some_iff.mp H;obtain ⟨t318,A320,H⟩:=H;replace H:(if t318=true then (impl_FormRight.l1 k2 t307 (t307++t308) l1_1 (l1_1.length:Int) (wrap64 (x38_2+1)) a1_0 l1_1) else (some x38_2))=some r:=H;have A32:=am A320;clear A320
               by_cases c33:t318=true
               ·subst c33
                have H1:(impl_FormRight.l1 k2 t307 (t307++t308) l1_1 (l1_1.length:Int) (wrap64 (x38_2+1)) a1_0 l1_1)=some r:=by rw [if_pos rfl] at H;exact H
                clear H;have H:=H1;clear H1;have H':=am H;clear H;have p315:0≤(x38_2:Int):=oa;have q315:x38_2<(l1_1.length:Int):=oa;obtain ⟨ad315,A315_0,c315_0,e315,hx315_0,hl315_0,hi315_0⟩:=at_T65 HR1_1.out x38_2 p315 q315
                cases e315
                replace hx315_0:=cb HB hx315_0;have HR315_0:=am hi315_0;have HC315_0:=am hl315_0;clear hi315_0 hl315_0;replace p315:=eq_true p315;replace q315:=eq_true q315
                try go_wp2_with (first|((with_reducible refine gate_dst (N:=11) rfl ?_);(try (refine gate_guard (by rfl) ?_;dsimp only));refine bx 11 (cs:=#[.slice none 0 0]) (t:=65) ?_;intro gb316 hg w34 hbox hb;have BK316:=am (hbox);have GW316:=am ((gs hg (bs HB)));have GE316:=am ((gs hg (bs HB)));replace HB:=am (below_step (bs HB) hb);have NB306_316:=am ((gn hg (ks BK306)));have NB316_306:=am ((gm hg (ks BK306)));replace BK306:=am (blk_below (ks BK306) hb);clear hb hbox hg;have hnb35:=NB316_306.out;have hnc35:=NB306_316.out;obtain ⟨hcz36_0,hfz36_0⟩:=cf1 BK316))
                have n0_:Aside0 ((w34.setCell ⟨gb316,0,none⟩ (.slice A315_0 ((rd_T65 l1_1 x38_2).f0).length c315_0)).heap[gb306]? = some (.cells #[.string a1_0,.slice (some ad315) l1_1.length c1_1] 36 (0,0))):=⟨ks BK306⟩;have n1_:Aside0 ((w34.setCell ⟨gb316,0,none⟩ (.slice A315_0 ((rd_T65 l1_1 x38_2).f0).length c315_0)).heap[gb316]? = some (.cells #[.slice A315_0 ((rd_T65 l1_1 x38_2).f0).length c315_0] 65 (0,0))):=⟨kp BK316⟩;have n2_:Aside0 (Below w.heap.size w (w34.setCell ⟨gb316,0,none⟩ (.slice A315_0 ((rd_T65 l1_1 x38_2).f0).length c315_0))):=⟨bs HB⟩;(try clear BK306);(try clear BK316);(try clear HB)
                generalize (w34.setCell ⟨gb316,0,none⟩ (.slice A315_0 ((rd_T65 l1_1 x38_2).f0).length c315_0))=w37 at n0_ n1_ n2_ ⊢
                have BK306:=n0_;have BK316:=n1_;have HB:=n2_;clear n0_ n1_ n2_;replace BK306:=am (blk_drew BK306.out);replace BK316:=am (blk_drew BK316.out);replace HB:=am (below_drew1 HB.out);have p30:0≤(x38_2:Int):=oa;have q30:x38_2<((t307++t308).size:Int):=oa;have hx30:=bt_at (t307++t308) x38_2;replace p30:=eq_true p30;replace q30:=eq_true q30;(try (have q30n:=q30;simp only [ByteArray.size_append,jsz_mk,List.size_toArray,List.length_cons,List.length_nil,Nat.zero_add,Nat.reduceAdd,Int.natCast_add,Int.cast_ofNat_Int] at q30n));have p317:0≤(0:Int):=(by omega);have q317:0<(((rd_T65 l1_1 x38_2).f0).length:Int):=oa;obtain ⟨ad317,e317,hx317_0⟩:=Kd.at_string HR315_0.out 0 p317 q317;have hw317_0:=hx317_0
                (try rw [show ((0:Int)).toNat=0 from rfl] at hw317_0)
                (try rw [show 0 * 1=0 from rfl] at hw317_0)
                (try rw [Addr.add_zero'] at hw317_0)
                cases e317
                have qi317:(0<((rd_T65 l1_1 x38_2).f0).length)=True:=eq_true (by omega)
                (try rw [show ((0:Int)).toNat=0 from rfl] at hx317_0)
                (try rw [Addr.add_zero'] at hx317_0)
                replace hx317_0:=cb HB hx317_0;replace p317:=eq_true p317;replace q317:=eq_true q317;refine start_ (n:=21) (S:=fun w'=>w'.cell? ⟨gb316,0,none⟩=some (.slice (some ad317) ((rd_T65 l1_1 x38_2).f0).length c315_0)∧w'.cell? ad317=some (.string (rdOf ByteArray.empty ((rd_T65 l1_1 x38_2).f0) 0))) (ds:=[]) _ (by kernel_rfl) rfl rfl ⟨(blk_cell BK316.out 0).trans rfl,((cb HB hw317_0).trans rfl)⟩ (fun hHeld=>?_);refine with_tabW impl_FormRight.tab14 impl_FormRight.bits14 (fun HT_ HW_=>?_)
                generalize w37.drew=w38 at BK306 BK316 HB hx317_0 hHeld ⊢
                refine pA 0 43 HT_ ?_;refine pA 1 44 HT_ ?_;refine pA 2 45 HT_ ?_;refine pA 3 46 HT_ ?_;refine pA 4 47 HT_ ?_;refine pA 5 48 HT_ ?_;refine tA 6 49 HT_ HW_ hHeld ?_;refine pA 7 50 HT_ ?_;refine pA 8 51 HT_ ?_;refine pA 9 52 HT_ ?_;refine pA 10 53 HT_ ?_;refine pA 11 54 HT_ ?_;refine pA 12 55 HT_ ?_;refine pA 14 57 HT_ ?_;refine tA 13 56 HT_ HW_ hHeld ?_;refine tA 15 58 HT_ HW_ hHeld ?_;refine pA 16 59 HT_ ?_;refine tA 17 60 HT_ HW_ hHeld ?_;refine oA 18 61 HT_ (fun K hK=>?_);refine gA Tryd.func35 #[.int .u8 (bt (t307++t308) x38_2),.string (rdOf ByteArray.empty ((rd_T65 l1_1 x38_2).f0) 0)] ?_;(with_reducible refine (impl_isOf.calls k2 (bt (t307++t308) x38_2) (rdOf ByteArray.empty ((rd_T65 l1_1 x38_2).f0) 0) true _ (tbP HTP (bs HB)) A32.out).mono ?_);rintro e w39 ⟨rfl,hb⟩;refine ⟨_,rfl,?_⟩;replace BK306:=am (blk_below (ks BK306) hb);replace BK316:=am (blk_below (ks BK316) hb);replace HB:=am (below_step (bs HB) hb);(try clear hb);(try clear hb2);(try clear hk);(try clear hi);refine hK.out _ _ ⟨(blk_cell BK316.out 0).trans rfl,((cb HB hw317_0).trans rfl)⟩ (fun hHeld=>?_);clear hK K;refine nA 61 ?_;refine pA 19 62 HT_ ?_;refine pA 20 63 HT_ ?_;refine done_ (done_of HT_.out (by kernel_rfl)) ?_
                try go_wp2
                go_roundg k2
                case measure=>have:=HK1.out;have:=HK2.out;omega
                case rel=>exact ⟨(wrap64 (x38_2+1)),fg,H',⟨by have:=HK1.out;have:=HK2.out;omega⟩,⟨ks BK306⟩,⟨bs HB⟩⟩
               ·replace c33:=Bool.eq_false_iff.mpr c33;subst c33
                have H1:(some x38_2)=some r:=by rw [if_neg (show ¬ (false=true) by decide)] at H;exact H
                clear H;have H:=H1;clear H1;obtain rfl:=Option.some.inj H;have p315:0≤(x38_2:Int):=oa;have q315:x38_2<(l1_1.length:Int):=oa;obtain ⟨ad315,A315_0,c315_0,e315,hx315_0,hl315_0,hi315_0⟩:=at_T65 HR1_1.out x38_2 p315 q315
                cases e315
                replace hx315_0:=cb HB hx315_0;have HR315_0:=am hi315_0;have HC315_0:=am hl315_0;clear hi315_0 hl315_0;replace p315:=eq_true p315;replace q315:=eq_true q315
                try go_wp2_with (first|((with_reducible refine gate_dst (N:=11) rfl ?_);(try (refine gate_guard (by rfl) ?_;dsimp only));refine bx 11 (cs:=#[.slice none 0 0]) (t:=65) ?_;intro gb316 hg w40 hbox hb;have BK316:=am (hbox);have GW316:=am ((gs hg (bs HB)));have GE316:=am ((gs hg (bs HB)));replace HB:=am (below_step (bs HB) hb);have NB306_316:=am ((gn hg (ks BK306)));have NB316_306:=am ((gm hg (ks BK306)));replace BK306:=am (blk_below (ks BK306) hb);clear hb hbox hg;have hnb41:=NB316_306.out;have hnc41:=NB306_316.out;obtain ⟨hcz42_0,hfz42_0⟩:=cf1 BK316))
                have n0_:Aside0 ((w40.setCell ⟨gb316,0,none⟩ (.slice A315_0 ((rd_T65 l1_1 x38_2).f0).length c315_0)).heap[gb306]? = some (.cells #[.string a1_0,.slice (some ad315) l1_1.length c1_1] 36 (0,0))):=⟨ks BK306⟩;have n1_:Aside0 ((w40.setCell ⟨gb316,0,none⟩ (.slice A315_0 ((rd_T65 l1_1 x38_2).f0).length c315_0)).heap[gb316]? = some (.cells #[.slice A315_0 ((rd_T65 l1_1 x38_2).f0).length c315_0] 65 (0,0))):=⟨kp BK316⟩;have n2_:Aside0 (Below w.heap.size w (w40.setCell ⟨gb316,0,none⟩ (.slice A315_0 ((rd_T65 l1_1 x38_2).f0).length c315_0))):=⟨bs HB⟩;(try clear BK306);(try clear BK316);(try clear HB)
                generalize (w40.setCell ⟨gb316,0,none⟩ (.slice A315_0 ((rd_T65 l1_1 x38_2).f0).length c315_0))=w43 at n0_ n1_ n2_ ⊢
                have BK306:=n0_;have BK316:=n1_;have HB:=n2_;clear n0_ n1_ n2_;replace BK306:=am (blk_drew BK306.out);replace BK316:=am (blk_drew BK316.out);replace HB:=am (below_drew1 HB.out);have p30:0≤(x38_2:Int):=oa;have q30:x38_2<((t307++t308).size:Int):=oa;have hx30:=bt_at (t307++t308) x38_2;replace p30:=eq_true p30;replace q30:=eq_true q30;(try (have q30n:=q30;simp only [ByteArray.size_append,jsz_mk,List.size_toArray,List.length_cons,List.length_nil,Nat.zero_add,Nat.reduceAdd,Int.natCast_add,Int.cast_ofNat_Int] at q30n));have p317:0≤(0:Int):=(by omega);have q317:0<(((rd_T65 l1_1 x38_2).f0).length:Int):=oa;obtain ⟨ad317,e317,hx317_0⟩:=Kd.at_string HR315_0.out 0 p317 q317;have hw317_0:=hx317_0
                (try rw [show ((0:Int)).toNat=0 from rfl] at hw317_0)
                (try rw [show 0 * 1=0 from rfl] at hw317_0)
                (try rw [Addr.add_zero'] at hw317_0)
                cases e317
                have qi317:(0<((rd_T65 l1_1 x38_2).f0).length)=True:=eq_true (by omega)
                (try rw [show ((0:Int)).toNat=0 from rfl] at hx317_0)
                (try rw [Addr.add_zero'] at hx317_0)
                replace hx317_0:=cb HB hx317_0;replace p317:=eq_true p317;replace q317:=eq_true q317;refine start_ (n:=21) (S:=fun w'=>w'.cell? ⟨gb316,0,none⟩=some (.slice (some ad317) ((rd_T65 l1_1 x38_2).f0).length c315_0)∧w'.cell? ad317=some (.string (rdOf ByteArray.empty ((rd_T65 l1_1 x38_2).f0) 0))) (ds:=[]) _ (by kernel_rfl) rfl rfl ⟨(blk_cell BK316.out 0).trans rfl,((cb HB hw317_0).trans rfl)⟩ (fun hHeld=>?_);refine with_tabW impl_FormRight.tab14 impl_FormRight.bits14 (fun HT_ HW_=>?_)
                generalize w43.drew=w44 at BK306 BK316 HB hx317_0 hHeld ⊢
                refine pA 0 43 HT_ ?_;refine pA 1 44 HT_ ?_;refine pA 2 45 HT_ ?_;refine pA 3 46 HT_ ?_;refine pA 4 47 HT_ ?_;refine pA 5 48 HT_ ?_;refine tA 6 49 HT_ HW_ hHeld ?_;refine pA 7 50 HT_ ?_;refine pA 8 51 HT_ ?_;refine pA 9 52 HT_ ?_;refine pA 10 53 HT_ ?_;refine pA 11 54 HT_ ?_;refine pA 12 55 HT_ ?_;refine pA 14 57 HT_ ?_;refine tA 13 56 HT_ HW_ hHeld ?_;refine tA 15 58 HT_ HW_ hHeld ?_;refine pA 16 59 HT_ ?_;refine tA 17 60 HT_ HW_ hHeld ?_;refine oA 18 61 HT_ (fun K hK=>?_);refine gA Tryd.func35 #[.int .u8 (bt (t307++t308) x38_2),.string (rdOf ByteArray.empty ((rd_T65 l1_1 x38_2).f0) 0)] ?_;(with_reducible refine (impl_isOf.calls k2 (bt (t307++t308) x38_2) (rdOf ByteArray.empty ((rd_T65 l1_1 x38_2).f0) 0) false _ (tbP HTP (bs HB)) A32.out).mono ?_);rintro e w45 ⟨rfl,hb⟩;refine ⟨_,rfl,?_⟩;replace BK306:=am (blk_below (ks BK306) hb);replace BK316:=am (blk_below (ks BK316) hb);replace HB:=am (below_step (bs HB) hb);(try clear hb);(try clear hb2);(try clear hk);(try clear hi);refine hK.out _ _ ⟨(blk_cell BK316.out 0).trans rfl,((cb HB hw317_0).trans rfl)⟩ (fun hHeld=>?_);clear hK K;refine nA 61 ?_;refine pA 19 62 HT_ ?_;refine pA 20 63 HT_ ?_;refine done_ (done_of HT_.out (by kernel_rfl)) ?_
                try go_wp2
                go_ret
                exact ⟨ff,bs HB⟩
              ·rw [if_neg c31] at H
               exact absurd H (by simp)
             ·rw [if_neg c29] at H
              exact absurd H (by simp)
            ·rw [if_neg c28] at H;have c28b0:((((rd_T65 l1_1 x38_2).f0).length:Int) == 1)=false:=beq_eq_false_iff_ne.mpr c28;have c28b1:((((rd_T65 l1_1 x38_2).f0).length:Int) != 1)=true:=bne_iff_ne.mpr c28;obtain rfl:=Option.some.inj H;have p315:0≤(x38_2:Int):=oa;have q315:x38_2<(l1_1.length:Int):=oa;obtain ⟨ad315,A315_0,c315_0,e315,hx315_0,hl315_0,hi315_0⟩:=at_T65 HR1_1.out x38_2 p315 q315
             cases e315
             replace hx315_0:=cb HB hx315_0;have HR315_0:=am hi315_0;have HC315_0:=am hl315_0;clear hi315_0 hl315_0;replace p315:=eq_true p315;replace q315:=eq_true q315
             try go_wp2_with (first|((with_reducible refine gate_dst (N:=11) rfl ?_);(try (refine gate_guard (by rfl) ?_;dsimp only));refine bx 11 (cs:=#[.slice none 0 0]) (t:=65) ?_;intro gb316 hg w46 hbox hb;have BK316:=am (hbox);have GW316:=am ((gs hg (bs HB)));have GE316:=am ((gs hg (bs HB)));replace HB:=am (below_step (bs HB) hb);have NB306_316:=am ((gn hg (ks BK306)));have NB316_306:=am ((gm hg (ks BK306)));replace BK306:=am (blk_below (ks BK306) hb);clear hb hbox hg;have hnb47:=NB316_306.out;have hnc47:=NB306_316.out;obtain ⟨hcz48_0,hfz48_0⟩:=cf1 BK316))
             have n0_:Aside0 ((w46.setCell ⟨gb316,0,none⟩ (.slice A315_0 ((rd_T65 l1_1 x38_2).f0).length c315_0)).heap[gb306]? = some (.cells #[.string a1_0,.slice (some ad315) l1_1.length c1_1] 36 (0,0))):=⟨ks BK306⟩;have n1_:Aside0 ((w46.setCell ⟨gb316,0,none⟩ (.slice A315_0 ((rd_T65 l1_1 x38_2).f0).length c315_0)).heap[gb316]? = some (.cells #[.slice A315_0 ((rd_T65 l1_1 x38_2).f0).length c315_0] 65 (0,0))):=⟨kp BK316⟩;have n2_:Aside0 (Below w.heap.size w (w46.setCell ⟨gb316,0,none⟩ (.slice A315_0 ((rd_T65 l1_1 x38_2).f0).length c315_0))):=⟨bs HB⟩;(try clear BK306);(try clear BK316);(try clear HB)
             generalize (w46.setCell ⟨gb316,0,none⟩ (.slice A315_0 ((rd_T65 l1_1 x38_2).f0).length c315_0))=w49 at n0_ n1_ n2_ ⊢
             have BK306:=n0_;have BK316:=n1_;have HB:=n2_;clear n0_ n1_ n2_;replace BK306:=am (blk_drew BK306.out);replace BK316:=am (blk_drew BK316.out);replace HB:=am (below_drew1 HB.out);refine start_ (n:=21) (S:=fun w'=>w'.cell? ⟨gb316,0,none⟩=some (.slice A315_0 ((rd_T65 l1_1 x38_2).f0).length c315_0)) (ds:=[]) _ (by kernel_rfl) rfl rfl ((blk_cell BK316.out 0).trans rfl) (fun hHeld=>?_);refine with_tabW impl_FormRight.tab14 impl_FormRight.bits14 (fun HT_ HW_=>?_)
             generalize w49.drew=w50 at BK306 BK316 HB hHeld ⊢
             refine pA 0 43 HT_ ?_;refine pA 1 44 HT_ ?_;refine pA 2 45 HT_ ?_;refine pA 3 46 HT_ ?_;refine pA 4 47 HT_ ?_;refine pA 5 48 HT_ ?_;refine take_ (i:=6) (N:=some 49) (v:=?_) (a':=?_) #[true,true,true,true,true,true,true,false,false,false,false,false,false,false,false,false,false,false,false,false,false] rfl rfl (take_ofW HT_.out HW_.out (by kernel_rfl)) (fun _ _ _ h=>h) (Or.inl ⟨by rfl,?_⟩) hHeld ?_ ?_
             rotate_left
             ·intro w' s0
              go_simp
              (with_reducible rfl)
             rotate_left
             ·simp only [Act.put,List.setIfInBounds_toArray,List.set_cons_zero,List.set_cons_succ,i64_w,i32_w]
              rfl
             refine pA 7 50 HT_ ?_;refine pA 8 51 HT_ ?_;refine pA 9 52 HT_ ?_;refine pA 10 53 HT_ ?_;refine pB 11 54 HT_ ?_;refine pB 12 55 HT_ ?_;refine pB 13 56 HT_ ?_;refine pB 14 57 HT_ ?_;refine pB 15 58 HT_ ?_;refine pB 16 59 HT_ ?_;refine pB 17 60 HT_ ?_;refine pB 18 61 HT_ ?_;refine pB 19 62 HT_ ?_;refine pA 20 63 HT_ ?_;refine done_ (done_of HT_.out (by kernel_rfl)) ?_
             try go_wp2
             go_ret
             exact ⟨ff,bs HB⟩
          ·rw [if_neg c21] at H
           exact absurd H (by simp)
         ·rw [if_neg c20] at H
          exact absurd H (by simp)
        ·rw [if_neg c19] at H;have c19b0:decide (x38_2<(l1_1.length:Int))=false:=decide_eq_false c19;clear c19
         by_cases c51:(l1_1.length:Int)<(t307.size:Int)
         ·rw [if_pos c51] at H;have c51b0:decide ((l1_1.length:Int)<(t307.size:Int))=true:=decide_eq_true c51;have c51b1:decide (l1_1.length<t307.size)=true:=decide_eq_true (Int.ofNat_lt.mp c51);clear c51;obtain rfl:=Option.some.inj H;obtain ⟨hcz52_0,hcz52_1,hfz52_0,hfz52_1⟩:=cf2 BK306
          go_wp2
          go_ret
          exact ⟨ff,bs HB⟩
         ·rw [if_neg c51] at H;have c51b0:decide ((l1_1.length:Int)<(t307.size:Int))=false:=decide_eq_false c51;have c51b1:decide (l1_1.length<t307.size)=false:=decide_eq_false (fun h=>c51 (Int.ofNat_lt.mpr h));clear c51;obtain rfl:=Option.some.inj H;obtain ⟨hcz53_0,hcz53_1,hfz53_0,hfz53_1⟩:=cf2 BK306
          go_wp2
          go_ret
          exact ⟨ff,bs HB⟩
 ·rw [if_neg c4] at H
  exact absurd H (by simp)
end Go.Proofs.YtjbdljhjplidmaaDoor.QF
