-- Merged by a program of this session (wip/tool/pack.py) out of its own texts for this claim.
import Derived.Test.YtapilmimgiaglaaGreatDoorKFnExactParcelRight16
set_option maxHeartbeats 8000000
set_option maxRecDepth 100000
set_option linter.unusedSimpArgs false
set_option linter.unusedVariables false
namespace Go.Proofs.YtapilmimgiaglaaGreatDoor.QA
open Go.RowKit Go.Proofs.bB.fA Go.Proofs.bB.PrintLast Go.Proofs.bB.PrintMore
attribute [local go_sem] o6 pg o9 pE o8 pz o7 pq   -- for this text's walks alone
theorem kF.calls (k:Nat) (a0:ByteArray) (r:Bool) (w:World) (H:kF.f k a0=some r) :
  Calls Tryz.prog 121 #[.string a0] w fun e w'=>e=.returned (.bool r)∧aT w w':=by
 unfold kF.f at H;have kV:=am H;clear H
 go_in
 go_upto_region 2 with (fail)
 go_cut [12] (fun v12 wc=>∃ (kq:Nat) (pI:Bool),v12=.bool pI∧af (kF.j0 kq a0 a0 pI=some r)∧af (kq≤k)∧aT w wc)
 case first =>
  have H:=kV.out;clear kV
  revert H;refine Mx ?_ ?_
  ·intro bN fo sS H
   (first|rw [bN]|simp only [sS,Bool.not_true,Bool.not_false]|rw [fo]|skip)
   have H':=am H;clear H
   go_wp2
   go_meet
   case rel=>exact ⟨_,(false),fg,H',⟨fl⟩,by repeat (first|exact aT.refl _|apply aT.step)⟩
  ·intro c3 bN fo sS H
   (first|rw [bN]|simp only [sS,Bool.not_true,Bool.not_false]|rw [fo]|skip)
   revert H;refine qx ?_
   intro c4 dS H;have kW:decide (0<a0.size)=true:=decide_eq_true (by omega);clear c4;have H':=am H;clear H;have p5:0≤(0:Int):=(by omega);have q5:0<a0.size:=(by have:(0:Int)<(a0.size:Int):=oa;omega);have hx5:∀ h:0<a0.size,((a0[0]'h).toNat:Int)=bt a0 0:=gF a0 0;clear p5;have qi5:(0<(a0.size:Int))=True:=eq_true (oa);replace q5:=eq_true q5
   go_wp2
   go_meet
   case rel=>exact ⟨_,(((bt a0 0) == 45)),fg,H',⟨fl⟩,by repeat (first|exact aT.refl _|apply aT.step)⟩
 case rest =>
  clear kV
  obtain ⟨kq,pI,rfl,HA,ib,⟨mc1,rfl⟩⟩:=hcut
  cases kq with
  | zero=>exact absurd HA.out (by simp [kF.j0])
  | succ lS =>
   have H:=HA.out;clear HA;simp only [kF.j0] at H;have Gr:=am H;clear H
   go_upto_if 12 with (fail)
   go_cut [3] (fun v3 wc=>∃ (kq:Nat) (nH:ByteArray),v3=.string nH∧af (kF.j1 kq a0 nH=some r)∧af (kq≤lS)∧aT w wc)
   case first =>
    have H:=Gr.out;clear Gr
    obtain rfl|rfl:=bt pI
    ·replace H:=dE H
     revert H;refine jE ?_
     intro c8 H;have jR:=eq_true c8;have uU:decide (1≤(a0.size:Int))=true:=decide_eq_true c8;clear c8;have H':=am H;clear H
     go_wp2
     go_meet
     case rel=>exact ⟨_,(a0.extract 1 a0.size),fg,H',⟨by have:=ib.out;first|omega|exact Nat.le_refl _⟩,by repeat (first|exact aT.refl _|apply aT.step)⟩
    ·replace H:=dD H;have H':=am H;clear H
     go_wp2
     go_meet
     case rel=>exact ⟨_,(a0),fg,H',⟨by have:=ib.out;first|omega|exact Nat.le_refl _⟩,by repeat (first|exact aT.refl _|apply aT.step)⟩
   case rest =>
    clear Gr
    obtain ⟨kq,nH,rfl,HA,Gt,⟨mc5,rfl⟩⟩:=hcut
    cases kq with
    | zero=>exact absurd HA.out (by simp [kF.j1])
    | succ Xj =>
     have H:=HA.out;clear HA;simp only [kF.j1] at H;have H':=am H;clear H
     go_wp2
     go_loopg [17] Xj (fun kq v17 w'=>∃ (F9:Int),v17=.int .i64 F9∧af (kF.l0 kq a0 nH (nH.size:Int) F9=some r)∧af (kq≤Xj)∧aT w w')
     case atStart=>exact ⟨(0),fg,H',⟨Nat.le_refl _⟩,by repeat (first|exact aT.refl _|apply aT.step)⟩
     case round =>
      clear H'
      obtain ⟨F9,rfl,HA,pU,⟨m3,rfl⟩⟩:=hrel
      cases gk with
      | zero=>exact absurd HA.out (by simp [kF.l0])
      | succ k3 =>
       have H:=HA.out;clear HA;simp only [kF.l0] at H
       revert H;refine cB ?_ ?_
       ·intro nk H
        revert H;refine bu ?_
        intro xD H
        revert H;refine bu ?_
        intro xE H;replace H:=bo H;obtain ⟨t7,ry,H⟩:=H;have iq:0≤(F9:Int):=oa;have ik:F9<(nH.size:Int):=oa;have wz:=gF nH F9;replace iq:=eq_true iq;replace ik:=eq_true ik
        try go_wp2_with (fail)
        go_at_call 94;(with_reducible refine (Dl.calls (bt nH F9) t7 _ ry.out).mono ?_);rintro e w' ⟨rfl,⟨nd,rfl⟩⟩
        obtain rfl|rfl:=bt t7
        ·replace H:=dE H;have H':=am H;clear H
         go_wp2
         go_roundg k3
         case measure=>have:=ib.out;have:=Gt.out;have:=pU.out;omega
         case rel=>exact ⟨(wrap64 (F9+1)),fg,H',⟨by have:=ib.out;have:=Gt.out;have:=pU.out;omega⟩,by repeat (first|exact aT.refl _|apply aT.step)⟩
        ·replace H:=dD H;obtain rfl:=si H
         go_wp2
         go_ret
         exact ⟨fg,dr⟩
       ·intro nk H
        revert H;refine Mx ?_ ?_
        ·intro uh Hl aqv H;obtain rfl:=si H
         go_wp2
         go_ret
         exact ⟨fg,dr⟩
        ·intro c15 uh Hl aqv H
         by_cases c16:0<(nH.size:Int)
         ·rw [if_pos c16] at H;have vZ:decide (0<(nH.size:Int))=true:=decide_eq_true c16;have VH:decide (0<nH.size)=true:=decide_eq_true (by omega);clear c16
          revert H;refine bL ?_ ?_
          ·intro uT O7 H;obtain rfl:=si H;have p17:0≤(0:Int):=(by omega);have SH:0<nH.size:=(by have:(0:Int)<(nH.size:Int):=oa;omega);have auC:∀ h:0<nH.size,((nH[0]'h).toNat:Int)=bt nH 0:=gF nH 0;clear p17;have awf:(0<(nH.size:Int))=True:=eq_true (oa);replace SH:=eq_true SH
           go_wp2
           go_ret
           exact ⟨fg,dr⟩
          ·intro c18 uT O7 H;obtain rfl:=si H;have p17:0≤(0:Int):=(by omega);have SH:0<nH.size:=(by have:(0:Int)<(nH.size:Int):=oa;omega);have auC:∀ h:0<nH.size,((nH[0]'h).toNat:Int)=bt nH 0:=gF nH 0;clear p17;have awf:(0<(nH.size:Int))=True:=eq_true (oa);replace SH:=eq_true SH
           go_wp2
           go_ret
           exact ⟨fg,dr⟩
         ·rw [if_neg c16] at H
          exact absurd H (by simp)
def uR (w:World):Prop:=(∃ ev,w.cell? ⟨2,0,none⟩=some ev∧(ev=.nilIface∨∃ te pe,ev=.iface te pe))∧∃ ev,w.cell? ⟨3,0,none⟩=some ev∧(ev=.nilIface∨∃ te pe,ev=.iface te pe)
theorem oJ {w W:World} (h:af (uR w)) (hb:Below w.heap.size w W):uR W:=by
 obtain ⟨⟨e0,h0,g0⟩,e1,h1,g1⟩:=h.out
 exact ⟨⟨e0,(hb.cell (World.block_lt_of_cell? w _ h0)).trans h0,g0⟩,e1,(hb.cell (World.block_lt_of_cell? w _ h1)).trans h1,g1⟩
theorem mV.calls (k:Nat) (a0:ByteArray) (a1:Int) (a2:Int) (r1:Int) (r2:Bool) (w:World) (hTP:uR w) (h:mV.f k a0 a1 a2=some (r1,r2)) :
  Calls Tryz.prog 87 #[.string a0,.int .i64 a1,.int .i64 a2] w fun e w'=>e=.returned (.tuple #[.int .i64 r1,.bool r2])∧Below w.heap.size w w':=by
 unfold mV.f at h
 by_cases c1:a0.size≤281474976710656
 ·rw [if_pos c1] at h
  obtain ⟨⟨e0,g0,t0⟩,e1,g1,t1⟩:=hTP
  cases hp:Lib.parseIntB 64 a0.data.toList with
  | ok v =>
   simp only [hp] at h
   obtain ⟨b,hb,h⟩:=Option.bind_eq_some_iff.mp h;have A1:=am hb;clear hb
   cases b with
   | true =>
    simp only [if_true] at h
    obtain ⟨c,hc,h⟩:=Option.bind_eq_some_iff.mp h;have A2:=am hc;clear hc;obtain ⟨rfl,rfl⟩:=Prod.mk.inj (Option.some.inj h);clear h
    go_in
    go_wp2_with (go_at_call 120;refine (Any.strconv_ParseInt_10_at64_ok Tryz.IZ a0 (by omega) _ hp _).mono ?_;rintro e W1 ⟨rfl,hw⟩)
    have HB:af (Below w.heap.size w W1):=⟨hw.elim (fun e_=>by rw [e_];exact Below.refl _ _) (fun ⟨t_,e_⟩=>by rw [e_];exact Lib.bytesWorld_below _ _ _)⟩;clear hw
    go_wp2_with (go_at_call 121;refine (kF.calls k a0 true _ A1.out).mono ?_;rintro e W2 ⟨rfl,hd⟩;replace HB:=am (fF HB.out hd.below))
    go_wp2_with (go_at_call 41;refine (kY.calls _ a1 a2 _ _ A2.out).mono ?_;rintro e W3 ⟨rfl,hd⟩;replace HB:=am (fF HB.out hd.below))
    go_ret2
    exact ⟨rfl,HB.out⟩
   | false =>
    simp only [Bool.false_eq_true,if_false] at h
    obtain ⟨rfl,rfl⟩:=Prod.mk.inj (Option.some.inj h);clear h
    go_in
    go_wp2_with (go_at_call 120;refine (Any.strconv_ParseInt_10_at64_ok Tryz.IZ a0 (by omega) _ hp _).mono ?_;rintro e W1 ⟨rfl,hw⟩)
    have HB:af (Below w.heap.size w W1):=⟨hw.elim (fun e_=>by rw [e_];exact Below.refl _ _) (fun ⟨t_,e_⟩=>by rw [e_];exact Lib.bytesWorld_below _ _ _)⟩;clear hw
    go_wp2_with (go_at_call 121;refine (kF.calls k a0 false _ A1.out).mono ?_;rintro e W2 ⟨rfl,hd⟩;replace HB:=am (fF HB.out hd.below))
    go_ret2
    exact ⟨rfl,HB.out⟩
  | «syntax» =>
   simp only [hp] at h
   obtain ⟨rfl,rfl⟩:=Prod.mk.inj (Option.some.inj h);clear h
   go_in
   go_wp2_with (go_at_call 120;refine (Any.strconv_ParseInt_10_at64_syntax Tryz.IZ a0 c1 hp e0 _ ?_ t0).mono ?_)
   ·exact g0
   rintro e W1 ⟨N,rfl,-,-,hb⟩
   go_wp2
   go_ret2
   exact ⟨rfl,hb⟩
  | range =>
   simp only [hp] at h
   obtain ⟨rfl,rfl⟩:=Prod.mk.inj (Option.some.inj h);clear h
   go_in
   go_wp2_with (go_at_call 120;refine (Any.strconv_ParseInt_10_at64_range Tryz.IZ a0 c1 hp e1 _ ?_ t1).mono ?_)
   ·exact g1
   rintro e W1 ⟨N,rfl,-,-,hb⟩
   go_wp2
   go_ret2
   exact ⟨rfl,hb⟩
 ·rw [if_neg c1] at h;cases h
theorem vw.calls (k:Nat) (a0:ByteArray) (r:Bool) (w:World) (H:vw.f k a0=some r) :
  Calls Tryz.prog 155 #[.string a0] w fun e w'=>e=.returned (.bool r)∧aT w w':=by
 unfold vw.f at H;have H':=am H;clear H
 go_in
 go_wp2
 go_loopg [6] k (fun kq v6 w'=>∃ (dF:Int),v6=.int .i64 dF∧af (vw.l0 kq a0 (a0.size:Int) dF=some r)∧af (kq≤k)∧aT w w')
 case atStart=>exact ⟨(0),fg,H',⟨Nat.le_refl _⟩,by repeat (first|exact aT.refl _|apply aT.step)⟩
 case round =>
  clear H'
  obtain ⟨dF,rfl,HA,aU,⟨m1,rfl⟩⟩:=hrel
  cases gk with
  | zero=>exact absurd HA.out (by simp [vw.l0])
  | succ k1 =>
   have H:=HA.out;clear HA;simp only [vw.l0] at H
   revert H;refine cB ?_ ?_
   ·intro gJ H
    revert H;refine bu ?_
    intro bN H
    revert H;refine bu ?_
    intro dS H
    revert H;refine cB ?_ ?_
    ·intro gQ H;obtain rfl:=si H;have p5:0≤(dF:Int):=oa;have q5:dF<(a0.size:Int):=oa;have hx5:=gF a0 dF;replace p5:=eq_true p5;replace q5:=eq_true q5
     go_wp2
     go_ret
     exact ⟨fg,dr⟩
    ·intro gQ H
     revert H;refine gz ?_ ?_
     ·intro c8 H;have jR:decide (126<(bt a0 dF))=true:=decide_eq_true c8;clear c8;obtain rfl:=si H;have p5:0≤(dF:Int):=oa;have q5:dF<(a0.size:Int):=oa;have hx5:=gF a0 dF;replace p5:=eq_true p5;replace q5:=eq_true q5;have p7:0≤(dF:Int):=oa;have q7:dF<(a0.size:Int):=oa;have hx7:=gF a0 dF;replace p7:=eq_true p7;replace q7:=eq_true q7
      go_wp2
      go_ret
      exact ⟨fg,dr⟩
     ·intro c8 H;have jR:decide (126<(bt a0 dF))=false:=decide_eq_false c8;clear c8;have H':=am H;clear H;have p5:0≤(dF:Int):=oa;have q5:dF<(a0.size:Int):=oa;have hx5:=gF a0 dF;replace p5:=eq_true p5;replace q5:=eq_true q5;have p7:0≤(dF:Int):=oa;have q7:dF<(a0.size:Int):=oa;have hx7:=gF a0 dF;replace p7:=eq_true p7;replace q7:=eq_true q7
      go_wp2
      go_roundg k1
      case measure=>have:=aU.out;omega
      case rel=>exact ⟨(wrap64 (dF+1)),fg,H',⟨by have:=aU.out;omega⟩,by repeat (first|exact aT.refl _|apply aT.step)⟩
   ·intro gJ H;obtain rfl:=si H
    go_wp2
    go_ret
    exact ⟨fg,dr⟩
theorem Dm.calls (k:Nat) (a0:ByteArray) (r:Bool) (w:World) (H:Dm.f k a0=some r) :
  Calls Tryz.prog 137 #[.string a0] w fun e w'=>e=.returned (.bool r)∧aT w w':=by
 unfold Dm.f at H
 revert H;refine zW ?_ ?_
 ·intro c2 gJ H;have ja:decide (a0.size≤40)=true:=decide_eq_true (by omega);clear c2;replace H:=bo H;obtain ⟨t4,A3,H⟩:=H;obtain rfl:=si H
  go_in
  go_wp2_with (first|(go_at_call 155;(with_reducible refine (vw.calls k a0 t4 _ A3.out).mono ?_);rintro e w' ⟨rfl,⟨nd,rfl⟩⟩))
  go_ret
  exact ⟨fg,dr⟩
 ·intro c2 gJ H;have ja:decide (a0.size≤40)=false:=decide_eq_false (by omega);clear c2;obtain rfl:=si H
  go_in
  go_wp2
  go_ret
  exact ⟨fg,dr⟩
theorem qz.calls (k:Nat) (a0:Int) (a1:ByteArray) (r:Bool) (w:World) (hTP:uR w) (H:qz.f k a0 a1=some r) :
  Calls Tryz.prog 119 #[.int .u8 a0,.string a1] w fun e w'=>e=.returned (.bool r)∧Below w.heap.size w w':=by
 have HTP:=am hTP;clear hTP
 have HB:=am (Below.refl w.heap.size w);unfold qz.f at H
 revert H;refine bL ?_ ?_
 ·intro bN fo H;replace H:=bo H;obtain ⟨FW,A4,H⟩:=H;obtain rfl:=si H
  go_in
  go_wp2_with (first|((go_at_call 47;(with_reducible refine (oI.calls k a1 FW _ A4.out).mono ?_);rintro e w' ⟨rfl,⟨nd,rfl⟩⟩)))
  go_ret
  exact ⟨ff,bs HB⟩
 ·intro c3 bN fo H
  revert H;refine bL ?_ ?_
  ·intro kv wo H;replace H:=bo H;obtain ⟨⟨t21,t23⟩,A6,H⟩:=H;(try dsimp only at H);obtain rfl:=si H
   go_in
   go_wp2_with (first|((go_at_call 87;(with_reducible refine (mV.calls k a1 0 1000000000 t21 t23 _ (oJ HTP (bs HB)) A6.out).mono ?_);rintro e w7 ⟨rfl,hb⟩);replace HB:=bq HB hb;(try clear hb)))
   go_ret
   exact ⟨ff,bs HB⟩
  ·intro c5 kv wo H
   revert H;refine bL ?_ ?_
   ·intro jR uU H;replace H:=bo H;obtain ⟨⟨t24,t25⟩,A9,H⟩:=H;(try dsimp only at H);obtain rfl:=si H
    go_in
    go_wp2_with (first|((go_at_call 87;(with_reducible refine (mV.calls k a1 1 1000000 t24 t25 _ (oJ HTP (bs HB)) A9.out).mono ?_);rintro e DI ⟨rfl,hb⟩);replace HB:=bq HB hb;(try clear hb)))
    go_ret
    exact ⟨ff,bs HB⟩
   ·intro c8 jR uU H
    revert H;refine bL ?_ ?_
    ·intro xE Cv H;replace H:=bo H;obtain ⟨⟨t29,t26⟩,vQ,H⟩:=H;(try dsimp only at H)
     go_in
     try go_wp2_with (fail)
     go_at_call 87;(with_reducible refine (mV.calls k a1 (-1000000) 1000000 t29 t26 _ (oJ HTP (bs HB)) vQ.out).mono ?_);rintro e vO ⟨rfl,hb⟩;replace HB:=bq HB hb;(try clear hb)
     obtain rfl|rfl:=bt t26
     ·replace H:=dE H;obtain rfl:=si H
      go_wp2
      go_ret
      exact ⟨ff,bs HB⟩
     ·replace H:=dD H;obtain rfl:=si H
      go_wp2
      go_ret
      exact ⟨ff,bs HB⟩
    ·intro c11 xE Cv H
     revert H;refine bL ?_ ?_
     ·intro uh Hl H;replace H:=bo H;obtain ⟨⟨t27,t28⟩,Eb,H⟩:=H;(try dsimp only at H);obtain rfl:=si H
      go_in
      go_wp2_with (first|((go_at_call 87;(with_reducible refine (mV.calls k a1 0 100000 t27 t28 _ (oJ HTP (bs HB)) Eb.out).mono ?_);rintro e JN ⟨rfl,hb⟩);replace HB:=bq HB hb;(try clear hb)))
      go_ret
      exact ⟨ff,bs HB⟩
     ·intro c15 uh Hl H
      revert H;refine bL ?_ ?_
      ·intro uT O7 H
       revert H;refine Mx ?_ ?_
       ·intro sP aqw aqx H;obtain rfl:=si H
        go_in
        go_wp2
        go_ret
        exact ⟨ff,bs HB⟩
       ·intro c19 sP aqw aqx H;replace H:=bo H;obtain ⟨t30,YI,H⟩:=H;obtain rfl:=si H
        go_in
        go_wp2_with (first|(go_at_call 137;(with_reducible refine (Dm.calls k a1 t30 _ YI.out).mono ?_);rintro e w' ⟨rfl,⟨nd,rfl⟩⟩))
        go_ret
        exact ⟨ff,bs HB⟩
      ·intro c18 uT O7 H;obtain rfl:=si H
       go_in
       go_wp2
       go_ret
       exact ⟨ff,bs HB⟩
def eX.T14:Bool × List (List Nat × List Nat):=(true,[([],[]),([],[]),([1],[1]),([0,2],[0,2]),([3],[3]),([4],[4]),([5,4],[4,5]),([6,4],[4,6]),([7,4],[4,7]),([4,8],[4,8]),([9,4],[9]),([10],[10]),([10],[10]),([11,12,10],[10,11,12]),([10],[10]),([14,10],[10,14]),([15,10],[10,15]),([16,10],[10,16]),([13,17,10,10],[10,13,17]),([18,10],[10,18]),([10,19],[10,19])])
def eX.B14:List Nat:=[0,0,2,7,15,31,63,127,255,511,1023,2047,2047,8191,2047,18431,51199,116735,262143,524287,1048575]
theorem eX.XX:fJ .any (opsOf Tryz.f84 14)=eX.T14:=by kernel_rfl
theorem eX.Vi:iY eX.T14.2 eX.B14=true:=by kernel_rfl
theorem eX.calls (k:Nat) (a0:ByteArray) (aM:ByteArray) (iV:Option Addr) (iU:Nat) (aR:List (dw)) (r:Int) (w:World) (zQ:Kd.C lG w iV aR.length aR) (zJ:aR.length≤iU) (hTC:zu w) (hTP:uR w) (H:eX.f k a0 aM aR=some r) :
  Calls Tryz.prog 84 #[.string a0,.agg #[.string aM,.slice iV aR.length iU]] w fun e w'=>e=.returned (.int .i64 r)∧Below w.heap.size w w':=by
 have HTC:=am hTC;clear hTC;have HTP:=am hTP;clear hTP
 have qR:=Tryz.underlying62;have Fb:=Tryz.underlying97;have lX:=am zQ;have rE:=am zJ;clear zQ zJ;have HB:=am (Below.refl w.heap.size w);unfold eX.f at H;replace H:=bo H;obtain ⟨⟨t69,t70,t74⟩,A3,H⟩:=H;(try dsimp only at H)
 revert H;refine gz ?_ ?_
 ·intro c4 H;have dS:=eq_true c4;have kW:decide (t69.size+t70.size≤9223372036854775807)=true:=decide_eq_true c4
  try have agV:(9223372036854775807<t69.size+t70.size)=False:=eq_false (Nat.not_lt.2 c4)
  have H':=am H;clear H
  go_in
  go_wp2_with (first|((with_reducible refine aN (N:=3) rfl ?_);(try (refine iM (by rfl) ?_;dsimp only));refine bz 3 (cs:=#[.string aM,.slice iV aR.length iU]) (t:=62) HB ?_;clear HB;intro ww hg w5 bF aeS hb HB;clear hb hg)|((go_at_call 116;(with_reducible refine (strings_Cut.calls a0 (⟨#[63]⟩:ByteArray) t69 t70 t74 _ (Ag HTC (bs HB)) A3.out).mono ?_);rintro e w6 ⟨rfl,hb⟩);replace bF:=bb bF hb;replace HB:=bq HB hb;(try clear hb)))
  go_loopg [23] k (fun kq v23 w'=>∃ (jN:Int),v23=.int .i64 jN∧af (eX.l0 kq a0 t69 (t69++t70) ((t69++t70).size:Int) jN aM aR=some r)∧af (kq≤k)∧af (w'.heap[ww]? = some (.cells #[.string aM,(.slice iV aR.length iU)] 62 (0,0)))∧af (Below w.heap.size w w'))
  case atStart=>exact ⟨(0),fg,H',⟨Nat.le_refl _⟩,⟨ks bF⟩,⟨bs HB⟩⟩
  case round =>
   clear H'
   try clear c4
   try clear dS
   try clear kW
   try clear agV
   try clear bF
   obtain ⟨jN,rfl,HA,aU,bF,HB⟩:=hrel
   cases gk with
   | zero=>exact absurd HA.out (by simp [eX.l0])
   | succ k1 =>
    have H:=HA.out;clear HA;simp only [eX.l0] at H
    revert H;refine zW ?_ ?_
    ·intro c7 kJ H;(try (have aaT:=kJ;simp only [ByteArray.size_append,zY,List.size_toArray,List.length_cons,List.length_nil,Nat.zero_add,Nat.reduceAdd,Int.natCast_add,Int.cast_ofNat_Int] at aaT));clear c7
     revert H;refine bu ?_
     intro jR H
     revert H;refine qx ?_
     intro c9 nk H;(try (have aq6:=nk;simp only [ByteArray.size_append,zY,List.size_toArray,List.length_cons,List.length_nil,Nat.zero_add,Nat.reduceAdd,Int.natCast_add,Int.cast_ofNat_Int] at aq6));clear c9;replace H:=bo H;obtain ⟨t75,Gm,H⟩:=H;have jS:0≤(jN:Int):=oa;have jL:jN<((t69++t70).size:Int):=oa;have CU:=gF (t69++t70) jN;replace jS:=eq_true jS;replace jL:=eq_true jL;(try (have av7:=jL;simp only [ByteArray.size_append,zY,List.size_toArray,List.length_cons,List.length_nil,Nat.zero_add,Nat.reduceAdd,Int.natCast_add,Int.cast_ofNat_Int] at av7))
     try go_wp2_with (fail)
     go_at_call 117;(with_reducible refine (strings_IndexByte.calls (⟨#[114,110,113,122,100,116]⟩:ByteArray) (bt (t69++t70) jN) t75 _ Gm.out).mono ?_);rintro e w' ⟨rfl,⟨nd,rfl⟩⟩
     revert H;refine cB ?_ ?_
     ·intro xG H;obtain rfl:=si H
      go_wp2
      go_ret
      exact ⟨ff,bs HB⟩
     ·intro xG H;have H':=am H;clear H
      go_wp2
      go_roundg k1
      case measure=>have:=aU.out;omega
      case rel=>exact ⟨(wrap64 (jN+1)),fg,H',⟨by have:=aU.out;omega⟩,⟨ks bF⟩,⟨bs HB⟩⟩
    ·intro c7 kJ H;(try (have aaT:=kJ;simp only [ByteArray.size_append,zY,List.size_toArray,List.length_cons,List.length_nil,Nat.zero_add,Nat.reduceAdd,Int.natCast_add,Int.cast_ofNat_Int] at aaT));clear c7;obtain ⟨YE,IB⟩:∃ y_:List ByteArray,y_=(([a0]:List ByteArray)):=⟨_,rfl⟩
     replace H:((Dn.f k1 YE).bind fun t72=>(if t72=true then (some 0) else (eX.l1 k1 t69 (t69++t70) aR (aR.length:Int) 0 aM aR)))=some r:=ye IB H
     have OG:=am IB;clear IB;replace H:=bo H;obtain ⟨t72,ry,H⟩:=H
     try go_wp2_with (first|((with_reducible refine aN (N:=33) rfl ?_);(try (refine iM (by rfl) ?_;dsimp only));refine rl Kd.string 9 (N:=33) (xs:=([a0]:List ByteArray)) (inner:=[.string a0]) ?hp ?_;(case hp=>exact (aQ.one (show Kd.M Kd.string _ _ _ a0 [.string a0] from rfl) (aQ.none _ _)));intro v77 vP QT hb hg_ hnew_;clear hg_ hnew_;(first|rw [← OG.out] at QT|(simp only [Int.reduceToNat] at QT;rw [← OG.out] at QT));have ZH:=am (Kd.gU QT (bC (bs HB)));replace bF:=bb bF hb;replace HB:=bq HB hb;clear hb QT;obtain ⟨azU,aBx,ar5⟩:=Kd.iy ZH.out;subst ar5))
     go_at_call 118;(with_reducible refine (Dn.calls k1 _ _ YE t72 _ ?aI ?aW ry.out).mono ?_);(case aI=>exact sd (Kd.dU ZH.out).2.2);(case aW=>exact (Kd.dU ZH.out).2.1);rintro e w' ⟨rfl,⟨nd,rfl⟩⟩
     obtain rfl|rfl:=bt t72
     ·replace H:=dE H;obtain rfl:=si H
      go_wp2
      go_ret
      exact ⟨ff,bs HB⟩
     ·replace H:=dD H;have H':=am H;clear H;have Lh:=gG bF
      go_wp2
      go_loopg [38] k1 (fun kq v38 w'=>∃ (iC:Int),v38=.int .i64 iC∧af (eX.l1 kq t69 (t69++t70) aR (aR.length:Int) iC aM aR=some r)∧af (kq≤k1)∧af (w'.heap[ww]? = some (.cells #[.string aM,(.slice iV aR.length iU)] 62 (0,0)))∧af (Below w.heap.size w w'))
      case atStart=>exact ⟨(0),fg,H',⟨Nat.le_refl _⟩,⟨ks bF⟩,⟨bs HB⟩⟩
      case round =>
       clear H'
       try clear c4
       try clear dS
       try clear kW
       try clear agV
       try clear c7
       try clear kJ
       try clear Lh
       try clear bF
       obtain ⟨iC,rfl,HA,cz,bF,HB⟩:=hrel
       cases gk with
       | zero=>exact absurd HA.out (by simp [eX.l1])
       | succ k2 =>
        have H:=HA.out;clear HA;simp only [eX.l1] at H
        revert H;refine cB ?_ ?_
        ·intro sP H
         revert H;refine bu ?_
         intro ui H
         revert H;refine bu ?_
         intro xH H
         by_cases qQ:iC=((t69++t70).size:Int)
         ·rw [if_pos qQ] at H;have EC:(iC == ((t69++t70).size:Int))=true:=beq_iff_eq.mpr qQ;(try (have aaF:=EC;simp only [ByteArray.size_append,zY,List.size_toArray,List.length_cons,List.length_nil,Nat.zero_add,Nat.reduceAdd,Int.natCast_add,Int.cast_ofNat_Int] at aaF));have Hm:(iC != ((t69++t70).size:Int))=false:=bne_eq_false_iff_eq.mpr qQ;(try (have aaG:=Hm;simp only [ByteArray.size_append,zY,List.size_toArray,List.length_cons,List.length_nil,Nat.zero_add,Nat.reduceAdd,Int.natCast_add,Int.cast_ofNat_Int] at aaG));clear qQ;obtain rfl:=si H;obtain ⟨p65,MP,G5,oh,oq,e65,nT,zM,zL⟩:=wi (lZ lX.out iC)
          cases e65
          replace nT:=cb HB nT;have Ow:=am zL;have Zl:=am zM;clear zL zM
          try go_wp2_with (first|((with_reducible refine aN (N:=11) rfl ?_);(try (refine iM (by rfl) ?_;dsimp only));refine bz 11 (cs:=#[.slice none 0 0]) (t:=97) HB ?_;clear HB;intro oD hg tH jr YZ hb HB;have GQ:=na hg bF;have GN:=nc hg bF;replace bF:=bb bF hb;clear hb hg;have atC:=GN.out;have at6:=GQ.out;have abg:=uV jr))
          have bP:=kz (tH.setCell ⟨oD,0,none⟩ (.slice oh ((aH aR iC).f0).length oq)) bF;have bQ:af ((tH.setCell ⟨oD,0,none⟩ (.slice oh ((aH aR iC).f0).length oq)).heap[oD]? = some (.cells #[.slice oh ((aH aR iC).f0).length oq] 97 (0,0))):=⟨kp jr⟩;have bU:af (Below w.heap.size w (tH.setCell ⟨oD,0,none⟩ (.slice oh ((aH aR iC).f0).length oq))):=⟨bs HB⟩;(try clear bF);(try clear jr);(try clear HB)
          generalize (tH.setCell ⟨oD,0,none⟩ (.slice oh ((aH aR iC).f0).length oq))=Nc at bP bQ bU ⊢
          have bF:=bP;have jr:=bQ;have HB:=bU;clear bP bQ bU;replace bF:=am (bg bF.out);replace jr:=am (bg jr.out);replace HB:=am (cO HB.out);refine M0 (n:=21) (S:=fun w'=>True) (ds:=[]) _ (by kernel_rfl) rfl rfl trivial (fun hHeld=>?_);refine gq eX.XX eX.Vi (fun HT_ HW_=>?_)
          generalize Nc.drew=BN at bF jr HB hHeld ⊢
          refine lH 0 ?_;refine lH 8 ?_;refine jF 16 ?_;refine bV 20 ?_;refine fq (gp HT_.out (by kernel_rfl)) ?_
          try go_wp2
          go_ret
          exact ⟨ff,bs HB⟩
         ·rw [if_neg qQ] at H;have EC:(iC == ((t69++t70).size:Int))=false:=beq_eq_false_iff_ne.mpr qQ;(try (have aaF:=EC;simp only [ByteArray.size_append,zY,List.size_toArray,List.length_cons,List.length_nil,Nat.zero_add,Nat.reduceAdd,Int.natCast_add,Int.cast_ofNat_Int] at aaF));have Hm:(iC != ((t69++t70).size:Int))=true:=bne_iff_ne.mpr qQ;(try (have aaG:=Hm;simp only [ByteArray.size_append,zY,List.size_toArray,List.length_cons,List.length_nil,Nat.zero_add,Nat.reduceAdd,Int.natCast_add,Int.cast_ofNat_Int] at aaG))
          revert H;refine bL ?_ ?_
          ·intro agQ aqD H
           revert H;refine qx ?_
           intro sQ Hr H;(try (have aqE:=Hr;simp only [ByteArray.size_append,zY,List.size_toArray,List.length_cons,List.length_nil,Nat.zero_add,Nat.reduceAdd,Int.natCast_add,Int.cast_ofNat_Int] at aqE));clear sQ
           revert H;refine qx ?_
           intro c31 agS H;have aqG:decide (0<((aH aR iC).f0).length)=true:=decide_eq_true (by omega);clear c31;replace H:=bo H;obtain ⟨t76,A32,H⟩:=H
           obtain rfl|rfl:=bt t76
           ·replace H:=dE H;have H':=am H;clear H;obtain ⟨p65,MP,G5,oh,oq,e65,nT,zM,zL⟩:=wi (lZ lX.out iC)
            cases e65
            replace nT:=cb HB nT;have Ow:=am zL;have Zl:=am zM;clear zL zM
            try go_wp2_with (first|((with_reducible refine aN (N:=11) rfl ?_);(try (refine iM (by rfl) ?_;dsimp only));refine bz 11 (cs:=#[.slice none 0 0]) (t:=97) HB ?_;clear HB;intro oD hg Ai jr YZ hb HB;have GQ:=na hg bF;have GN:=nc hg bF;replace bF:=bb bF hb;clear hb hg;have ajd:=GN.out;have ajp:=GQ.out;have Lj:=uV jr))
            have bP:=kz (Ai.setCell ⟨oD,0,none⟩ (.slice oh ((aH aR iC).f0).length oq)) bF;have bQ:af ((Ai.setCell ⟨oD,0,none⟩ (.slice oh ((aH aR iC).f0).length oq)).heap[oD]? = some (.cells #[.slice oh ((aH aR iC).f0).length oq] 97 (0,0))):=⟨kp jr⟩;have bU:af (Below w.heap.size w (Ai.setCell ⟨oD,0,none⟩ (.slice oh ((aH aR iC).f0).length oq))):=⟨bs HB⟩;(try clear bF);(try clear jr);(try clear HB)
            generalize (Ai.setCell ⟨oD,0,none⟩ (.slice oh ((aH aR iC).f0).length oq))=Nf at bP bQ bU ⊢
            have bF:=bP;have jr:=bQ;have HB:=bU;clear bP bQ bU;replace bF:=am (bg bF.out);replace jr:=am (bg jr.out);replace HB:=am (cO HB.out);have p30:0≤(iC:Int):=oa;have I6:iC<((t69++t70).size:Int):=oa;have auD:=gF (t69++t70) iC;replace p30:=eq_true p30;replace I6:=eq_true I6;(try (have adi:=I6;simp only [ByteArray.size_append,zY,List.size_toArray,List.length_cons,List.length_nil,Nat.zero_add,Nat.reduceAdd,Int.natCast_add,Int.cast_ofNat_Int] at adi));have p68:0≤(0:Int):=(by omega);have I7:0<(((aH aR iC).f0).length:Int):=oa;obtain ⟨apZ,e68,xN⟩:=Kd.iZ Ow.out 0 p68 I7;have zR:=xN
            (try rw [show ((0:Int)).toNat=0 from rfl] at zR)
            (try rw [show 0 * 1=0 from rfl] at zR)
            (try rw [Addr.add_zero'] at zR)
            cases e68
            have awg:(0<((aH aR iC).f0).length)=True:=eq_true (by omega)
            (try rw [show ((0:Int)).toNat=0 from rfl] at xN)
            (try rw [Addr.add_zero'] at xN)
            replace xN:=cb HB xN;replace p68:=eq_true p68;replace I7:=eq_true I7;refine il 21 (Wn jr (hc (cb HB zR))) (fun hHeld=>?_);refine gq eX.XX eX.Vi (fun HT_ HW_=>?_)
            generalize Nf.drew=w38 at bF jr HB xN hHeld ⊢
            refine jF 0 ?_;refine jm 4 ?_;refine ta 6 ?_;refine jF 7 ?_;refine jm 11 ?_;refine bV 14 ?_;refine ta 13 ?_;refine ta 15 ?_;refine bV 16 ?_;refine ta 17 ?_;refine oA 18 61 HT_ (fun K hK=>?_);refine gA Tryz.func119 #[.int .u8 (bt (t69++t70) iC),.string (aX ByteArray.empty ((aH aR iC).f0) 0)] ?_;(with_reducible refine (qz.calls k2 (bt (t69++t70) iC) (aX ByteArray.empty ((aH aR iC).f0) 0) true _ (oJ HTP (bs HB)) A32.out).mono ?_);rintro e w39 ⟨rfl,hb⟩;refine ⟨_,rfl,?_⟩;replace bF:=bb bF hb;replace jr:=bb jr hb;replace HB:=bq HB hb;(try clear hb);refine hK.out _ _ (Wn jr (hc (cb HB zR))).out (fun hHeld=>?_);clear hK K;refine nA 61 ?_;refine jm 19 ?_;refine fq (gp HT_.out (by kernel_rfl)) ?_
            try go_wp2
            go_roundg k2
            case measure=>have:=aU.out;have:=cz.out;omega
            case rel=>exact ⟨(wrap64 (iC+1)),fg,H',⟨by have:=aU.out;have:=cz.out;omega⟩,⟨ks bF⟩,⟨bs HB⟩⟩
           ·replace H:=dD H;obtain rfl:=si H;obtain ⟨p65,MP,G5,oh,oq,e65,nT,zM,zL⟩:=wi (lZ lX.out iC)
            cases e65
            replace nT:=cb HB nT;have Ow:=am zL;have Zl:=am zM;clear zL zM
            try go_wp2_with (first|((with_reducible refine aN (N:=11) rfl ?_);(try (refine iM (by rfl) ?_;dsimp only));refine bz 11 (cs:=#[.slice none 0 0]) (t:=97) HB ?_;clear HB;intro oD hg F8 jr YZ hb HB;have GQ:=na hg bF;have GN:=nc hg bF;replace bF:=bb bF hb;clear hb hg;have atG:=GN.out;have auc:=GQ.out;have aCA:=uV jr))
            have bP:=kz (F8.setCell ⟨oD,0,none⟩ (.slice oh ((aH aR iC).f0).length oq)) bF;have bQ:af ((F8.setCell ⟨oD,0,none⟩ (.slice oh ((aH aR iC).f0).length oq)).heap[oD]? = some (.cells #[.slice oh ((aH aR iC).f0).length oq] 97 (0,0))):=⟨kp jr⟩;have bU:af (Below w.heap.size w (F8.setCell ⟨oD,0,none⟩ (.slice oh ((aH aR iC).f0).length oq))):=⟨bs HB⟩;(try clear bF);(try clear jr);(try clear HB)
            generalize (F8.setCell ⟨oD,0,none⟩ (.slice oh ((aH aR iC).f0).length oq))=Ng at bP bQ bU ⊢
            have bF:=bP;have jr:=bQ;have HB:=bU;clear bP bQ bU;replace bF:=am (bg bF.out);replace jr:=am (bg jr.out);replace HB:=am (cO HB.out);have p30:0≤(iC:Int):=oa;have I6:iC<((t69++t70).size:Int):=oa;have auD:=gF (t69++t70) iC;replace p30:=eq_true p30;replace I6:=eq_true I6;(try (have adi:=I6;simp only [ByteArray.size_append,zY,List.size_toArray,List.length_cons,List.length_nil,Nat.zero_add,Nat.reduceAdd,Int.natCast_add,Int.cast_ofNat_Int] at adi));have p68:0≤(0:Int):=(by omega);have I7:0<(((aH aR iC).f0).length:Int):=oa;obtain ⟨apZ,e68,xN⟩:=Kd.iZ Ow.out 0 p68 I7;have zR:=xN
            (try rw [show ((0:Int)).toNat=0 from rfl] at zR)
            (try rw [show 0 * 1=0 from rfl] at zR)
            (try rw [Addr.add_zero'] at zR)
            cases e68
            have awg:(0<((aH aR iC).f0).length)=True:=eq_true (by omega)
            (try rw [show ((0:Int)).toNat=0 from rfl] at xN)
            (try rw [Addr.add_zero'] at xN)
            replace xN:=cb HB xN;replace p68:=eq_true p68;replace I7:=eq_true I7;refine il 21 (Wn jr (hc (cb HB zR))) (fun hHeld=>?_);refine gq eX.XX eX.Vi (fun HT_ HW_=>?_)
            generalize Ng.drew=DL at bF jr HB xN hHeld ⊢
            refine jF 0 ?_;refine jm 4 ?_;refine ta 6 ?_;refine jF 7 ?_;refine jm 11 ?_;refine bV 14 ?_;refine ta 13 ?_;refine ta 15 ?_;refine bV 16 ?_;refine ta 17 ?_;refine oA 18 61 HT_ (fun K hK=>?_);refine gA Tryz.func119 #[.int .u8 (bt (t69++t70) iC),.string (aX ByteArray.empty ((aH aR iC).f0) 0)] ?_;(with_reducible refine (qz.calls k2 (bt (t69++t70) iC) (aX ByteArray.empty ((aH aR iC).f0) 0) false _ (oJ HTP (bs HB)) A32.out).mono ?_);rintro e w45 ⟨rfl,hb⟩;refine ⟨_,rfl,?_⟩;replace bF:=bb bF hb;replace jr:=bb jr hb;replace HB:=bq HB hb;(try clear hb);refine hK.out _ _ (Wn jr (hc (cb HB zR))).out (fun hHeld=>?_);clear hK K;refine nA 61 ?_;refine jm 19 ?_;refine fq (gp HT_.out (by kernel_rfl)) ?_
            try go_wp2
            go_ret
            exact ⟨ff,bs HB⟩
          ·intro c28 agQ aqD H;obtain rfl:=si H;obtain ⟨p65,MP,G5,oh,oq,e65,nT,zM,zL⟩:=wi (lZ lX.out iC)
           cases e65
           replace nT:=cb HB nT;have Ow:=am zL;have Zl:=am zM;clear zL zM
           try go_wp2_with (first|((with_reducible refine aN (N:=11) rfl ?_);(try (refine iM (by rfl) ?_;dsimp only));refine bz 11 (cs:=#[.slice none 0 0]) (t:=97) HB ?_;clear HB;intro oD hg X9 jr YZ hb HB;have GQ:=na hg bF;have GN:=nc hg bF;replace bF:=bb bF hb;clear hb hg;have aje:=GN.out;have ajq:=GQ.out;have Ll:=uV jr))
           have bP:=kz (X9.setCell ⟨oD,0,none⟩ (.slice oh ((aH aR iC).f0).length oq)) bF;have bQ:af ((X9.setCell ⟨oD,0,none⟩ (.slice oh ((aH aR iC).f0).length oq)).heap[oD]? = some (.cells #[.slice oh ((aH aR iC).f0).length oq] 97 (0,0))):=⟨kp jr⟩;have bU:af (Below w.heap.size w (X9.setCell ⟨oD,0,none⟩ (.slice oh ((aH aR iC).f0).length oq))):=⟨bs HB⟩;(try clear bF);(try clear jr);(try clear HB)
           generalize (X9.setCell ⟨oD,0,none⟩ (.slice oh ((aH aR iC).f0).length oq))=Nh at bP bQ bU ⊢
           have bF:=bP;have jr:=bQ;have HB:=bU;clear bP bQ bU;replace bF:=am (bg bF.out);replace jr:=am (bg jr.out);replace HB:=am (cO HB.out);refine il 21 (hb1 jr) (fun hHeld=>?_);refine gq eX.XX eX.Vi (fun HT_ HW_=>?_)
           generalize Nh.drew=Ty at bF jr HB hHeld ⊢
           refine jF 0 ?_;refine jm 4 ?_;refine JK (i:=6) (N:=some 49) (v:=?_) (a':=?_) #[true,true,true,true,true,true,true,false,false,false,false,false,false,false,false,false,false,false,false,false,false] rfl rfl (alq HT_.out HW_.out (by kernel_rfl)) (fun _ _ _ h=>h) (Or.inl ⟨by rfl,?_⟩) hHeld ?_ ?_
           rotate_left
           ·intro w' s0
            go_simp
            (with_reducible rfl)
           rotate_left
           ·simp only [Act.put,List.setIfInBounds_toArray,List.set_cons_zero,List.set_cons_succ,fu,gy]
            rfl
           refine lH 7 ?_;refine jF 15 ?_;refine jm 19 ?_;refine fq (gp HT_.out (by kernel_rfl)) ?_
           try go_wp2
           go_ret
           exact ⟨ff,bs HB⟩
        ·intro sP H
         revert H;refine zW ?_ ?_
         ·intro c51 aqV H;have aqW:decide (aR.length<t69.size)=true:=decide_eq_true (Int.ofNat_lt.mp c51);clear c51;obtain rfl:=si H;have asY:=gG bF
          go_wp2
          go_ret
          exact ⟨ff,bs HB⟩
         ·intro c51 aqV H;have aqW:decide (aR.length<t69.size)=false:=decide_eq_false (fun h=>c51 (Int.ofNat_lt.mpr h));clear c51;obtain rfl:=si H;have Lm:=gG bF
          go_wp2
          go_ret
          exact ⟨ff,bs HB⟩
 ·intro c4 H
  exact absurd H (by simp)
def eY.Et:Bool × List (List Nat × List Nat):=(true,[([],[]),([],[]),([1],[1]),([0,2],[0,2]),([3],[3]),([4],[4]),([4],[4]),([6,4],[4,6]),([5,7,4],[4,5,7]),([4,8],[4,8]),([9,4],[9]),([10],[10]),([10],[10]),([11,12,10],[10,11,12]),([13,10],[10,13]),([14,10],[10,14]),([10],[10]),([16,10],[10,16]),([15,17,10],[10,15,17]),([10,18],[10,18])])
def eY.B10:List Nat:=[0,0,2,7,15,31,31,95,255,511,1023,2047,2047,8191,16383,32767,2047,67583,262143,524287]
theorem eY.JI:fJ .any (opsOf Tryz.f43 10)=eY.Et:=by kernel_rfl
theorem eY.G7:iY eY.Et.2 eY.B10=true:=by kernel_rfl
def eY.sK:Bool × List (List Nat × List Nat):=(true,[([],[]),([0],[0]),([],[]),([],[]),([2,3],[2,3]),([4],[4]),([1,5],[1,5]),([6,6,0,1,2,3,4,5,6],[6])])
def eY.zh:List Nat:=[0,1,0,0,12,28,63,127]
theorem eY.wP:fJ .any (opsOf Tryz.f43 12)=eY.sK:=by kernel_rfl
theorem eY.vY:iY eY.sK.2 eY.zh=true:=by kernel_rfl
theorem eY.calls (k:Nat) (a0:Int) (A1:Option Addr) (c1:Nat) (l1:List (bA)) (r1:Int) (r2:Int) (r3:Int) (w:World) (hr1:Kd.C kS w A1 l1.length l1) (hc1:l1.length≤c1) (hTC:zu w) (hTP:uR w) (H:eY.f k a0 l1=some (r1,r2,r3)) :
  Calls Tryz.prog 43 #[.int .i64 a0,.slice A1 l1.length c1] w fun e w'=>e=.returned (.agg #[.int .i64 r1,.int .i64 r2,.int .i64 r3])∧Below w.heap.size w w':=by
 have HTC:=am hTC;clear hTC;have HTP:=am hTP;clear hTP
 have ajE:=Tryz.underlying78;have WB:=Tryz.underlying111;have qR:=Tryz.underlying62;have HR1:=am hr1;have xc:=am hc1;clear hr1 hc1;have HB:=am (Below.refl w.heap.size w);unfold eY.f at H;replace H:=bo H;obtain ⟨t68,A3,H⟩:=H
 go_in
 try go_wp2_with (first|((with_reducible refine aN (N:=4) rfl ?_);(try (refine iM (by rfl) ?_;dsimp only));refine bz 4 (cs:=#[.int .i64 0,.int .i64 0,.int .i64 0]) (t:=78) HB ?_;clear HB;intro Bc hg w4 iD aAg hb HB;clear hb hg))
 go_at_call 82;(with_reducible refine (Mk.calls _ _ l1 t68 _ (Kd.bJ HR1.out (bs HB)) xc.out A3.out).mono ?_);rintro e w' ⟨rfl,⟨nd,rfl⟩⟩
 obtain rfl|rfl:=bt t68
 ·replace H:=dE H;replace H:=wM H;obtain ⟨rfl,rfl,rfl⟩:=H;have EQ:=l6 iD
  go_wp2
  refine bodyPost_ret (results_cell_row rfl _ _ Bc 78 #[.int .i64 0,.int .i64 0,.int .i64 2] (0,0) _ rfl (kp iD) Tryz.underlying78 rfl (by kernel_rfl)) rfl ?_
  exact ⟨ff,bs HB⟩
 ·replace H:=dD H;replace H:=bo H;obtain ⟨t69,A7,H⟩:=H
  try go_wp2_with (fail)
  go_at_call 41;(with_reducible refine (kY.calls a0 1 7 t69 _ A7.out).mono ?_);rintro e w' ⟨rfl,⟨nd,rfl⟩⟩
  obtain rfl|rfl:=bt t69
  ·replace H:=dE H;replace H:=bo H;obtain ⟨t59,A9,H⟩:=H;have H':=am H;clear H
   go_wp2_with (first|((go_at_call 83;(with_reducible refine (qV.calls k a0 t59 _ A9.out).mono ?_);rintro e DI ⟨v71,rfl,ho0,hb⟩);have UL:=am (Kd.gU ho0 (bC (bs HB)));replace iD:=bb iD hb;replace HB:=bq HB hb;(try clear hb);(try clear ho0);obtain ⟨aew,VR,aa4⟩:=Kd.iy UL.out;subst aa4))
   go_loopg [5,6,23] k (fun kq v5 v6 v23 w'=>∃ (bi:Int) (dF:ByteArray) (jN:Int) (adZ:Int) (ad1:Int) (ad3:Int),v5=.int .i64 bi∧v6=.string dF∧v23=.int .i64 jN∧af (eY.l0 kq l1 bi dF t59 (t59.length:Int) jN=some (r1,r2,r3))∧af (kq≤k)∧af (Kd.R iA 111 w' w.heap.size (fun _=>True) (.slice aew t59.length VR) t59)∧af (w'.heap[Bc]? = some (.cells #[.int .i64 adZ,.int .i64 ad1,.int .i64 ad3] 78 (0,0)))∧af (Below w.heap.size w w'))
   case atStart=>exact ⟨(0),((⟨#[]⟩:ByteArray)),(0),(0),(0),(0),fg,fg,fg,H',⟨Nat.le_refl _⟩,⟨rz UL.out⟩,⟨ks iD⟩,⟨bs HB⟩⟩
   case round =>
    clear H'
    try clear c1
    try clear iD
    obtain ⟨bi,dF,jN,adZ,ad1,ad3,rfl,rfl,rfl,HA,aU,lm,iD,HB⟩:=hrel
    cases gk with
    | zero=>exact absurd HA.out (by simp [eY.l0])
    | succ k1 =>
     have H:=HA.out;clear HA;simp only [eY.l0] at H
     revert H;refine cB ?_ ?_
     ·intro xG H
      revert H;refine bu ?_
      intro lC H
      revert H;refine bu ?_
      intro oU H;have H':=am H;clear H;obtain ⟨p61,q61,agh,e61,aj0,aj1,aj2,aj3⟩:=wi (yl (Kd.dU lm.out).2.2 jN)
      cases e61
      go_wp2_with (first|((with_reducible refine aN (N:=8) rfl ?_);(try (refine iM (by rfl) ?_;dsimp only));refine bx 8 (cs:=#[.string (⟨#[]⟩:ByteArray),.int .i64 0,.int .i64 0,.string (⟨#[]⟩:ByteArray)]) (t:=111) ?_;intro Le hg DJ hbox hb;replace lm:=am (Kd.dK (Kd.af1 (rs lm) Le (Nat.le_of_eq hg.symm)) hb);have jP:=am (hbox);have aAh:=gw hg HB;replace HB:=bq HB hb;have UV:=na hg iD;have UW:=nc hg iD;replace iD:=bb iD hb;clear hb hbox hg;have atx:=UW.out;have atX:=UV.out;have PW:=eU jP))
      go_loopg [5,9] k1 (fun kq v5 v9 w'=>∃ (eG:Int) (Ud:Int) (TR:Int) (TV:Int) (TW:Int),v5=.int .i64 eG∧v9=.int .i64 Ud∧af (eY.l1 kq l1 eG Ud t59 (t59.length:Int) jN ((di t59 jN).f0) ((di t59 jN).f1) ((di t59 jN).f2) ((di t59 jN).f3)=some (r1,r2,r3))∧af (kq≤k1)∧af (Kd.R iA 111 w' w.heap.size (fun k_=>k_≠Le) (.slice (some agh) t59.length VR) t59)∧af (w'.heap[Bc]? = some (.cells #[.int .i64 TR,.int .i64 TV,.int .i64 TW] 78 (0,0)))∧af (w'.heap[Le]? = some (.cells #[.string ((di t59 jN).f0),.int .i64 ((di t59 jN).f1),.int .i64 ((di t59 jN).f2),.string ((di t59 jN).f3)] 111 (0,0)))∧af (Below w.heap.size w w'))
      case atStart=>exact ⟨(bi),(0),(adZ),(ad1),(ad3),fg,fg,H',⟨Nat.le_refl _⟩,⟨Kd.dI (rf (Kd.dI lm.out (fun k_ hk=>(⟨hk,hk.2⟩:_∧k_≠Le)))) (fun _ hk=>hk.1.2)⟩,⟨ks iD⟩,⟨kp jP⟩,⟨bs HB⟩⟩
      case round =>
       clear H'
       try clear c1
       try clear xG
       try clear lC
       try clear oU
       try clear PW
       try clear aj0
       try clear aj1
       try clear aj2
       try clear aj3
       try clear p61
       try clear q61
       try clear iD
       try clear jP
       obtain ⟨eG,Ud,TR,TV,TW,rfl,rfl,HA,cz,lm,iD,jP,HB⟩:=hrel
       cases gk with
       | zero=>exact absurd HA.out (by simp [eY.l1])
       | succ k2 =>
        have H:=HA.out;clear HA;simp only [eY.l1] at H;have Y9:=am H;clear H
        go_upto_region 10 with (fail)
        go_cut [46] (fun v46 wc=>∃ (kq:Nat) (Yo:Bool),v46=.bool Yo∧af (eY.j2 kq l1 eG Ud t59 (t59.length:Int) jN Yo ((di t59 jN).f0) ((di t59 jN).f1) ((di t59 jN).f2) ((di t59 jN).f3)=some (r1,r2,r3))∧af (kq≤k2)∧af (Kd.R iA 111 wc w.heap.size (fun k_=>k_≠Le) (.slice (some agh) t59.length VR) t59)∧af (wc.heap[Bc]? = some (.cells #[.int .i64 TR,.int .i64 TV,.int .i64 TW] 78 (0,0)))∧af (wc.heap[Le]? = some (.cells #[.string ((di t59 jN).f0),.int .i64 ((di t59 jN).f1),.int .i64 ((di t59 jN).f2),.string ((di t59 jN).f3)] 111 (0,0)))∧af (Below w.heap.size w wc))
        case first =>
         have H:=Y9.out;clear Y9
         revert H;refine cB ?_ ?_
         ·intro sP H
          (first|rw [sP]|(simp only [fu,gy];rw [sP])|skip)
          revert H;refine cB ?_ ?_
          ·intro ui H
           revert H;refine bu ?_
           intro xH H;have H':=am H;clear H
           try go_wp2
           replace lm:=am (Kd.dY lm.out);replace iD:=am (bg iD.out);replace jP:=am (bg jP.out);replace HB:=am (cO HB.out);obtain ⟨p60,q60,aAN,azG,aBb,e60,WZ,W9,aiJ,aii⟩:=wi (lv HR1.out eG);have auz:=W9;have auy:=WZ
           cases e60
           replace WZ:=cb HB WZ;replace W9:=cb HB W9;have an7:=am aii;have aAp:=am aiJ;clear aii aiJ;refine il 20 (ny jP (aJ (cb HB auy) (hc (cb HB auz)))) (fun hHeld=>?_);refine gq eY.JI eY.G7 (fun HT_ HW_=>?_)
           generalize wr.drew=JO at lm iD jP HB an7 WZ W9 hHeld ⊢
           refine jm 0 ?_;refine ta 2 ?_;refine lH 3 ?_;refine jF 11 ?_;refine bV 16 ?_;refine ta 15 ?_;refine ta 17 ?_;refine jm 18 ?_;refine fq (gp HT_.out (by kernel_rfl)) ?_
           try go_wp2
           go_meet
           case rel=>exact ⟨_,((((av l1 eG).f0).toList == ((di t59 jN).f0).toList)),fg,H',⟨by have:=aU.out;have:=cz.out;first|omega|exact Nat.le_refl _⟩,⟨rz lm.out⟩,⟨ks iD⟩,⟨ks jP⟩,⟨bs HB⟩⟩
          ·intro ui H;have H':=am H;clear H
           try go_wp2
           replace lm:=am (Kd.dY lm.out);replace iD:=am (bg iD.out);replace jP:=am (bg jP.out);replace HB:=am (cO HB.out);refine il 20 (hb4 jP) (fun hHeld=>?_);refine gq eY.JI eY.G7 (fun HT_ HW_=>?_)
           generalize wr.drew=tH at lm iD jP HB hHeld ⊢
           refine jm 0 ?_;refine ta 2 ?_;refine lH 3 ?_;refine lH 11 ?_;refine bV 19 ?_;refine fq (gp HT_.out (by kernel_rfl)) ?_
           try go_wp2
           go_meet
           case rel=>exact ⟨_,(false),fg,H',⟨by have:=aU.out;have:=cz.out;first|omega|exact Nat.le_refl _⟩,⟨rz lm.out⟩,⟨ks iD⟩,⟨ks jP⟩,⟨bs HB⟩⟩
         ·intro sP H
          (first|rw [sP]|(simp only [fu,gy];rw [sP])|skip)
          have H':=am H;clear H
          try go_wp2
          replace lm:=am (Kd.dY lm.out);replace iD:=am (bg iD.out);replace jP:=am (bg jP.out);replace HB:=am (cO HB.out);refine il 20 (hb4 jP) (fun hHeld=>?_);refine gq eY.JI eY.G7 (fun HT_ HW_=>?_)
          generalize wr.drew=JP at lm iD jP HB hHeld ⊢
          refine jm 0 ?_;refine ta 2 ?_;refine lH 3 ?_;refine lH 11 ?_;refine bV 19 ?_;refine fq (gp HT_.out (by kernel_rfl)) ?_
          try go_wp2
          go_meet
          case rel=>exact ⟨_,(false),fg,H',⟨by have:=aU.out;have:=cz.out;first|omega|exact Nat.le_refl _⟩,⟨rz lm.out⟩,⟨ks iD⟩,⟨ks jP⟩,⟨bs HB⟩⟩
        case rest =>
         clear Y9
         try clear c1
         try clear xG
         try clear lC
         try clear oU
         try clear PW
         try clear aj0
         try clear aj1
         try clear aj2
         try clear aj3
         try clear p61
         try clear q61
         obtain ⟨kq,Yo,rfl,HA,Uz,lm,iD,jP,HB⟩:=hcut
         cases kq with
         | zero=>exact absurd HA.out (by simp [eY.j2])
         | succ Xi =>
          have H:=HA.out;clear HA;simp only [eY.j2] at H
          obtain rfl|rfl:=bt Yo
          ·replace H:=dE H
           revert H;refine bu ?_
           intro O9 H
           revert H;refine bu ?_
           intro Hq H;replace H:=bo H;obtain ⟨t67,Aq,H⟩:=H
           revert H;refine gz ?_ ?_
           ·intro sQ H;have Hr:decide (0≤t67)=true:=decide_eq_true sQ;clear sQ;replace H:=wM H;obtain ⟨rfl,rfl,rfl⟩:=H
            try go_wp2
            replace lm:=am (Kd.dY lm.out);replace iD:=am (bg iD.out);replace jP:=am (bg jP.out);replace HB:=am (cO HB.out);obtain ⟨p25,q25,apK,YJ,aaI,e25,C8,C9,Qz,Qe⟩:=wi (lv HR1.out eG);have Rm:=C9;have Rl:=C8
            cases e25
            replace C8:=cb HB C8;replace C9:=cb HB C9;have Om:=am Qe;have Zb:=am Qz;clear Qe Qz;refine il 8 (ny jP (aJ (cb HB Rl) (hc (cb HB Rm)))) (fun hHeld=>?_);refine gq eY.wP eY.vY (fun HT_ HW_=>?_)
            generalize wc.drew=qJ at lm iD jP HB Om C8 C9 hHeld ⊢
            refine bV 0 ?_;refine kZ 2 ?_;refine ta 1 ?_;refine ta 5 ?_;refine oA 6 55 HT_ (fun K hK=>?_);refine gA Tryz.func84 #[.string ((di t59 jN).f3),.agg #[.string ((av l1 eG).f0),.slice YJ ((av l1 eG).f1).length aaI]] ?_;(with_reducible refine (eX.calls Xi ((di t59 jN).f3) ((av l1 eG).f0) _ _ ((av l1 eG).f1) t67 _ ?aI ?aW (Ag HTC (bs HB)) (oJ HTP (bs HB)) Aq.out).mono ?_)
            (case aI=>exact sd (Kd.bJ Om.out HB.out))
            (case aW=>exact Zb.out)
            rintro e F7 ⟨rfl,hb⟩;refine ⟨_,rfl,?_⟩;replace lm:=am (Kd.dK (rs lm) hb);replace iD:=bb iD hb;replace jP:=bb jP hb;replace HB:=bq HB hb;(try clear hb);refine hK.out _ _ (ny jP (aJ (cb HB Rl) (hc (cb HB Rm)))).out (fun hHeld=>?_);clear hK K;refine nA 55 ?_;refine bV 7 ?_;refine fq (gp HT_.out (by kernel_rfl)) ?_;have abF:=UV.out;have abJ:=UW.out;have Wp:=l6 iD
            try go_wp2
            refine bodyPost_ret (results_cell_row rfl _ _ Bc 78 #[.int .i64 eG,.int .i64 t67,.int .i64 3] (0,0) _ rfl (kp iD) Tryz.underlying78 rfl (by kernel_rfl)) rfl ?_
            exact ⟨ff,bs HB⟩
           ·intro sQ H;have Hr:decide (0≤t67)=false:=decide_eq_false sQ;clear sQ;have H':=am H;clear H
            try go_wp2
            replace lm:=am (Kd.dY lm.out);replace iD:=am (bg iD.out);replace jP:=am (bg jP.out);replace HB:=am (cO HB.out);obtain ⟨p25,q25,apK,YJ,aaI,e25,C8,C9,Qz,Qe⟩:=wi (lv HR1.out eG);have Rm:=C9;have Rl:=C8
            cases e25
            replace C8:=cb HB C8;replace C9:=cb HB C9;have Om:=am Qe;have Zb:=am Qz;clear Qe Qz;refine il 8 (ny jP (aJ (cb HB Rl) (hc (cb HB Rm)))) (fun hHeld=>?_);refine gq eY.wP eY.vY (fun HT_ HW_=>?_)
            generalize wc.drew=Ai at lm iD jP HB Om C8 C9 hHeld ⊢
            refine bV 0 ?_;refine kZ 2 ?_;refine ta 1 ?_;refine ta 5 ?_;refine oA 6 55 HT_ (fun K hK=>?_);refine gA Tryz.func84 #[.string ((di t59 jN).f3),.agg #[.string ((av l1 eG).f0),.slice YJ ((av l1 eG).f1).length aaI]] ?_;(with_reducible refine (eX.calls Xi ((di t59 jN).f3) ((av l1 eG).f0) _ _ ((av l1 eG).f1) t67 _ ?aI ?aW (Ag HTC (bs HB)) (oJ HTP (bs HB)) Aq.out).mono ?_)
            (case aI=>exact sd (Kd.bJ Om.out HB.out))
            (case aW=>exact Zb.out)
            rintro e X8 ⟨rfl,hb⟩;refine ⟨_,rfl,?_⟩;replace lm:=am (Kd.dK (rs lm) hb);replace iD:=bb iD hb;replace jP:=bb jP hb;replace HB:=bq HB hb;(try clear hb);refine hK.out _ _ (ny jP (aJ (cb HB Rl) (hc (cb HB Rm)))).out (fun hHeld=>?_);clear hK K;refine nA 55 ?_;refine bV 7 ?_;refine fq (gp HT_.out (by kernel_rfl)) ?_
            try go_wp2
            go_roundg Xi
            case measure=>have:=aU.out;have:=cz.out;have:=Uz.out;omega
            case rel=>exact ⟨(wrap64 (eG+1)),(wrap64 (Ud+1)),(TR),(TV),(TW),fg,fg,H',⟨by have:=aU.out;have:=cz.out;have:=Uz.out;omega⟩,⟨rz lm.out⟩,⟨ks iD⟩,⟨ks jP⟩,⟨bs HB⟩⟩
          ·replace H:=dD H
           revert H;refine cB ?_ ?_
           ·intro uk H;replace H:=wM H;obtain ⟨rfl,rfl,rfl⟩:=H;have abH:=UW.out;have abL:=UV.out;have Ii:=eU jP;have abk:=l6 iD
            go_wp2
            refine bodyPost_ret (results_cell_row rfl _ _ Bc 78 #[.int .i64 eG,.int .i64 0,.int .i64 4] (0,0) _ rfl (kp iD) Tryz.underlying78 rfl (by kernel_rfl)) rfl ?_
            exact ⟨ff,bs HB⟩
           ·intro uk H;have H':=am H;clear H;have atF:=UW.out;have aub:=UV.out;have ahU:=eU jP
            go_wp2
            go_roundg Xi
            case measure=>have:=aU.out;have:=cz.out;have:=Uz.out;omega
            case rel=>exact ⟨(eG),(((di t59 jN).f0)),(wrap64 (jN+1)),(TR),(TV),(TW),fg,fg,fg,H',⟨by have:=aU.out;have:=cz.out;have:=Uz.out;omega⟩,⟨by (with_reducible repeat (first|apply Kd.jW|apply Kd.jk|apply Kd.dY));exact Kd.dI lm.out (fun _ hk=>trivial)⟩,⟨ks iD⟩,⟨bs HB⟩⟩
     ·intro xG H
      revert H;refine bL ?_ ?_
      ·intro K7 aqN H;replace H:=wM H;obtain ⟨rfl,rfl,rfl⟩:=H;have asU:=l6 iD
       go_wp2
       refine bodyPost_ret (results_cell_row rfl _ _ Bc 78 #[.int .i64 0,.int .i64 0,.int .i64 0] (0,0) _ rfl (kp iD) Tryz.underlying78 rfl (by kernel_rfl)) rfl ?_
       exact ⟨ff,bs HB⟩
      ·intro K6 K7 aqN H
       revert H;refine bu ?_
       intro aaM H
       revert H;refine bu ?_
       intro aaN H
       revert H;refine bL ?_ ?_
       ·intro K8 Pf H;replace H:=wM H;obtain ⟨rfl,rfl,rfl⟩:=H;obtain ⟨p58,q58,aat,amf,aqZ,e58,zT,R4,QI,Qm⟩:=wi (lv HR1.out bi)
        cases e58
        replace zT:=cb HB zT;replace R4:=cb HB R4;have an6:=am Qm;have ang:=am QI;clear Qm QI;have asV:=l6 iD
        go_wp2
        refine bodyPost_ret (results_cell_row rfl _ _ Bc 78 #[.int .i64 bi,.int .i64 0,.int .i64 7] (0,0) _ rfl (kp iD) Tryz.underlying78 rfl (by kernel_rfl)) rfl ?_
        exact ⟨ff,bs HB⟩
       ·intro c46 K8 Pf H;replace H:=wM H;obtain ⟨rfl,rfl,rfl⟩:=H;obtain ⟨p58,q58,aat,amf,aqZ,e58,zT,R4,QI,Qm⟩:=wi (lv HR1.out bi)
        cases e58
        replace zT:=cb HB zT;replace R4:=cb HB R4;have an6:=am Qm;have ang:=am QI;clear Qm QI;have Ll:=l6 iD
        go_wp2
        refine bodyPost_ret (results_cell_row rfl _ _ Bc 78 #[.int .i64 bi,.int .i64 0,.int .i64 3] (0,0) _ rfl (kp iD) Tryz.underlying78 rfl (by kernel_rfl)) rfl ?_
        exact ⟨ff,bs HB⟩
  ·replace H:=dD H;replace H:=wM H;obtain ⟨rfl,rfl,rfl⟩:=H;have ahW:=l6 iD
   go_wp2
   refine bodyPost_ret (results_cell_row rfl _ _ Bc 78 #[.int .i64 0,.int .i64 0,.int .i64 1] (0,0) _ rfl (kp iD) Tryz.underlying78 rfl (by kernel_rfl)) rfl ?_
   exact ⟨ff,bs HB⟩
end Go.Proofs.YtapilmimgiaglaaGreatDoor.QA
