-- Merged by a program of this session (wip/tool/pack.py) out of its own texts for this claim.
import Derived.Test.YtapilmimgiaglaaGreatDoorKFnExactParcelRight6
set_option maxHeartbeats 8000000
set_option maxRecDepth 100000
set_option linter.unusedSimpArgs false
set_option linter.unusedVariables false
namespace Go.Proofs.YtapilmimgiaglaaGreatDoor.QA
open Go.RowKit Go.Proofs.bB.fA Go.Proofs.bB.PrintLast Go.Proofs.bB.PrintMore
attribute [local go_sem] o6 pg o9 pE o8 pz o7 pq   -- for this text's walks alone
theorem IY.calls (k:Nat) (ag:Int) (aj:ByteArray) (ak:ByteArray) (aD:Int) (bY:Option Addr) (bW:Nat) (ay:List ByteArray) (df:Option Addr) (bR:Nat) (ah:List (lL)) (r1:Int) (r2:ByteArray) (r3:ByteArray) (r4:Int) (r5:List ByteArray) (r6:List (aY)) (w:World) (ko:Kd.C Kd.string w bY ay.length ay) (j6:ay.length≤bW) (kr:Kd.C Br w df ah.length ah) (kg:ah.length≤bR) (H:IY.f k ag aj ak aD ay ah=some (r1,r2,r3,r4,r5,r6)) :
  Calls Tryz.prog 39 #[.agg #[.int .i64 ag,.string aj,.string ak,.int .i64 aD,.slice bY ay.length bW,.slice df ah.length bR]] w fun e w'=>∃ F4 F6:Value,e=.returned (.agg #[.int .i64 r1,.string r2,.string r3,.int .i64 r4,F4,F6])∧Kd.R Kd.string 9 w' w.heap.size (fun _=>True) F4 r5∧Kd.R iR 95 w' w.heap.size (fun _=>True) F6 r6∧Below w.heap.size w w':=by
 have abO:=Tryz.underlying56;have uX:=Tryz.underlying45;have ng:=am ko;have pR:=am j6;clear ko j6;have lW:=am kr;have oM:=am kg;clear kr kg;have HB:=am (Below.refl w.heap.size w);unfold IY.f at H;replace H:=bo H;obtain ⟨t25,A2,H⟩:=H;replace H:=bo H;obtain ⟨t24,A3,H⟩:=H;replace H:=MV H;obtain ⟨rfl,rfl,rfl,rfl,rfl,rfl⟩:=H
 go_in
 go_wp2_with (first|((with_reducible refine aN (N:=1) rfl ?_);refine bz 1 (cs:=#[.int .i64 ag,.string aj,.string ak,.int .i64 aD,.slice bY ay.length bW,.slice df ah.length bR]) (t:=56) HB ?_;clear HB;intro CL hg w4 jh aeM hb HB;clear hb hg)|((with_reducible refine aN (N:=2) rfl ?_);refine bz 2 (cs:=#[.int .i64 0,.string (⟨#[]⟩:ByteArray),.string (⟨#[]⟩:ByteArray),.int .i64 0,.slice none 0 0,.slice none 0 0]) (t:=45) HB ?_;clear HB;intro oC hg w5 jI Kk hb HB;have aoO:=na hg jh;have aoR:=nc hg jh;replace jh:=bb jh hb;clear hb hg)|((with_reducible refine aN (N:=3) rfl ?_);refine bz 3 (cs:=#[.int .i64 0,.string (⟨#[]⟩:ByteArray),.string (⟨#[]⟩:ByteArray),.int .i64 0,.slice none 0 0,.slice none 0 0]) (t:=45) HB ?_;clear HB;intro Bb hg w6 pK az5 hb HB;have aoN:=na hg jh;have aoP:=nc hg jh;replace jh:=bb jh hb;have aoS:=na hg jI;have aoQ:=nc hg jI;replace jI:=bb jI hb;clear hb hg;have ajk:=aoO.out;have ajw:=aoR.out;have atT:=aoN.out;have auo:=aoP.out;have CS:=dC jh;have Wx:=aoQ.out;have Wz:=aoS.out;have aBR:w6.cell? ⟨Bb,0,none⟩=some (.int .i64 0):=(az pK.out 0).trans rfl;have aBS:w6.cell? ⟨Bb,1,none⟩=some (.string (⟨#[]⟩:ByteArray)):=(az pK.out 1).trans rfl;have aBT:w6.cell? ⟨Bb,2,none⟩=some (.string (⟨#[]⟩:ByteArray)):=(az pK.out 2).trans rfl;have aBU:w6.cell? ⟨Bb,3,none⟩=some (.int .i64 0):=(az pK.out 3).trans rfl;have aBV:w6.cell? ⟨Bb,4,none⟩=some (.slice none 0 0):=(az pK.out 4).trans rfl;have aBW:w6.cell? ⟨Bb,5,none⟩=some (.slice none 0 0):=(az pK.out 5).trans rfl;have aDG:=aV pK.out 0;have aDH:=aV pK.out 1;have aDI:=aV pK.out 2;have aDJ:=aV pK.out 3;have aDK:=aV pK.out 4;have aDL:=aV pK.out 5)|((go_at_call 75;(with_reducible refine (rY.calls k _ _ ay t25 _ ?aI pR.out A2.out).mono ?_);(case aI=>exact Kd.bJ ng.out (bs HB));rintro e wS ⟨v28,rfl,ho0,hb⟩);have UG:=am (Kd.gU ho0 (bC (bs HB)));replace jh:=bb jh hb;replace jI:=bb jI hb;replace pK:=am (aZ (g:=Bb) (o:=.cells #[.int .i64 ag,.string aj,.string ak,.int .i64 aD,.slice none 0 0,.slice none 0 0] 45 (0,0)) (kp pK) hb);replace HB:=bq HB hb;(try clear hb);(try clear ho0);obtain ⟨Ed,EH,La⟩:=Kd.iy UG.out;subst La;have Wo:=dC pK;have aB8:wS.cell? ⟨CL,0,none⟩=some (.int .i64 ag):=(az jh.out 0).trans rfl;have aB9:wS.cell? ⟨CL,1,none⟩=some (.string aj):=(az jh.out 1).trans rfl;have aCa:wS.cell? ⟨CL,2,none⟩=some (.string ak):=(az jh.out 2).trans rfl;have aCb:wS.cell? ⟨CL,3,none⟩=some (.int .i64 aD):=(az jh.out 3).trans rfl;have aCc:wS.cell? ⟨CL,4,none⟩=some (.slice bY ay.length bW):=(az jh.out 4).trans rfl;have aCd:wS.cell? ⟨CL,5,none⟩=some (.slice df ah.length bR):=(az jh.out 5).trans rfl;have aDQ:=aV jh.out 0;have aDR:=aV jh.out 1;have aDS:=aV jh.out 2;have aDT:=aV jh.out 3;have aDU:=aV jh.out 4;have aDV:=aV jh.out 5)|((go_at_call 76;(with_reducible refine (uC.calls k _ _ ah t24 _ ?aI oM.out A3.out).mono ?_);(case aI=>exact Kd.bJ lW.out (bs HB));rintro e w16 ⟨v29,rfl,ho0,hb⟩);replace UG:=am (Kd.dK (by (with_reducible repeat (first|apply Kd.jW|apply Kd.jk|apply Kd.dY));exact (Kd.dI (rf (Kd.lK UG.out pK.out (by decide))) (fun _ h_=>h_.1))) hb);have ae8:=am (Kd.gU ho0 (bC (bs HB)));replace jh:=am (aZ (ks jh) hb);replace jI:=am (aZ (ks jI) hb);replace pK:=am (aZ (g:=Bb) (o:=.cells #[.int .i64 ag,.string aj,.string ak,.int .i64 aD,.slice Ed t25.length EH,.slice none 0 0] 45 (0,0)) (kp pK) hb);replace HB:=am (fF (bs HB) hb);(try clear hb);(try clear ho0);obtain ⟨Ca,CG,Pz⟩:=Kd.iy ae8.out;subst Pz;have Lh:=dC pK;have Ie:=dC jI))
 refine bodyPost_ret (results_cell_row rfl _ _ oC 45 #[.int .i64 ag,.string aj,.string ak,.int .i64 aD,.slice Ed t25.length EH,.slice Ca t24.length CG] (0,0) _ rfl (kp jI) Tryz.underlying45 rfl (by kernel_rfl)) rfl ?_
 exact ⟨_,_,ff,by (with_reducible repeat (first|apply Kd.jW|apply Kd.jk|apply Kd.dY));exact Kd.dI (Kd.uP (p:=⟨oC,5,none⟩) (Kd.uP (p:=⟨oC,4,none⟩) (Kd.uP (p:=⟨oC,3,none⟩) (Kd.uP (p:=⟨oC,2,none⟩) (Kd.uP (p:=⟨oC,1,none⟩) (Kd.uP (p:=⟨oC,0,none⟩) (Kd.uP (p:=⟨Bb,5,none⟩) (Kd.lK (Kd.lK UG.out pK.out (by decide)) jI.out (by decide)) (fun _ hk=>hk.1.2) (.slice Ca t24.length CG)) (fun _ hk=>hk.2) (.int .i64 ag)) (fun _ hk=>hk.2) (.string aj)) (fun _ hk=>hk.2) (.string ak)) (fun _ hk=>hk.2) (.int .i64 aD)) (fun _ hk=>hk.2) (.slice Ed t25.length EH)) (fun _ hk=>hk.2) (.slice Ca t24.length CG)) (fun _ hk=>trivial),by (with_reducible repeat (first|apply Kd.jW|apply Kd.jk|apply Kd.dY));exact Kd.dI (Kd.uP (p:=⟨oC,5,none⟩) (Kd.uP (p:=⟨oC,4,none⟩) (Kd.uP (p:=⟨oC,3,none⟩) (Kd.uP (p:=⟨oC,2,none⟩) (Kd.uP (p:=⟨oC,1,none⟩) (Kd.uP (p:=⟨oC,0,none⟩) (Kd.uP (p:=⟨Bb,5,none⟩) (Kd.lK (Kd.lK ae8.out pK.out (by decide)) jI.out (by decide)) (fun _ hk=>hk.1.2) (.slice Ca t24.length CG)) (fun _ hk=>hk.2) (.int .i64 ag)) (fun _ hk=>hk.2) (.string aj)) (fun _ hk=>hk.2) (.string ak)) (fun _ hk=>hk.2) (.int .i64 aD)) (fun _ hk=>hk.2) (.slice Ed t25.length EH)) (fun _ hk=>hk.2) (.slice Ca t24.length CG)) (fun _ hk=>trivial),bs HB⟩
theorem rX.calls (k:Nat) (A0:Option Addr) (c0:Nat) (l0:List (lM)) (r:List (gN)) (w:World) (hr0:Kd.C Bt w A0 l0.length l0) (hc0:l0.length≤c0) (H:rX.f k l0=some r) :
  Calls Tryz.prog 20 #[.slice A0 l0.length c0] w fun e w'=>∃ kT:Value,e=.returned (kT)∧Kd.S kK 45 w' w.heap.size (fun _=>True) kT r∧Below w.heap.size w w':=by
 have abO:=Tryz.underlying56;have uX:=Tryz.underlying45;have fZ:=am hr0;have ku:=am hc0;clear hr0 hc0;have HB:=am (Below.refl w.heap.size w);unfold rX.f at H
 revert H;refine gz ?_ ?_
 ·intro c2 H;have gJ:=eq_true c2;have ja:decide (0≤(l0.length:Int))=true:=decide_eq_true c2;clear c2
  revert H;refine jE ?_
  intro c3 H;have bN:=eq_true c3;have fo:decide (((l0.length:Int):Int).toNat≤2932031007402)=true:=decide_eq_true c3;clear c3;obtain ⟨Gi,Iy⟩:∃ y_:List (gN),y_=(List.replicate ((l0.length:Int):Int).toNat z45):=⟨_,rfl⟩
  replace H:(rX.l0 k l0 Gi 0)=some r:=ye Iy H
  have OE:=am Iy;clear Iy;have H':=am H;clear H
  go_in
  go_wp2_with (first|((with_reducible refine aN (N:=7) rfl ?_);refine Kd.apA kK _ 45 rfl (N:=7) rfl 27 _ _ rfl (l0.length:Int) rfl rfl Tryz.underlying27 (.agg #[(.int .i64 0),(.string ⟨#[]⟩),(.string ⟨#[]⟩),(.int .i64 0),(.slice none 0 0),(.slice none 0 0)]) 96 auP rfl (by decide) (by omega) z45 (ok:=fun _=>True) (okp:=fun _=>True) (aki _ _ _ z45 (Kd.qj _ _ _ _ _) (Kd.qj _ _ _ _ _)) (fun _ hk=>hk) trivial (oa) (Nat.le_trans (Nat.mul_le_mul_right _ (oa:(l0.length:Int).toNat≤2932031007402)) (by omega)) (Below.refl _ _) (Nat.le_refl _) ?_;intro v30 w4 zP hb hg_ hnew_;clear hg_ hnew_;(first|rw [← OE.out] at zP|(simp only [Int.reduceToNat] at zP;rw [← OE.out] at zP));have UI:=am (Kd.mJ zP (bC (bs HB)));replace HB:=bq HB hb;clear hb zP))
  go_loopg [4] k (fun kq v4 w'=>∃ (dW:List (gN)) (dM:Int),v4=.int .i64 dM∧af (rX.l0 kq l0 dW dM=some r)∧af (kq≤k)∧af (Kd.S kK 45 w' w.heap.size (fun _=>True) v30 dW)∧af (Below w.heap.size w w'))
  case atStart=>exact ⟨(Gi),(0),fg,H',⟨Nat.le_refl _⟩,⟨by (with_reducible repeat (first|apply Kd.fD|apply Kd.fE|apply Kd.dV));exact UI.out⟩,⟨bs HB⟩⟩
  case round =>
   clear H'
   try clear c2
   try clear gJ
   try clear ja
   try clear c3
   try clear bN
   try clear fo
   obtain ⟨dW,dM,rfl,HA,aU,gu,HB⟩:=hrel
   cases gk with
   | zero=>exact absurd HA.out (by simp [rX.l0])
   | succ k1 =>
    have H:=HA.out;clear HA;simp only [rX.l0] at H
    revert H;refine cB ?_ ?_
    ·intro gQ H
     revert H;refine bu ?_
     intro kJ H;replace H:=bo H;obtain ⟨⟨t17,mf,nW,t22,t25,t26⟩,A8,H⟩:=H;(try dsimp only at H)
     revert H;refine bu ?_
     intro nk H;obtain ⟨D8,Iz⟩:∃ y_:List (gN),y_=(dW.set (dM:Int).toNat (⟨t17,mf,nW,t22,t25,t26⟩:gN)):=⟨_,rfl⟩
     replace H:(rX.l0 k1 l0 D8 (wrap64 (dM+1)))=some r:=ye Iz H
     have UX:=am Iz;clear Iz;have H':=am H;clear H;obtain ⟨z8,Aa,af8,Uf,VE,Ug,VF,e14,yx,yz,yA,yB,yC,yD,EY,ET,EZ,EU⟩:=wi (agp fZ.out dM)
     cases e14
     replace yx:=cb HB yx;replace yz:=cb HB yz;replace yA:=cb HB yA;replace yB:=cb HB yB;replace yC:=cb HB yC;replace yD:=cb HB yD;have Gu:=am ET;have Og:=am EY;clear ET EY;have Gv:=am EU;have Oh:=am EZ;clear EU EZ
     go_wp2_with (first|((go_at_call 39;(with_reducible refine (IY.calls k1 ((jo l0 dM).f0) ((jo l0 dM).f1) ((jo l0 dM).f2) ((jo l0 dM).f3) _ _ ((jo l0 dM).f4) _ _ ((jo l0 dM).f5) t17 mf nW t22 t25 t26 _ (Kd.bJ Gu.out (bs HB)) Og.out (Kd.bJ Gv.out (bs HB)) Oh.out A8.out).mono ?_);rintro e kU ⟨v28,v29,rfl,ho0,ho1,hb⟩);replace gu:=am (Kd.fU (Kd.af7 (Kd.af7 (Kd.apB (by (with_reducible repeat (first|apply Kd.fD|apply Kd.fE|apply Kd.dV));exact gu.out) hb) (Kd.oO ho0)) (Kd.oO ho1)) (fun _ h_=>h_.1));have Kt:=am (Kd.gU ho0 (bC (bs HB)));have Ku:=am (Kd.gU ho1 (bC (bs HB)));replace HB:=am (fF (bs HB) hb);(try clear hb);(try clear ho0);(try clear ho1);have jS:0≤(dM:Int):=oa;have jL:(dM:Int)<((dW.length:Int):Int):=oa;obtain ⟨nu,Po,HZ,ahA,asK,aBu,aeX⟩:=Kd.OJ gu.out (by omega);(first|cases HZ|(injection HZ with ea_ en_ ec_;(first|subst ea_|(injection ea_ with ea_;subst ea_));subst ec_;clear en_));have Ki:=am ahA;have az1:=am aeX;clear ahA asK aeX;obtain ⟨_,aBr,asP,ahI,Ib,Ij,_,_⟩:=Kd.KP gu.out z45 (dM:Int) jS jL;obtain ⟨ay4,ay5,rfl,aBC,aBD⟩:=akj ahI;have WF:kU.cell? ⟨nu,(dM:Int).toNat * 6,none⟩=some (.int .i64 ((aG dW dM).f0)):=Ib 0 _ rfl;have ajF:kU.cell? ⟨nu,(dM:Int).toNat * 6+1,none⟩=some (.string ((aG dW dM).f1)):=Ib 1 _ rfl;have ajG:kU.cell? ⟨nu,(dM:Int).toNat * 6+2,none⟩=some (.string ((aG dW dM).f2)):=Ib 2 _ rfl;have ajH:kU.cell? ⟨nu,(dM:Int).toNat * 6+3,none⟩=some (.int .i64 ((aG dW dM).f3)):=Ib 3 _ rfl;have ajI:kU.cell? ⟨nu,(dM:Int).toNat * 6+4,none⟩=some (ay4):=Ib 4 _ rfl;have aH4:kU.cell? ⟨nu,(dM:Int).toNat * 6+5,none⟩=some (ay5):=Ib 5 _ rfl;have aCY:kU.frozen? ⟨nu,(dM:Int).toNat * 6,none⟩=false:=Ij 0;have aCZ:kU.frozen? ⟨nu,(dM:Int).toNat * 6+1,none⟩=false:=Ij 1;have aC0:kU.frozen? ⟨nu,(dM:Int).toNat * 6+2,none⟩=false:=Ij 2;have aC1:kU.frozen? ⟨nu,(dM:Int).toNat * 6+3,none⟩=false:=Ij 3;have aC2:kU.frozen? ⟨nu,(dM:Int).toNat * 6+4,none⟩=false:=Ij 4;have aC3:kU.frozen? ⟨nu,(dM:Int).toNat * 6+5,none⟩=false:=Ij 5;clear asP Ib Ij ahI;replace jS:=eq_true jS;replace jL:=eq_true jL;have n_:=am (Kd.fU (ok':=(fun k_=>some k_≠(v28:Value).ownBlock∧some k_≠(v29:Value).ownBlock)) gu.out (fun k_ hk=>⟨hk.1.2,hk.2⟩));clear gu;have gu:=n_;clear n_;have aof:=am (show Kd.S kK 45 kU w.heap.size (fun k_=>((fun _=>True)) k_∧¬ ((fun k_=>some k_=(v28:Value).ownBlock∨some k_=(v29:Value).ownBlock)) k_) (.slice (some ⟨nu,0,none⟩) dW.length Po) dW from (by (with_reducible repeat (first|apply Kd.fD|apply Kd.fE|apply Kd.dV));exact Kd.fU gu.out (fun k_ hk=>⟨trivial,fun e_=>e_.elim (fun h_=>hk.1 h_) (fun h_=>hk.2 h_)⟩)));obtain ⟨aIe,aBs,asQ,ahJ,Ic,Ik,aus,ahH⟩:=Kd.KP aof.out z45 (dM:Int) (oa) (by have h_:(dM:Int)<((dW.length:Int):Int):=oa;first|exact h_|(have e_:=(Kd.oP gu.out).1;omega)|simpa using h_);obtain ⟨aJd,aJe,rfl,aBE,aBF⟩:=akj ahJ;have ZJ:=Kd.apD ahH (oa) (by have h_:(dM:Int)<((dW.length:Int):Int):=oa;first|exact h_|(have e_:=(Kd.oP gu.out).1;omega)|simpa using h_) (seg:=[.int .i64 t17,.string mf,.string nW,.int .i64 t22,v28,v29]) (j:=0) (show 6≤6 from by decide) (x':=(⟨t17,mf,nW,t22,t25,t26⟩:gN)) (aki _ _ _ (⟨t17,mf,nW,t22,t25,t26⟩:gN) (Kd.dI (Kd.U3 rfl (Kd.dI (ok':=fun k_=>((fun _=>True)) k_∧k_≠nu) (Kd.Ep (Kt.out) (Kd.zt gu.out) (by decide)) (fun k_ hk=>⟨trivial,fun e_=>(hk.2) (by rw [e_];rfl)⟩))) (fun _ h_=>Or.inr (Or.inl h_))) (Kd.dI (Kd.U3 rfl (Kd.dI (ok':=fun k_=>((fun _=>True)) k_∧k_≠nu) (Kd.Ep (Ku.out) (Kd.zt gu.out) (by decide)) (fun k_ hk=>⟨trivial,fun e_=>(hk.2) (by rw [e_];rfl)⟩))) (fun _ h_=>Or.inr (Or.inr (h_))))) (fun _ hk=>hk) (fun k_ hk_=>hk_.elim (fun h_=>((Kd.dI (ok':=fun k_=>((fun _=>True)) k_∧k_≠nu) (Kd.Ep (Kt.out) (Kd.zt gu.out) (by decide)) (fun k_ hk=>⟨trivial,fun e_=>(hk.2) (by rw [e_];rfl)⟩))).1 k_ h_.symm) (fun h_=>((Kd.dI (ok':=fun k_=>((fun _=>True)) k_∧k_≠nu) (Kd.Ep (Ku.out) (Kd.zt gu.out) (by decide)) (fun k_ hk=>⟨trivial,fun e_=>(hk.2) (by rw [e_];rfl)⟩))).1 k_ h_.symm));have nS:=Ic 0 _ rfl;(try simp only [show (kK).sz=6 from rfl,Nat.mul_one,Nat.add_zero] at nS);have ata:=Ik 0;(try simp only [show (kK).sz=6 from rfl,Nat.mul_one,Nat.add_zero] at ata);have WG:=Ic 1 _ rfl;(try simp only [show (kK).sz=6 from rfl,Nat.mul_one,Nat.add_zero] at WG);have atb:=Ik 1;(try simp only [show (kK).sz=6 from rfl,Nat.mul_one,Nat.add_zero] at atb);have WH:=Ic 2 _ rfl;(try simp only [show (kK).sz=6 from rfl,Nat.mul_one,Nat.add_zero] at WH);have atc:=Ik 2;(try simp only [show (kK).sz=6 from rfl,Nat.mul_one,Nat.add_zero] at atc);have WI:=Ic 3 _ rfl;(try simp only [show (kK).sz=6 from rfl,Nat.mul_one,Nat.add_zero] at WI);have atd:=Ik 3;(try simp only [show (kK).sz=6 from rfl,Nat.mul_one,Nat.add_zero] at atd);have WJ:=Ic 4 _ rfl;(try simp only [show (kK).sz=6 from rfl,Nat.mul_one,Nat.add_zero] at WJ);have ate:=Ik 4;(try simp only [show (kK).sz=6 from rfl,Nat.mul_one,Nat.add_zero] at ate);have WK:=Ic 5 _ rfl;(try simp only [show (kK).sz=6 from rfl,Nat.mul_one,Nat.add_zero] at WK);have atf:=Ik 5;(try simp only [show (kK).sz=6 from rfl,Nat.mul_one,Nat.add_zero] at atf);clear asQ Ic Ik ahJ aus ahH)|((with_reducible refine H8 (t:=45) (p:=21) rfl ?_);refine Jk (t:=45) (p:=21) (v:=?aJg) (w1:=((((((kU.setCell ⟨nu,(dM:Int).toNat * 6,none⟩ (.int .i64 t17)).setCell ⟨nu,(dM:Int).toNat * 6+1,none⟩ (.string mf)).setCell ⟨nu,(dM:Int).toNat * 6+2,none⟩ (.string nW)).setCell ⟨nu,(dM:Int).toNat * 6+3,none⟩ (.int .i64 t22)).setCell ⟨nu,(dM:Int).toNat * 6+4,none⟩ (v28)).setCell ⟨nu,(dM:Int).toNat * 6+5,none⟩ (v29))) ?hg ?ho ?hn ?hr ?_;(case ho=>rfl);(case hg=>rfl);(case hn=>rfl);(case hr=>first|(go_simp;done)|(go_simp;rfl)|((try (first|(obtain ⟨aet,agZ,Px⟩:=Kd.iy Kt.out;subst Px)|(obtain ⟨aet,agZ,Px⟩:=Kd.iy (Kd.ql Kt.out);subst Px)|(obtain ⟨aet,agZ,Px⟩:=Kd.GV Kt.out;subst Px)));(try (first|(obtain ⟨aeu,ag0,Py⟩:=Kd.iy Ku.out;subst Py)|(obtain ⟨aeu,ag0,Py⟩:=Kd.iy (Kd.ql Ku.out);subst Py)|(obtain ⟨aeu,ag0,Py⟩:=Kd.GV Ku.out;subst Py)));first|(go_simp;done)|(go_simp;rfl)));intro vO hw;have hg:kU.grownBy vO (some nu):=(by rw [hw];exact ZJ.2);have hp_:Kd.S kK 45 vO w.heap.size (fun _=>True) (.slice (some ⟨nu,0,none⟩) dW.length Po) D8:=(by rw [hw,UX.out];exact ZJ.1);clear ZJ;replace gu:=am (hp_);replace HB:=am ((by rw [hw];exact eD (eD (eD (eD (eD (eD (HB.out) Ki.out) Ki.out) Ki.out) Ki.out) Ki.out) Ki.out:Below w.heap.size w vO));clear Kt;clear Ku;clear hg hw hp_))
     go_roundg k1
     case measure=>have:=aU.out;omega
     case rel=>exact ⟨(D8),(wrap64 (dM+1)),fg,H',⟨by have:=aU.out;omega⟩,⟨by (with_reducible repeat (first|apply Kd.fD|apply Kd.fE|apply Kd.dV));exact gu.out⟩,⟨bs HB⟩⟩
    ·intro gQ H;obtain rfl:=si H
     go_wp2
     go_ret
     exact ⟨_,ff,by (with_reducible repeat (first|apply Kd.fD|apply Kd.fE|apply Kd.dV));exact gu.out,bs HB⟩
 ·intro c2 H
  exact absurd H (by simp)
theorem yM.calls (k:Nat) (ag:ByteArray) (aj:ByteArray) (ak:Int) (fP:Option Addr) (eZ:Nat) (au:List (lM)) (r1:ByteArray) (r2:ByteArray) (r3:Int) (r4:List (gN)) (w:World) (kE:Kd.C Bt w fP au.length au) (kD:au.length≤eZ) (H:yM.f k ag aj ak au=some (r1,r2,r3,r4)) :
  Calls Tryz.prog 7 #[.agg #[.string ag,.string aj,.int .i64 ak,.slice fP au.length eZ]] w fun e w'=>∃ wR:Value,e=.returned (.agg #[.string r1,.string r2,.int .i64 r3,wR])∧Kd.S kK 45 w' w.heap.size (fun _=>True) wR r4∧Below w.heap.size w w':=by
 have ajD:=Tryz.underlying24;have WC:=Tryz.underlying29;have pV:=am kE;have qN:=am kD;clear kE kD;have HB:=am (Below.refl w.heap.size w);unfold yM.f at H;replace H:=bo H;obtain ⟨nW,A2,H⟩:=H;replace H:=SX H;obtain ⟨rfl,rfl,rfl,rfl⟩:=H
 go_in
 go_wp2_with (first|((with_reducible refine aN (N:=1) rfl ?_);refine bz 1 (cs:=#[.string ag,.string aj,.int .i64 ak,.slice fP au.length eZ]) (t:=24) HB ?_;clear HB;intro aBA hg w3 zi az4 hb HB;clear hb hg)|((with_reducible refine aN (N:=2) rfl ?_);refine bz 2 (cs:=#[.string (⟨#[]⟩:ByteArray),.string (⟨#[]⟩:ByteArray),.int .i64 0,.slice none 0 0]) (t:=29) HB ?_;clear HB;intro iQ hg w4 dL Oc hb HB;have aoM:=na hg zi;have aoK:=nc hg zi;replace zi:=bb zi hb;clear hb hg)|((with_reducible refine aN (N:=3) rfl ?_);refine bz 3 (cs:=#[.string (⟨#[]⟩:ByteArray),.string (⟨#[]⟩:ByteArray),.int .i64 0,.slice none 0 0]) (t:=29) HB ?_;clear HB;intro pY hg w5 eH aeL hb HB;have aoL:=na hg zi;have aoI:=nc hg zi;replace zi:=bb zi hb;have aoJ:=na hg dL;have aoH:=nc hg dL;replace dL:=bb dL hb;clear hb hg;have aji:=aoM.out;have aju:=aoK.out;have ajk:=aoL.out;have ajw:=aoI.out;have CR:=eU zi;have Wy:=aoH.out;have WA:=aoJ.out;have aBK:w5.cell? ⟨pY,0,none⟩=some (.string (⟨#[]⟩:ByteArray)):=(az eH.out 0).trans rfl;have aBL:w5.cell? ⟨pY,1,none⟩=some (.string (⟨#[]⟩:ByteArray)):=(az eH.out 1).trans rfl;have aBM:w5.cell? ⟨pY,2,none⟩=some (.int .i64 0):=(az eH.out 2).trans rfl;have aBN:w5.cell? ⟨pY,3,none⟩=some (.slice none 0 0):=(az eH.out 3).trans rfl;have aDC:=aV eH.out 0;have aDD:=aV eH.out 1;have aDE:=aV eH.out 2;have aDF:=aV eH.out 3)|((go_at_call 20;(with_reducible refine (rX.calls k _ _ au nW _ ?aI qN.out A2.out).mono ?_);(case aI=>exact Kd.bJ pV.out (bs HB));rintro e kU ⟨v22,rfl,ho0,hb⟩);have Eh:=am (Kd.mJ ho0 (bC (bs HB)));replace zi:=bb zi hb;replace dL:=bb dL hb;replace eH:=am (aZ (g:=pY) (o:=.cells #[.string ag,.string aj,.int .i64 ak,.slice none 0 0] 29 (0,0)) (kp eH) hb);replace HB:=bq HB hb;(try clear hb);(try clear ho0);obtain ⟨Gp,HY,aa5⟩:=Kd.kI Eh.out;subst aa5;have Be:=eU eH;have Wo:=eU dL))
 refine bodyPost_ret (results_cell_row rfl _ _ iQ 29 #[.string ag,.string aj,.int .i64 ak,.slice Gp nW.length HY] (0,0) _ rfl (kp dL) Tryz.underlying29 rfl (by kernel_rfl)) rfl ?_
 exact ⟨_,ff,by (with_reducible repeat (first|apply Kd.fD|apply Kd.fE|apply Kd.dV));exact Kd.fU (Kd.iT (p:=⟨iQ,3,none⟩) (Kd.iT (p:=⟨iQ,2,none⟩) (Kd.iT (p:=⟨iQ,1,none⟩) (Kd.iT (p:=⟨iQ,0,none⟩) (Kd.iT (p:=⟨pY,3,none⟩) (Kd.uQ (Kd.uQ Eh.out eH.out (by decide)) dL.out (by decide)) (fun _ hk=>hk.1.2) (.slice Gp nW.length HY)) (fun _ hk=>hk.2) (.string ag)) (fun _ hk=>hk.2) (.string aj)) (fun _ hk=>hk.2) (.int .i64 ak)) (fun _ hk=>hk.2) (.slice Gp nW.length HY)) (fun _ hk=>trivial),bs HB⟩
theorem fw.calls (k:Nat) (a0:Int) (r:ByteArray) (w:World) (H:fw.f k a0=some r) :
  Calls Tryz.prog 61 #[.int .i64 a0] w fun e w'=>e=.returned (.string r)∧Below w.heap.size w w':=by
 have HB:=am (Below.refl w.heap.size w);unfold fw.f at H
 revert H;refine bL ?_ ?_
 ·intro gJ ja H;obtain rfl:=si H
  go_in
  go_wp2
  go_ret
  exact ⟨ff,bs HB⟩
 ·intro c2 gJ ja H;have H':=am H;clear H
  go_in
  go_wp2
  go_loopg [0,4] k (fun kq v0 v4 w'=>∃ (tK:Int) (dM:ByteArray),v0=.int .i64 tK∧v4=.string dM∧af (fw.l0 kq tK (decide (a0<0)) dM=some r)∧af (kq≤k)∧af (Below w.heap.size w w'))
  case atStart=>exact ⟨(a0),((⟨#[]⟩:ByteArray)),fg,fg,H',⟨Nat.le_refl _⟩,⟨bs HB⟩⟩
  case round =>
   clear H'
   try clear c2
   try clear gJ
   try clear ja
   obtain ⟨tK,dM,rfl,rfl,HA,aU,HB⟩:=hrel
   cases gk with
   | zero=>exact absurd HA.out (by simp [fw.l0])
   | succ k1 =>
    have H:=HA.out;clear HA;simp only [fw.l0] at H
    revert H;refine bL ?_ ?_
    ·intro bN fo H
     revert H;refine gz ?_ ?_
     ·intro c4 H;have dS:(decide (a0<0))=true:=c4
      (first|rw [dS]|skip)
      clear c4
      revert H;refine jE ?_
      intro c5 H;have kv:=eq_true c5;have wo:decide (1+dM.size≤9223372036854775807)=true:=decide_eq_true c5
      try have aBa:(9223372036854775807<1+dM.size)=False:=eq_false (Nat.not_lt.2 c5)
      obtain rfl:=si H
      go_wp2
      go_ret
      exact ⟨ff,bs HB⟩
     ·intro c4 H
      have dS:(decide (a0<0))=false:=by simpa using c4
      (first|rw [dS]|skip)
      clear c4;obtain rfl:=si H
      go_wp2
      go_ret
      exact ⟨ff,bs HB⟩
    ·intro c3 bN fo H
     revert H;refine cB ?_ ?_
     ·intro gQ H;obtain ⟨Gi,Iy⟩:∃ y_:List Int,y_=(([(wrap64 (48+(wrap64 (-(Int.tmod tK 10))))) % 256]:List Int)):=⟨_,rfl⟩
      replace H:(if (strOfNums Gi).size+dM.size≤9223372036854775807 then (fw.l0 k1 (wrap64 (Int.tdiv tK 10)) (decide (a0<0)) ((strOfNums Gi)++dM)) else (none))=some r:=ye Iy H
      have OE:=am Iy;clear Iy
      revert H;refine jE ?_
      intro c7 H;have kJ:=eq_true c7;have yn:decide ((strOfNums Gi).size+dM.size≤9223372036854775807)=true:=decide_eq_true c7
      try have aBk:(9223372036854775807<(strOfNums Gi).size+dM.size)=False:=eq_false (Nat.not_lt.2 c7)
      have H':=am H;clear H
      go_wp2_with (first|((with_reducible refine aN (N:=21) rfl ?_);refine rl (Kd.int .u8) 5 (N:=21) (xs:=([(wrap64 (48+(wrap64 (-(Int.tmod tK 10))))) % 256]:List Int)) (inner:=[.int .u8 ((wrap64 (48+(wrap64 (-(Int.tmod tK 10))))) % 256)]) ?hp ?_;(case hp=>exact (aQ.one (show Kd.M (Kd.int .u8) _ _ _ ((wrap64 (48+(wrap64 (-(Int.tmod tK 10))))) % 256) [.int .u8 ((wrap64 (48+(wrap64 (-(Int.tmod tK 10))))) % 256)] from rfl) (aQ.none _ _)));intro v19 w8 xK hb hg_ hnew_;clear hg_ hnew_;(first|rw [← OE.out] at xK|(simp only [Int.reduceToNat] at xK;rw [← OE.out] at xK));have Zz:=am (Kd.gU xK (bC (bs HB)));replace HB:=bq HB hb;clear hb xK;have aBG:=akO (P:=Tryz.prog) Tryz.underlying124 Tryz.underlying5 Tryz.underlying9 (Kd.Xp Zz.out)))
      go_roundg k1
      case measure=>have:=aU.out;omega
      case rel=>exact ⟨(wrap64 (Int.tdiv tK 10)),((strOfNums Gi)++dM),fg,fg,H',⟨by have:=aU.out;omega⟩,⟨bs HB⟩⟩
     ·intro gQ H;obtain ⟨D8,Iz⟩:∃ y_:List Int,y_=(([(wrap64 (48+(Int.tmod tK 10))) % 256]:List Int)):=⟨_,rfl⟩
      replace H:(if (strOfNums D8).size+dM.size≤9223372036854775807 then (fw.l0 k1 (wrap64 (Int.tdiv tK 10)) (decide (a0<0)) ((strOfNums D8)++dM)) else (none))=some r:=ye Iz H
      have UX:=am Iz;clear Iz
      revert H;refine gz ?_ ?_
      ·intro c11 H;have xE:=eq_true c11;have Cv:decide ((strOfNums D8).size+dM.size≤9223372036854775807)=true:=decide_eq_true c11
       try have aAW:(9223372036854775807<(strOfNums D8).size+dM.size)=False:=eq_false (Nat.not_lt.2 c11)
       have H':=am H;clear H
       go_wp2_with (first|((with_reducible refine aN (N:=21) rfl ?_);refine rl (Kd.int .u8) 5 (N:=21) (xs:=([(wrap64 (48+(Int.tmod tK 10))) % 256]:List Int)) (inner:=[.int .u8 ((wrap64 (48+(Int.tmod tK 10))) % 256)]) ?hp ?_;(case hp=>exact (aQ.one (show Kd.M (Kd.int .u8) _ _ _ ((wrap64 (48+(Int.tmod tK 10))) % 256) [.int .u8 ((wrap64 (48+(Int.tmod tK 10))) % 256)] from rfl) (aQ.none _ _)));intro v20 wS QS hb hg_ hnew_;clear hg_ hnew_;(first|rw [← UX.out] at QS|(simp only [Int.reduceToNat] at QS;rw [← UX.out] at QS));have ani:=am (Kd.gU QS (bC (bs HB)));replace HB:=bq HB hb;clear hb QS;have aBH:=akO (P:=Tryz.prog) Tryz.underlying124 Tryz.underlying5 Tryz.underlying9 (Kd.Xp ani.out)))
       go_roundg k1
       case measure=>have:=aU.out;omega
       case rel=>exact ⟨(wrap64 (Int.tdiv tK 10)),((strOfNums D8)++dM),fg,fg,H',⟨by have:=aU.out;omega⟩,⟨bs HB⟩⟩
      ·intro c11 H
       exact absurd H (by simp)
theorem Bz.calls (a0:Int) (r:Bool) (w:World) (H:Bz.f a0=some r) :
  Calls Tryz.prog 62 #[.int .i64 a0] w fun e w'=>e=.returned (.bool r)∧aT w w':=by
 unfold Bz.f at H
 revert H;refine bL ?_ ?_
 ·intro gJ ja H;obtain rfl:=si H
  go_in
  go_wp2
  go_ret
  exact ⟨fg,dr⟩
 ·intro c2 gJ ja H
  revert H;refine bL ?_ ?_
  ·intro bN fo H;obtain rfl:=si H
   go_in
   go_wp2
   go_ret
   exact ⟨fg,dr⟩
  ·intro c3 bN fo H;obtain rfl:=si H
   go_in
   go_wp2
   go_ret
   exact ⟨fg,dr⟩
def gI.T5:Bool × List (List Nat × List Nat):=(true,[([],[]),([0],[0]),([],[]),([],[]),([2,3],[2,3]),([4],[4]),([5],[5]),([6],[6]),([7],[7]),([1,8],[1,8]),([0,1,2,3,4,5,6,7,8,9],[]),([10,9,9,0,1,2,3,4,5,6,7,8,9],[9,10])])
def gI.B5:List Nat:=[0,1,0,0,12,28,60,124,252,511,1023,2047]
theorem gI.XY:fJ .any (opsOf Tryz.f63 5)=gI.T5:=by kernel_rfl
theorem gI.Vj:iY gI.T5.2 gI.B5=true:=by kernel_rfl
theorem gI.calls (k:Nat) (a0:ByteArray) (A1:Option Addr) (c1:Nat) (l1:List ByteArray) (r1:ByteArray) (r2:List (dw)) (w:World) (hr1:Kd.C Kd.string w A1 l1.length l1) (hc1:l1.length≤c1) (H:gI.f k a0 l1=some (r1,r2)) :
  Calls Tryz.prog 63 #[.string a0,.slice A1 l1.length c1] w fun e w'=>∃ F3:Value,e=.returned (.agg #[.string r1,F3])∧Kd.S lG 97 w' w.heap.size (fun _=>True) F3 r2∧Below w.heap.size w w':=by
 have qR:=Tryz.underlying62;have Fb:=Tryz.underlying97;have HR1:=am hr1;have xc:=am hc1;clear hr1 hc1;have HB:=am (Below.refl w.heap.size w);unfold gI.f at H;have H':=am H;clear H
 go_in
 go_wp2_with (first|((with_reducible refine aN (N:=4) rfl ?_);refine bz 4 (cs:=#[.string (⟨#[]⟩:ByteArray),.slice none 0 0]) (t:=62) HB ?_;clear HB;intro We hg w3 qL az8 hb HB;clear hb hg)|((with_reducible refine aN (N:=5) rfl ?_);refine bz 5 (cs:=#[.string (⟨#[]⟩:ByteArray),.slice none 0 0]) (t:=62) HB ?_;clear HB;intro jZ hg w4 dA aeN hb HB;have Z8:=na hg qL;have Z7:=nc hg qL;replace qL:=bb qL hb;clear hb hg;have ajf:=Z7.out;have ajr:=Z8.out;have EQ:=gG dA))
 go_loopg [6] k (fun kq v6 w'=>∃ (dF:Int) (DV:List (dw)) (JL:Value),v6=.int .i64 dF∧af (gI.l0 kq l1 dF a0 DV=some (r1,r2))∧af (kq≤k)∧af (Kd.S lG 97 w' w.heap.size (fun _=>True) JL DV)∧af (w'.heap[We]? = some (.cells #[.string (⟨#[]⟩:ByteArray),(.slice none 0 0)] 62 (0,0)))∧af (w'.heap[jZ]? = some (.cells #[.string a0,JL] 62 (0,0)))∧af (Below w.heap.size w w'))
 case atStart=>exact ⟨(0),(([]:List (dw))),(.slice none 0 0),fg,H',⟨Nat.le_refl _⟩,⟨by first|exact Kd.qO _ _ _ _ _|exact Kd.uN _ _ _ _ _|exact Kd.uS _ _ _ _ _|exact Kd.uO _ _ _ _ _|exact Kd.qj _ _ _ _ _⟩,⟨ks qL⟩,⟨kp dA⟩,⟨bs HB⟩⟩
 case round =>
  clear H'
  try clear c1
  try clear EQ
  try clear qL
  try clear dA
  obtain ⟨dF,DV,JL,rfl,HA,aU,xu,qL,dA,HB⟩:=hrel
  cases gk with
  | zero=>exact absurd HA.out (by simp [gI.l0])
  | succ k1 =>
   have H:=HA.out;clear HA;simp only [gI.l0] at H
   revert H;refine cB ?_ ?_
   ·intro kJ H
    revert H;refine bu ?_
    intro jR H;obtain ⟨y29,hy29⟩:∃ y_:List ByteArray,y_=(([aX ByteArray.empty l1 dF]:List ByteArray)):=⟨_,rfl⟩
    replace H:(if DV.length<5864062014805 then (gI.l0 k1 l1 (wrap64 (dF+1)) a0 (DV++[(⟨y29⟩:dw)])) else (none))=some (r1,r2):=ye hy29 H
    have afG:=am hy29;clear hy29
    revert H;refine jE ?_
    intro c9 H;have aoA:=am c9;clear c9;obtain ⟨YB,aci⟩:∃ y_:List (dw),y_=(DV++[(⟨y29⟩:dw)]):=⟨_,rfl⟩
    replace H:(gI.l0 k1 l1 (wrap64 (dF+1)) a0 YB)=some (r1,r2):=ye aci H
    have ao8:=am aci;clear aci;have H':=am H;clear H
    try go_wp2
    replace xu:=am (Kd.dV xu.out);replace qL:=am (bg qL.out);replace dA:=am (bg dA.out);replace HB:=am (cO HB.out);obtain ⟨p28,q28,aAK,e28,WQ⟩:=wi (Kd.iZ HR1.out dF);have Rt:=WQ
    cases e28
    replace WQ:=cb HB WQ;refine Af 12 [11] (Ia dA (hc (cb HB Rt))) (fun hHeld=>?_);refine gq gI.XY gI.Vj (fun HT_ HW_=>?_)
    generalize wr.drew=DI at xu qL dA HB WQ hHeld ⊢
    refine bV 0 ?_;refine kZ 2 ?_;refine ta 1 ?_;refine ta 5 ?_;refine oA 6 21 HT_ (fun K hK=>?_);refine Kd.yh Kd.string _ 9 ?hg (N:=21) ?hd (xs:=([aX ByteArray.empty l1 dF]:List ByteArray)) (inner:=[.string (aX ByteArray.empty l1 dF)]) (ok:=fun _=>True) (okp:=fun _=>True) ?hr ?hp (fun _ hk=>hk) trivial (Below.refl _ _) (Nat.le_refl _) (by simp) ?_;(case hd=>rfl);(case hg=>rfl);(case hr=>first|(go_simp;done)|(go_simp;rfl));(case hp=>exact (aQ.one (show Kd.M Kd.string _ _ _ (aX ByteArray.empty l1 dF) [.string (aX ByteArray.empty l1 dF)] from rfl) (aQ.none _ _)));intro v34 kU yu hb hg_ hnew_;clear hg_ hnew_
    (first|rw [← afG.out] at yu|(simp only [Int.reduceToNat] at yu;rw [← afG.out] at yu))
    replace xu:=am (Kd.GY (by (with_reducible repeat (first|apply Kd.fD|apply Kd.fE|apply Kd.dV));exact xu.out) (Kd.oO yu) hb);have UJ:=am (Kd.gU yu (bC (bs HB)));replace qL:=am (aZ (ks qL) hb);replace dA:=am (aZ (ks dA) hb);replace HB:=am (fF (bs HB) hb);clear hb yu;obtain ⟨Ed,EH,La⟩:=Kd.iy UJ.out
    (first|subst La|(injection La with dZ iJ d9;have iK:=dZ.symm;have iL:=d9.symm;clear dZ iJ d9;subst iK;subst iL))
    refine hK.out _ _ (Ia dA (hc (cb HB Rt))).out (fun hHeld=>?_);clear hK K;refine nA 21 ?_;refine bV 7 ?_;refine oA 8 23 HT_ (fun K hK=>?_);refine DF (w1:=?_) (v:=?_) (by rfl) rfl ?_ ?_
    rotate_left 2
    ·go_simp
     constructor
     ·rfl
     ·rfl
    refine hK.out _ _ ⟨(az (eu dA.out _) 0).trans rfl,(az (eu dA.out _) 1).trans rfl,(World.cell?_alloc_lt _ _ _ (World.block_lt_of_cell? _ _ (((cb HB Rt).trans rfl)))).trans (((cb HB Rt).trans rfl))⟩ (fun hHeld=>?_);clear hK K;refine nA 23 ?_;refine oA 9 24 HT_ (fun K hK=>?_);refine Kd.KM lG (w0:=w) w.heap.size (by rfl) (.tmp 16) (.tmp 23) 60 97 (.agg #[(.slice none 0 0)]) 24 rfl Tryz.underlying60 akf rfl (by decide) (by omega) JL DV (⟨y29⟩:dw) [.slice Ed y29.length EH] (fun _=>True) (fun k_=>some k_=(.slice Ed y29.length EH:Value).ownBlock) rfl rfl ?aP (fun k_ hk_=>((Kd.dI (ok':=fun k_=>((fun _=>True)) k_∧some k_≠(JL:Value).ownBlock) (Kd.Ep (UJ.out) (Kd.zt xu.out) (by decide)) (fun k_ hk=>⟨trivial,hk.2⟩))).1 k_ hk_.symm) ?aF ?aO ?aB ?aS ?aL ?_
    (case aP=>exact akm _ _ _ (⟨y29⟩:dw) (Kd.dI (Kd.U3 rfl (Kd.dI (ok':=fun k_=>((fun _=>True)) k_∧some k_≠(JL:Value).ownBlock) (Kd.Ep (UJ.out) (Kd.zt xu.out) (by decide)) (fun k_ hk=>⟨trivial,hk.2⟩))) (fun _ h_=>h_)))
    (case aB=>exact (bs HB))
    (case aF=>exact (fun _ _=>trivial))
    (case aO=>exact (by (with_reducible repeat (first|apply Kd.fD|apply Kd.fE|apply Kd.dV));exact Kd.fU xu.out (fun k_ hk=>⟨trivial,fun e_=>hk.2 e_⟩)))
    (case aS=>exact (bC (bs HB)))
    (case aL=>have:=aoA.out;omega)
    intro v35 vP ho hb hg hat
    rw [← ao8.out] at ho
    replace qL:=am (fG (ks qL) hg (Kd.Cr xu.out qL.out (by decide)));replace dA:=am (fG (ks dA) hg (Kd.Cr xu.out dA.out (by decide)));replace HB:=am (hb);have ae9:=am (ho);clear xu;clear UJ;clear ho hb hg hat;obtain ⟨N8,Pp,V3⟩:=Kd.kI ae9.out
    (first|subst V3|(injection V3 with dZ iJ d9;have iK:=dZ.symm;have iL:=d9.symm;clear dZ iJ d9;subst iK;subst iL))
    refine hK.out _ _ (Ia dA (hc (cb HB Rt))).out (fun hHeld=>?_);clear hK K;refine nA 24 ?_;refine bV 10 ?_;refine FC (i:=11) (N:=none) #[true,true,true,true,true,true,true,true,true,true,true,true] rfl rfl (vB HT_.out (by kernel_rfl)) (by decide) (fun K hK=>?_);have aut:vP.cell? ⟨jZ,1,none⟩=some (JL):=(az dA.out 1).trans rfl;have atg:=aV dA.out 1;have aup:=Z8.out;have atq:=Z7.out;refine vD (w1:=?_) (by rfl) rfl ?_ ?_
    rotate_left
    ·go_simp
     rfl
    refine hK.out _ _ ?_;clear hK K;refine fq (gp HT_.out (by kernel_rfl)) ?_
    try go_wp2
    go_roundg k1
    case measure=>have:=aU.out;omega
    case rel=>exact ⟨(wrap64 (dF+1)),(YB),(.slice N8 YB.length Pp),fg,H',⟨by have:=aU.out;omega⟩,⟨by (with_reducible repeat (first|apply Kd.fD|apply Kd.fE|apply Kd.dV));exact Kd.fU (Kd.iT (p:=⟨jZ,1,none⟩) (Kd.uQ ae9.out dA.out (by decide)) (fun _ hk=>hk.2) (.slice N8 YB.length Pp)) (fun _ hk=>trivial)⟩,⟨ks qL⟩,⟨kp dA⟩,⟨bs HB⟩⟩
   ·intro kJ H;replace H:=wL H;obtain ⟨rfl,rfl⟩:=H;have aty:=Z7.out;have atY:=Z8.out;have Lh:=gG dA;have Ie:=gG qL;obtain ⟨zg,yt,H5⟩:=Kd.kI xu.out;subst H5
    go_wp2
    refine bodyPost_ret (results_cell_row rfl _ _ We 62 #[.string a0,.slice zg DV.length yt] (0,0) _ rfl (kp qL) Tryz.underlying62 rfl (by kernel_rfl)) rfl ?_
    exact ⟨_,ff,by (with_reducible repeat (first|apply Kd.fD|apply Kd.fE|apply Kd.dV));exact Kd.fU (Kd.iT (p:=⟨We,1,none⟩) (Kd.iT (p:=⟨We,0,none⟩) (Kd.uQ xu.out qL.out (by decide)) (fun _ hk=>hk.2) (.string a0)) (fun _ hk=>hk.2) (.slice zg DV.length yt)) (fun _ hk=>trivial),bs HB⟩
end Go.Proofs.YtapilmimgiaglaaGreatDoor.QA
