import Derived.Test.YtapilmimgiaglaaGreatDoorKFnExactParcelIx21
set_option maxHeartbeats 8000000
set_option maxRecDepth 100000
set_option linter.unusedSimpArgs false
set_option linter.unusedVariables false
namespace Go.Proofs.YtapilmimgiaglaaGreatDoor.QX
open Go.RowKit Go.Proofs.bB.eH Go.Proofs.bB.PrintLast Go.Proofs.bB.PrintMore
attribute [local go_sem] oU o5 oZ o8 oW o7 oV o6
theorem xB.calls (k:Nat)(A0:Option Addr)(c0:Nat)(l0:List iG)  (r:Int) (w:World) (hr0:Kd.C oN w A0 l0.length l0) (hc0:l0.length≤c0) (H:xB.f k l0=some r) :
  Calls Tryz.prog 123 #[.slice A0 l0.length c0,.func (.func 97) #[] #[]] w fun e w'=>e=.returned (.int .i64 r)∧Below w.heap.size w w':=by
 have U6:=Tryz.underlying73;have bG:=am hr0;have jC:=am hc0;clear hr0 hc0;have HB:=am (Below.refl w.heap.size w);unfold xB.f at H;have H':=am H;clear H
 go_in
 go_wp2
 go_loopg [8] k (fun kq v8 w'=>∃ (aD:Int),v8=.int .i64 aD∧af (xB.l0 kq l0 (l0.length:Int) aD=some r)∧af (kq≤k)∧af (Below w.heap.size w w'))
 case atStart=>exact ⟨(0),fg,H',⟨Nat.le_refl _⟩,⟨bs HB⟩⟩
 case round =>
  clear H'
  obtain ⟨aD,rfl,HA,aQ,HB⟩:=hrel
  cases gk with
  | zero=>exact absurd HA.o (by simp [xB.l0])
  | succ k1 =>
   have H:=HA.o;clear HA;simp only [xB.l0] at H
   revert H;refine bK ?_ ?_
   ·intro aY H
    revert H;refine bv ?_
    intro dF H
    revert H;refine bv ?_
    intro ja H;replace H:=bo H;obtain ⟨rG,A6,H⟩:=H;obtain ⟨p9,q9,xe,abJ,adD,e9,l8,nP,Cf,Ca⟩:=wi (EM bG.o aD)
    cases e9
    replace l8:=cb HB l8;replace nP:=cb HB nP;have Rs:=am Ca;have Ra:=am Cf;clear Ca Cf
    try go_wp2_with (fail)
    go_at_call 97;refine (Pj.calls k1 ((fJ l0 aD).f0) _ _ ((fJ l0 aD).f1) rG _ (Kd.bi Rs.o (bs HB)) Ra.o A6.o).mono ?_;rintro e w7 ⟨rfl,hb⟩;replace HB:=bq HB hb;(try clear hb)
    obtain rfl|rfl:=bt rG
    ·replace H:=dm H;obtain rfl:=si H
     go_wp2
     go_ret
     exact ⟨ff,bs HB⟩
    ·replace H:=di H;have H':=am H;clear H
     go_wp2
     go_roundg k1
     case measure=>have:=aQ.o;omega
     case rel=>exact ⟨(wrap64 (aD+1)),fg,H',⟨by have:=aQ.o;omega⟩,⟨bs HB⟩⟩
   ·intro aY H;obtain rfl:=si H
    go_wp2
    go_ret
    exact ⟨ff,bs HB⟩
theorem Pd.calls (k:Nat)(A0:Option Addr)(c0:Nat)(l0:List iG)  (r:Bool) (w:World) (hr0:Kd.C oN w A0 l0.length l0) (hc0:l0.length≤c0) (H:Pd.f k l0=some r) :
  Calls Tryz.prog 96 #[.slice A0 l0.length c0,.func (.func 97) #[] #[]] w fun e w'=>e=.returned (.bool r)∧Below w.heap.size w w':=by
 have bG:=am hr0;have jC:=am hc0;clear hr0 hc0;have HB:=am (Below.refl w.heap.size w);unfold Pd.f at H;replace H:=bo H;obtain ⟨t5,A3,H⟩:=H;obtain rfl:=si H
 go_in
 go_wp2_with (first|((go_at_call 123;refine (xB.calls k _ _ l0  t5 _ ?aR jC.o A3.o).mono ?_;(case aR=>exact sd bG.o);rintro e w4 ⟨rfl,hb⟩);replace HB:=bq HB hb;(try clear hb)))
 go_ret
 exact ⟨ff,bs HB⟩
theorem Le.calls (k:Nat)(ag aj:Int)(xS:Option Addr)(yh:Nat)(lI:List iG)(r:Bool)(w:World)(Ic:Kd.C oN w xS lI.length lI)(Hr:lI.length≤yh)(H:Le.f k ag aj lI=some r) :
  Calls Tryz.prog 51 #[.agg #[.int .i64 ag,.int .i64 aj,.slice xS lI.length yh]] w fun e w'=>e=.returned (.bool r)∧Below w.heap.size w w':=by
 have U5:=Tryz.underlying71;have Rc:=am Ic;have Q7:=am Hr;clear Ic Hr;have HB:=am (Below.refl w.heap.size w);unfold Le.f at H;replace H:=bo H;obtain ⟨t8,A2,H⟩:=H
 go_in
 try go_wp2_with (first|((with_reducible refine aJ (N:=1) rfl ?_);(try (refine jc (by rfl) ?_;dsimp only));refine bz 1 (cs:=#[.int .i64 ag,.int .i64 aj,.slice xS lI.length yh]) (t:=71) HB ?_;clear HB;intro Tm hg w3 um GW5 hb HB;clear hb hg;have ZO:=lH um))
 go_at_call 41;refine (l9.calls ag 1 7 t8 _ A2.o).mono ?_;rintro e w' ⟨rfl,⟨nd,rfl⟩⟩
 obtain rfl|rfl:=bt t8
 ·replace H:=dm H;replace H:=bo H;obtain ⟨sj,A6,H⟩:=H;have BS:=lH um
  try go_wp2_with (fail)
  go_at_call 48;refine (Cu.calls aj sj _ A6.o).mono ?_;rintro e w' ⟨rfl,⟨nd,rfl⟩⟩
  obtain rfl|rfl:=bt sj
  ·replace H:=dm H;replace H:=bo H;obtain ⟨qQ,A9,H⟩:=H;have zo:=lH um
   try go_wp2_with (fail)
   go_at_call 41;refine (l9.calls (lI.length:Int) 1 10 qQ _ A9.o).mono ?_;rintro e w' ⟨rfl,⟨nd,rfl⟩⟩
   obtain rfl|rfl:=bt qQ
   ·replace H:=dm H;replace H:=bo H;obtain ⟨t16,xU,H⟩:=H;obtain rfl:=si H;have zY:=lH um
    go_wp2_with (first|(go_at_call 96;refine (Pd.calls k _ _ lI  t16 _ ?aR Q7.o xU.o).mono ?_;(case aR=>repeat (first|exact (Kd.bi Rc.o (bs HB))|(with_reducible refine Kd.rO ?_ _)|(with_reducible refine Kd.rQ ?_ _)|(with_reducible refine Kd.rP ?_)));rintro e tF ⟨rfl,hb⟩;replace um:=bb um hb;replace HB:=bq HB hb;(try clear hb)))
    go_ret
    exact ⟨ff,bs HB⟩
   ·replace H:=di H;obtain rfl:=si H
    go_wp2
    go_ret
    exact ⟨ff,bs HB⟩
  ·replace H:=di H;obtain rfl:=si H
   go_wp2
   go_ret
   exact ⟨ff,bs HB⟩
 ·replace H:=di H;obtain rfl:=si H
  go_wp2
  go_ret
  exact ⟨ff,bs HB⟩
theorem Pb.calls (k:Nat)(ag aj:Int)(xS:Option Addr)(yh:Nat)(lI:List iG)(r:Bool)(w:World)(Ic:Kd.C oN w xS lI.length lI)(Hr:lI.length≤yh)(H:Pb.f k ag aj lI=some r) :
  Calls Tryz.prog 50 #[.agg #[.int .i64 ag,.int .i64 aj,.slice xS lI.length yh]] w fun e w'=>e=.returned (.bool r)∧Below w.heap.size w w':=by
 have U5:=Tryz.underlying71;have Rc:=am Ic;have Q7:=am Hr;clear Ic Hr;have HB:=am (Below.refl w.heap.size w);unfold Pb.f at H;replace H:=bo H;obtain ⟨t7,A2,H⟩:=H;obtain rfl:=si H
 go_in
 go_wp2_with (first|((with_reducible refine aJ (N:=1) rfl ?_);refine bz 1 (cs:=#[.int .i64 ag,.int .i64 aj,.slice xS lI.length yh]) (t:=71) HB ?_;clear HB;intro tQ hg w3 kL GW6 hb HB;clear hb hg;have TB:w3.cell? ⟨tQ,0,none⟩=some (.int .i64 ag):=(aA kL.o 0).trans rfl;have TC:w3.cell? ⟨tQ,1,none⟩=some (.int .i64 aj):=(aA kL.o 1).trans rfl;have aef:w3.cell? ⟨tQ,2,none⟩=some (.slice xS lI.length yh):=(aA kL.o 2).trans rfl;have TE:=bu kL.o 0;have TF:=bu kL.o 1;have aeh:=bu kL.o 2)|((go_at_call 51;refine (Le.calls k ag aj _ _ lI t7 _ (Kd.bi Rc.o (bs HB)) Q7.o A2.o).mono ?_;rintro e w5 ⟨rfl,hb⟩);replace kL:=bb kL hb;replace HB:=bq HB hb;(try clear hb)))
 go_ret
 exact ⟨ff,bs HB⟩
theorem xz.calls (k:Nat)(A0:Option Addr)(c0:Nat)(l0:List dR)  (r:Int) (w:World) (hr0:Kd.C pX w A0 l0.length l0) (hc0:l0.length≤c0) (H:xz.f k l0=some r) :
  Calls Tryz.prog 95 #[.slice A0 l0.length c0,.func (.func 50) #[] #[]] w fun e w'=>e=.returned (.int .i64 r)∧Below w.heap.size w w':=by
 have U5:=Tryz.underlying71;have bG:=am hr0;have jC:=am hc0;clear hr0 hc0;have HB:=am (Below.refl w.heap.size w);unfold xz.f at H;have H':=am H;clear H
 go_in
 go_wp2
 go_loopg [8] k (fun kq v8 w'=>∃ (aD:Int),v8=.int .i64 aD∧af (xz.l0 kq l0 (l0.length:Int) aD=some r)∧af (kq≤k)∧af (Below w.heap.size w w'))
 case atStart=>exact ⟨(0),fg,H',⟨Nat.le_refl _⟩,⟨bs HB⟩⟩
 case round =>
  clear H'
  obtain ⟨aD,rfl,HA,aQ,HB⟩:=hrel
  cases gk with
  | zero=>exact absurd HA.o (by simp [xz.l0])
  | succ k1 =>
   have H:=HA.o;clear HA;simp only [xz.l0] at H
   revert H;refine bK ?_ ?_
   ·intro aY H
    revert H;refine bv ?_
    intro dF H
    revert H;refine bv ?_
    intro ja H;replace H:=bo H;obtain ⟨rG,A6,H⟩:=H;obtain ⟨p9,q9,xe,aDp,aEY,e9,l8,nP,yB,alN,alf⟩:=wi (zU bG.o aD)
    cases e9
    replace l8:=cb HB l8;replace nP:=cb HB nP;replace yB:=cb HB yB;have arc:=am alf;have aqc:=am alN;clear alf alN
    try go_wp2_with (fail)
    go_at_call 50;refine (Pb.calls k1 ((bf l0 aD).f0) ((bf l0 aD).f1) _ _ ((bf l0 aD).f2) rG _ (Kd.bi arc.o (bs HB)) aqc.o A6.o).mono ?_;rintro e w7 ⟨rfl,hb⟩;replace HB:=bq HB hb;(try clear hb)
    obtain rfl|rfl:=bt rG
    ·replace H:=dm H;obtain rfl:=si H
     go_wp2
     go_ret
     exact ⟨ff,bs HB⟩
    ·replace H:=di H;have H':=am H;clear H
     go_wp2
     go_roundg k1
     case measure=>have:=aQ.o;omega
     case rel=>exact ⟨(wrap64 (aD+1)),fg,H',⟨by have:=aQ.o;omega⟩,⟨bs HB⟩⟩
   ·intro aY H;obtain rfl:=si H
    go_wp2
    go_ret
    exact ⟨ff,bs HB⟩
theorem Lc.calls (k:Nat)(A0:Option Addr)(c0:Nat)(l0:List dR)  (r:Bool) (w:World) (hr0:Kd.C pX w A0 l0.length l0) (hc0:l0.length≤c0) (H:Lc.f k l0=some r) :
  Calls Tryz.prog 49 #[.slice A0 l0.length c0,.func (.func 50) #[] #[]] w fun e w'=>e=.returned (.bool r)∧Below w.heap.size w w':=by
 have bG:=am hr0;have jC:=am hc0;clear hr0 hc0;have HB:=am (Below.refl w.heap.size w);unfold Lc.f at H;replace H:=bo H;obtain ⟨t5,A3,H⟩:=H;obtain rfl:=si H
 go_in
 go_wp2_with (first|((go_at_call 95;refine (xz.calls k _ _ l0  t5 _ ?aR jC.o A3.o).mono ?_;(case aR=>exact sd bG.o);rintro e w4 ⟨rfl,hb⟩);replace HB:=bq HB hb;(try clear hb)))
 go_ret
 exact ⟨ff,bs HB⟩
theorem Ld.calls (k:Nat)(ag aj:ByteArray)(ak:Int)(dZ:Option Addr)(dW:Nat)(au:List dR)(r:Bool)(w:World)(jl:Kd.C pX w dZ au.length au)(jk:au.length≤dW)(H:Ld.f k ag aj ak au=some r) :
  Calls Tryz.prog 24 #[.agg #[.string ag,.string aj,.int .i64 ak,.slice dZ au.length dW]] w fun e w'=>e=.returned (.bool r)∧Below w.heap.size w w':=by
 have U4:=Tryz.underlying35;have oH:=am jl;have qw:=am jk;clear jl jk;have HB:=am (Below.refl w.heap.size w);unfold Ld.f at H;replace H:=bo H;obtain ⟨sj,A2,H⟩:=H
 go_in
 try go_wp2_with (first|((with_reducible refine aJ (N:=1) rfl ?_);(try (refine jc (by rfl) ?_;dsimp only));refine bz 1 (cs:=#[.string ag,.string aj,.int .i64 ak,.slice dZ au.length dW]) (t:=35) HB ?_;clear HB;intro KH hg w3 yR GW8 hb HB;clear hb hg;have ZO:=aX yR))
 go_at_call 47;refine (qP.calls k ag sj _ A2.o).mono ?_;rintro e w' ⟨rfl,⟨nd,rfl⟩⟩
 obtain rfl|rfl:=bt sj
 ·replace H:=dm H;replace H:=bo H;obtain ⟨I6,A6,H⟩:=H;have BS:=aX yR
  try go_wp2_with (fail)
  go_at_call 47;refine (qP.calls k aj I6 _ A6.o).mono ?_;rintro e w' ⟨rfl,⟨nd,rfl⟩⟩
  obtain rfl|rfl:=bt I6
  ·replace H:=dm H;replace H:=bo H;obtain ⟨lK,A9,H⟩:=H;have zo:=aX yR
   try go_wp2_with (fail)
   go_at_call 48;refine (Cu.calls ak lK _ A9.o).mono ?_;rintro e w' ⟨rfl,⟨nd,rfl⟩⟩
   obtain rfl|rfl:=bt lK
   ·replace H:=dm H;replace H:=bo H;obtain ⟨mG,xU,H⟩:=H;have zY:=aX yR
    try go_wp2_with (fail)
    go_at_call 41;refine (l9.calls (au.length:Int) 1 5 mG _ xU.o).mono ?_;rintro e w' ⟨rfl,⟨nd,rfl⟩⟩
    obtain rfl|rfl:=bt mG
    ·replace H:=dm H;replace H:=bo H;obtain ⟨t20,XH,H⟩:=H;obtain rfl:=si H;have zt:=aX yR
     go_wp2_with (first|(go_at_call 49;refine (Lc.calls k _ _ au  t20 _ ?aR qw.o XH.o).mono ?_;(case aR=>repeat (first|exact (Kd.bi oH.o (bs HB))|(with_reducible refine Kd.rO ?_ _)|(with_reducible refine Kd.rQ ?_ _)|(with_reducible refine Kd.rP ?_)));rintro e MN ⟨rfl,hb⟩;replace yR:=bb yR hb;replace HB:=bq HB hb;(try clear hb)))
     go_ret
     exact ⟨ff,bs HB⟩
    ·replace H:=di H;obtain rfl:=si H
     go_wp2
     go_ret
     exact ⟨ff,bs HB⟩
   ·replace H:=di H;obtain rfl:=si H
    go_wp2
    go_ret
    exact ⟨ff,bs HB⟩
  ·replace H:=di H;obtain rfl:=si H
   go_wp2
   go_ret
   exact ⟨ff,bs HB⟩
 ·replace H:=di H;obtain rfl:=si H
  go_wp2
  go_ret
  exact ⟨ff,bs HB⟩
theorem wz.calls (k:Nat)(ag aj:ByteArray)(ak:Int)(dZ:Option Addr)(dW:Nat)(au:List eT)(r:Bool)(w:World)(jl:Kd.C jG w dZ au.length au)(jk:au.length≤dW)(hTC:zS w)(hTF:uz w)(hTP:vW w)(H:wz.f k ag aj ak au=some r) :
  Calls Tryz.prog 8 #[.agg #[.string ag,.string aj,.int .i64 ak,.slice dZ au.length dW]] w fun e w'=>e=.returned (.bool r)∧Below w.heap.size w w':=by
 have HTC:=am hTC;clear hTC;have HTF:=am hTF;clear hTF;have HTP:=am hTP;clear hTP
 have U3:=Tryz.underlying29;have oH:=am jl;have qw:=am jk;clear jl jk;have HB:=am (Below.refl w.heap.size w);unfold wz.f at H;have lY:=am H;clear H
 go_in
 go_upto_region 1 with (first|((with_reducible refine aJ (N:=1) rfl ?_);refine bz 1 (cs:=#[.string ag,.string aj,.int .i64 ak,.slice dZ au.length dW]) (t:=29) HB ?_;clear HB;intro vE hg w3 eG Q6 hb HB;clear hb hg))
 (try simp only [Act.put,List.setIfInBounds_toArray,List.set_cons_zero,List.set_cons_succ])
 go_cut [11] (fun v11 wc=>∃ (kq:Nat) (Gb:Bool),v11=.bool Gb∧af (wz.j0 kq Gb ag aj ak au=some r)∧af (kq≤k)∧af (wc.heap[vE]? = some (.cells #[.string ag,.string aj,.int .i64 ak,(.slice dZ au.length dW)] 29 (0,0)))∧af (Below w.heap.size w wc))
 case first =>
  have H:=lY.o;clear lY
  revert H;refine gT ?_ ?_
  ·intro c4 H;have dF:decide (50<(au.length:Int))=true:=decide_eq_true c4;have kV:decide (50<au.length)=true:=decide_eq_true (by omega);clear c4
   (first|rw [dF]|(simp only [fC,gK];rw [dF])|rw [kV]|skip)
   have H':=am H;clear H;have BQ:=aX eG
   go_wp2
   go_meet
   case rel=>exact ⟨_,(true),fg,H',⟨fl⟩,⟨ks eG⟩,⟨bs HB⟩⟩
  ·intro c4 H;have dF:decide (50<(au.length:Int))=false:=decide_eq_false c4;have kV:decide (50<au.length)=false:=decide_eq_false (by omega);clear c4
   (first|rw [dF]|(simp only [fC,gK];rw [dF])|rw [kV]|skip)
   replace H:=bo H;obtain ⟨t22,A6,H⟩:=H;have H':=am H;clear H;have BS:=aX eG
   go_wp2_with (first|(go_at_call 21;refine (Pe.calls k _ _ au  t22 _ (Kd.bi oH.o (bs HB)) qw.o (zM HTC (bs HB)) (uQ HTF (bs HB)) (pq HTP (bs HB)) A6.o).mono ?_;rintro e w8 ⟨rfl,hb⟩;replace eG:=bb eG hb;replace HB:=bq HB hb;(try clear hb)))
   go_meet
   case rel=>exact ⟨_,(t22),fg,H',⟨fl⟩,⟨ks eG⟩,⟨bs HB⟩⟩
 case rest =>
  clear lY
  obtain ⟨kq,Gb,rfl,HA,iL,eG,HB⟩:=hcut
  cases kq with
  | zero=>exact absurd HA.o (by simp [wz.j0])
  | succ mV =>
   have H:=HA.o;clear HA;simp only [wz.j0] at H
   obtain rfl|rfl:=bt Gb
   ·replace H:=dm H;obtain rfl:=si H
    go_wp2
    go_ret
    exact ⟨ff,bs HB⟩
   ·replace H:=di H;replace H:=bo H;obtain ⟨⟨t17,lK,mG,t20⟩,ul,H⟩:=H;(try dsimp only at H);replace H:=bo H;obtain ⟨t23,Js,H⟩:=H;obtain rfl:=si H;have Fe:=aX eG
    go_wp2_with (first|((go_at_call 25;refine (jm.calls mV ag aj ak _ _ au t17 lK mG t20 _ (Kd.bi oH.o (bs HB)) qw.o (uQ HTF (bs HB)) ul.o).mono ?_;rintro e tC ⟨v26,rfl,ho0,hb⟩);have Ez:=am (Kd.ic ho0 (bJ (bs HB)));replace eG:=bb eG hb;replace HB:=bq HB hb;(try clear hb);(try clear ho0);obtain ⟨QU,SE,KF⟩:=Kd.gW Ez.o;subst KF)|((go_at_call 24;refine (Ld.calls mV t17 lK mG _ _ t20 t23 _ ?aR ?bg Js.o).mono ?_;(case aR=>exact sd (Kd.dH Ez.o).2.2);(case bg=>exact (Kd.dH Ez.o).2.1);rintro e CG ⟨rfl,hb⟩);replace Ez:=am (Kd.cu (rs Ez) hb);replace eG:=bb eG hb;replace HB:=bq HB hb;(try clear hb)))
    go_ret
    exact ⟨ff,bs HB⟩
theorem FI.calls (k:Nat)(ag aj:ByteArray)(ak:Int)(dZ:Option Addr)(dW:Nat)(au:List eT)(r1 r2:ByteArray)(r3:Int)(r4:List dR)(w:World)(jl:Kd.C jG w dZ au.length au)(jk:au.length≤dW)(hTC:zS w)(hTF:uz w)(hTP:vW w)(H:FI.f k ag aj ak au=some (r1,r2,r3,r4)) :
  Calls Tryz.prog 11 #[.agg #[.string ag,.string aj,.int .i64 ak,.slice dZ au.length dW]] w fun e w'=>∃ tq:Value,e=.returned (.agg #[.string r1,.string r2,.int .i64 r3,tq])∧Kd.S oP 71 w' w.heap.size (fun k_=>w.heap.size≤k_) tq r4∧Below w.heap.size w w':=by
 have HTC:=am hTC;clear hTC;have HTF:=am hTF;clear hTF;have HTP:=am hTP;clear hTP
 have U3:=Tryz.underlying29;have U4:=Tryz.underlying35;have oH:=am jl;have qw:=am jk;clear jl jk;have HB:=am (Below.refl w.heap.size w);unfold FI.f at H;replace H:=bo H;obtain ⟨t23,A2,H⟩:=H
 go_in
 try go_wp2_with (first|((with_reducible refine aJ (N:=1) rfl ?_);refine bz 1 (cs:=#[.string ag,.string aj,.int .i64 ak,.slice dZ au.length dW]) (t:=29) HB ?_;clear HB;intro ako hg w3 lL ahD hb HB;clear hb hg)|((with_reducible refine aJ (N:=2) rfl ?_);refine bz 2 (cs:=#[.string (⟨#[]⟩:ByteArray),.string (⟨#[]⟩:ByteArray),.int .i64 0,.slice none 0 0]) (t:=35) HB ?_;clear HB;intro gy hg w4 bR Bi hb HB;have ED:=na hg lL;have EC:=nc hg lL;replace lL:=bb lL hb;clear hb hg;have ZV:=ED.o;have ZX:=EC.o;have Dw:=aX lL))
 go_at_call 8;refine (wz.calls k ag aj ak _ _ au t23 _ (Kd.bi oH.o (bs HB)) qw.o (zM HTC (bs HB)) (uQ HTF (bs HB)) (pq HTP (bs HB)) A2.o).mono ?_;rintro e w7 ⟨rfl,hb⟩;replace lL:=bb lL hb;replace bR:=bb bR hb;replace HB:=bq HB hb;(try clear hb)
 have G0:=am (pR bR.o);have G1:=am HB.o.size
 obtain rfl|rfl:=bt t23
 ·replace H:=dm H;replace H:=bo H;obtain ⟨⟨mG,t20,t21,t22⟩,A9,H⟩:=H;(try dsimp only at H);replace H:=F3 H;obtain ⟨rfl,rfl,rfl,rfl⟩:=H;have OE:=ED.o;have OG:=EC.o;have zq:=aX lL
  go_wp2_with (first|((go_at_call 25;(with_reducible refine (jm.Dr k ag aj ak _ _ au mG t20 t21 t22 _ (Kd.bi oH.o (bs HB)) qw.o (uQ HTF (bs HB)) A9.o).mono ?_);rintro e nZ ⟨v26,rfl,ho0,hb⟩);have EA:=am (Kd.mM ho0 (bJ (bs HB)));replace lL:=bb lL hb;replace bR:=bb bR hb;replace HB:=bq HB hb;(try clear hb);(try clear ho0);have zY:=aX bR;obtain ⟨QU,SE,KF⟩:=Kd.ji EA.o;subst KF))
  refine bodyPost_ret (results_cell_row rfl _ _ gy 35 #[.string mG,.string t20,.int .i64 t21,.slice QU t22.length SE] (0,0) _ rfl (kp bR) Tryz.underlying35 rfl (by kernel_rfl)) rfl ?_
  exact ⟨_,ff,Kd.eF (Kd.jv (p:=⟨gy,3,none⟩) (Kd.jv (p:=⟨gy,2,none⟩) (Kd.jv (p:=⟨gy,1,none⟩) (Kd.jv (p:=⟨gy,0,none⟩) EA.o (fun k_ q_ e_=>by have h1:=G0.o;have e2:k_=gy:=e_;have h3:w7.heap.size≤k_:=q_;omega) _) (fun k_ q_ e_=>by have h1:=G0.o;have e2:k_=gy:=e_;have h3:w7.heap.size≤k_:=q_;omega) _) (fun k_ q_ e_=>by have h1:=G0.o;have e2:k_=gy:=e_;have h3:w7.heap.size≤k_:=q_;omega) _) (fun k_ q_ e_=>by have h1:=G0.o;have e2:k_=gy:=e_;have h3:w7.heap.size≤k_:=q_;omega) _) (fun _ q_=>Nat.le_trans G1.o q_),bs HB⟩
 ·replace H:=di H;replace H:=F3 H;obtain ⟨rfl,rfl,rfl,rfl⟩:=H;have UE:=EC.o;have UI:=ED.o;have zt:=aX bR
  go_wp2
  refine bodyPost_ret (results_cell_row rfl _ _ gy 35 #[.string (⟨#[]⟩:ByteArray),.string (⟨#[]⟩:ByteArray),.int .i64 0,.slice none 0 0] (0,0) _ rfl (kp bR) Tryz.underlying35 rfl (by kernel_rfl)) rfl ?_
  exact ⟨_,ff,by first|exact Kd.rq _ _ _ _ _|exact Kd.uZ _ _ _ _ _|exact Kd.vk _ _ _ _ _|exact Kd.u6 _ _ _ _ _|exact Kd.rX _ _ _ _ _,bs HB⟩
theorem uJ.calls (k:Nat)(A0:Option Addr)(c0:Nat)(l0:List ByteArray)(A1:Option Addr)(c1:Nat)(l1:List ByteArray)(r:Bool)(w:World)(hr0:Kd.C Kd.string w A0 l0.length l0)(hc0:l0.length≤c0)(hr1:Kd.C Kd.string w A1 l1.length l1)(hc1:l1.length≤c1)(H:uJ.f k l0 l1=some r) :
  Calls Tryz.prog 99 #[.slice A0 l0.length c0,.slice A1 l1.length c1] w fun e w'=>e=.returned (.bool r)∧aW w w':=by
 have bG:=am hr0;have jC:=am hc0;clear hr0 hc0;have HR1:=am hr1;have uY:=am hc1;clear hr1 hc1;unfold uJ.f at H
 revert H;refine zz ?_ ?_
 ·intro c3 aY dS H
  have mP:(l0.length == l1.length)=true:=by first|simpa using c3|(simp at c3 ⊢;omega)
  clear c3;have H':=am H;clear H
  go_in
  go_wp2
  repeat (go_quiet (fail);try go_wp2)
  go_loopg [5] k (fun kq v5 w'=>∃ (ax:Int),v5=.int .i64 ax∧af (uJ.l0 kq l0 l1 ax=some r)∧af (kq≤k)∧aW w w')
  case atStart=>exact ⟨(0),fg,H',⟨Nat.le_refl _⟩,by repeat (first|exact aW.refl _|apply aW.step)⟩
  case round =>
   clear H'
   try clear c1
   try clear c3
   try clear aY
   try clear dS
   try clear mP
   obtain ⟨ax,rfl,HA,aQ,⟨m1,rfl⟩⟩:=hrel
   cases gk with
   | zero=>exact absurd HA.o (by simp [uJ.l0])
   | succ k1 =>
    have H:=HA.o;clear HA;simp only [uJ.l0] at H
    revert H;refine bK ?_ ?_
    ·intro dF H
     revert H;refine bv ?_
     intro ja H
     revert H;refine bv ?_
     intro gu H
     revert H;refine bH ?_ ?_
     ·intro kH zV H;have H':=am H;clear H;obtain ⟨p8,q8,YF,e8,DJ⟩:=wi (Kd.jw bG.o ax)
      cases e8
      obtain ⟨p9,q9,xe,e9,l8⟩:=wi (Kd.jw HR1.o ax)
      cases e9
      go_wp2
      repeat (go_quiet (fail);try go_wp2)
      go_roundg k1
      case measure=>have:=aQ.o;omega
      case rel=>exact ⟨(wrap64 (ax+1)),fg,H',⟨by have:=aQ.o;omega⟩,by repeat (first|exact aW.refl _|apply aW.step)⟩
     ·intro c7 kH zV H;obtain rfl:=si H;obtain ⟨p8,q8,YF,e8,DJ⟩:=wi (Kd.jw bG.o ax)
      cases e8
      obtain ⟨p9,q9,xe,e9,l8⟩:=wi (Kd.jw HR1.o ax)
      cases e9
      go_wp2
      repeat (go_quiet (fail);try go_wp2)
      go_ret
      exact ⟨fg,dr⟩
    ·intro dF H;obtain rfl:=si H
     go_wp2
     repeat (go_quiet (fail);try go_wp2)
     go_ret
     exact ⟨fg,dr⟩
 ·intro c3 aY dS H
  have mP:(l0.length == l1.length)=false:=by first|simpa using c3|(simp at c3 ⊢;omega)
  obtain rfl:=si H
  go_in
  go_wp2
  repeat (go_quiet (fail);try go_wp2)
  go_ret
  exact ⟨fg,dr⟩
theorem Lu.calls (k:Nat)(Gq:Option Addr)(G6:Nat)(pY:List ByteArray)(Gr:Option Addr)(G7:Nat)(mE:List ByteArray)(r:Bool)(w:World)(UZ:Kd.C Kd.string w Gq pY.length pY)(Tu:pY.length≤G6)(U0:Kd.C Kd.string w Gr mE.length mE)(Tv:mE.length≤G7)(H:Lu.f k pY mE=some r) :
  Calls Tryz.prog 183 #[.agg #[.slice Gq pY.length G6],.agg #[.slice Gr mE.length G7]] w fun e w'=>e=.returned (.bool r)∧Below w.heap.size w w':=by
 have Dy:=Tryz.underlying97;have acr:=am UZ;have ahK:=am Tu;clear UZ Tu;have acs:=am U0;have ahM:=am Tv;clear U0 Tv;have HB:=am (Below.refl w.heap.size w);unfold Lu.f at H;replace H:=bo H;obtain ⟨sj,A3,H⟩:=H
 go_in
 try go_wp2_with (first|((with_reducible refine aJ (N:=2) rfl ?_);refine bz 2 (cs:=#[.slice Gq pY.length G6]) (t:=97) HB ?_;clear HB;intro vE hg w4 eG Q6 hb HB;clear hb hg)|((with_reducible refine aJ (N:=3) rfl ?_);refine bz 3 (cs:=#[.slice Gr mE.length G7]) (t:=97) HB ?_;clear HB;intro adW hg w5 apq aDz hb HB;have arX:=na hg eG;have arD:=nc hg eG;replace eG:=bb eG hb;clear hb hg;have aeB:=arX.o;have aeH:=arD.o;have BS:=vB eG;have BU:=vB apq))
 go_at_call 99;refine (uJ.calls k _ _ pY _ _ mE sj _ (Kd.bi acr.o (bs HB)) ahK.o (Kd.bi acs.o (bs HB)) ahM.o A3.o).mono ?_;rintro e w' ⟨rfl,⟨nd,rfl⟩⟩
 obtain rfl|rfl:=bt sj
 ·replace H:=dm H;obtain rfl:=si H
  go_wp2
  go_ret
  exact ⟨ff,bs HB⟩
 ·replace H:=di H;obtain rfl:=si H
  go_wp2
  go_ret
  exact ⟨ff,bs HB⟩
def nR.T6:Bool × List (List Nat × List Nat):=(true,[([],[]),([],[]),([0,1],[0,1]),([2],[2]),([],[]),([],[]),([4,5],[4,5]),([6],[6]),([3,7],[3,7]),([8],[8])])
def nR.B6:List Nat:=[0,0,3,7,0,0,48,112,255,511]
theorem nR.yJ:fD .any (opsOf Tryz.f178 6)=nR.T6:=by kernel_rfl
theorem nR.yg:jg nR.T6.2 nR.B6=true:=by kernel_rfl
theorem nR.calls (k:Nat)(A0:Option Addr)(c0:Nat)(l0:List bN)(A1:Option Addr)(c1:Nat)(l1:List bN)(r:Bool)(w:World)(hr0:Kd.C jO w A0 l0.length l0)(hc0:l0.length≤c0)(hr1:Kd.C jO w A1 l1.length l1)(hc1:l1.length≤c1)(H:nR.f k l0 l1=some r) :
  Calls Tryz.prog 178 #[.slice A0 l0.length c0,.slice A1 l1.length c1] w fun e w'=>e=.returned (.bool r)∧Below w.heap.size w w':=by
 have Dy:=Tryz.underlying97;have bG:=am hr0;have jC:=am hc0;clear hr0 hc0;have HR1:=am hr1;have uY:=am hc1;clear hr1 hc1;have HB:=am (Below.refl w.heap.size w);unfold nR.f at H
 revert H;refine zz ?_ ?_
 ·intro c3 aY dS H
  have mP:(l0.length == l1.length)=true:=by first|simpa using c3|(simp at c3 ⊢;omega)
  clear c3;have H':=am H;clear H
  go_in
  go_wp2
  go_loopg [5] k (fun kq v5 w'=>∃ (ax:Int),v5=.int .i64 ax∧af (nR.l0 kq l0 l1 ax=some r)∧af (kq≤k)∧af (Below w.heap.size w w'))
  case atStart=>exact ⟨(0),fg,H',⟨Nat.le_refl _⟩,⟨bs HB⟩⟩
  case round =>
   clear H'
   try clear c1
   try clear c3
   try clear aY
   try clear dS
   try clear mP
   obtain ⟨ax,rfl,HA,aQ,HB⟩:=hrel
   cases gk with
   | zero=>exact absurd HA.o (by simp [nR.l0])
   | succ k1 =>
    have H:=HA.o;clear HA;simp only [nR.l0] at H
    revert H;refine bK ?_ ?_
    ·intro dF H
     revert H;refine bv ?_
     intro ja H
     revert H;refine bv ?_
     intro gu H;replace H:=bo H;obtain ⟨qQ,A7,H⟩:=H
     obtain rfl|rfl:=bt qQ
     ·replace H:=dm H;have H':=am H;clear H
      try go_wp2
      replace HB:=am (cZ HB.o);obtain ⟨AA,AC,xc,M8,N7,e13,gY,yo,yn⟩:=wi (lN bG.o ax);have mR:=gY
      cases e13
      replace gY:=cb HB gY;have Gx:=am yn;have Nl:=am yo;clear yn yo;obtain ⟨uf,ug,Dk,abD,adl,e14,iQ,Um,TL⟩:=wi (lN HR1.o ax);have mU:=iQ
      cases e14
      replace iQ:=cb HB iQ;have Ri:=am TL;have abT:=am Um;clear TL Um;refine gD 10 (aC (cb HB mR) (hc (cb HB mU))) (fun hHeld=>?_);refine fu nR.yJ nR.yg (fun HT_ HW_=>?_)
      generalize wr.drew=w9 at HB Gx Ri gY iQ hHeld ⊢
      refine jo 0 ?_;refine jo 4 ?_;refine ta 3 ?_;refine ta 7 ?_;refine oA 8 25 HT_ (fun K hK=>?_);refine gA Tryz.func183 #[.agg #[.slice M8 ((aK l0 ax).f0).length N7],.agg #[.slice abD ((aK l1 ax).f0).length adl]] ?_;(with_reducible refine (Lu.calls k1 _ _ ((aK l0 ax).f0) _ _ ((aK l1 ax).f0) true _ ?aR ?bg ?jI ?ma A7.o).mono ?_)
      (case aR=>exact sd (Kd.bi Gx.o HB.o))
      (case bg=>exact Nl.o)
      (case jI=>exact sd (Kd.bi Ri.o HB.o))
      (case ma=>exact abT.o)
      rintro e qo ⟨rfl,hb⟩;refine ⟨_,rfl,?_⟩;replace HB:=bq HB hb;(try clear hb);refine hK.out _ _ (aC (cb HB mR) (hc (cb HB mU))).o (fun hHeld=>?_);clear hK K;refine nA 25 ?_;refine bQ 9 ?_;refine ek (fo HT_.o (by kernel_rfl)) ?_
      try go_wp2
      go_roundg k1
      case measure=>have:=aQ.o;omega
      case rel=>exact ⟨(wrap64 (ax+1)),fg,H',⟨by have:=aQ.o;omega⟩,⟨bs HB⟩⟩
     ·replace H:=di H;obtain rfl:=si H
      try go_wp2
      replace HB:=am (cZ HB.o);obtain ⟨AA,AC,xc,M8,N7,e13,gY,yo,yn⟩:=wi (lN bG.o ax);have mR:=gY
      cases e13
      replace gY:=cb HB gY;have Gx:=am yn;have Nl:=am yo;clear yn yo;obtain ⟨uf,ug,Dk,abD,adl,e14,iQ,Um,TL⟩:=wi (lN HR1.o ax);have mU:=iQ
      cases e14
      replace iQ:=cb HB iQ;have Ri:=am TL;have abT:=am Um;clear TL Um;refine gD 10 (aC (cb HB mR) (hc (cb HB mU))) (fun hHeld=>?_);refine fu nR.yJ nR.yg (fun HT_ HW_=>?_)
      generalize wr.drew=jY at HB Gx Ri gY iQ hHeld ⊢
      refine jo 0 ?_;refine jo 4 ?_;refine ta 3 ?_;refine ta 7 ?_;refine oA 8 25 HT_ (fun K hK=>?_);refine gA Tryz.func183 #[.agg #[.slice M8 ((aK l0 ax).f0).length N7],.agg #[.slice abD ((aK l1 ax).f0).length adl]] ?_;(with_reducible refine (Lu.calls k1 _ _ ((aK l0 ax).f0) _ _ ((aK l1 ax).f0) false _ ?aR ?bg ?jI ?ma A7.o).mono ?_)
      (case aR=>exact sd (Kd.bi Gx.o HB.o))
      (case bg=>exact Nl.o)
      (case jI=>exact sd (Kd.bi Ri.o HB.o))
      (case ma=>exact abT.o)
      rintro e nZ ⟨rfl,hb⟩;refine ⟨_,rfl,?_⟩;replace HB:=bq HB hb;(try clear hb);refine hK.out _ _ (aC (cb HB mR) (hc (cb HB mU))).o (fun hHeld=>?_);clear hK K;refine nA 25 ?_;refine bQ 9 ?_;refine ek (fo HT_.o (by kernel_rfl)) ?_
      try go_wp2
      go_ret
      exact ⟨ff,bs HB⟩
    ·intro dF H;obtain rfl:=si H
     go_wp2
     go_ret
     exact ⟨ff,bs HB⟩
 ·intro c3 aY dS H
  have mP:(l0.length == l1.length)=false:=by first|simpa using c3|(simp at c3 ⊢;omega)
  obtain rfl:=si H
  go_in
  go_wp2
  go_ret
  exact ⟨ff,bs HB⟩
theorem IG.calls (k:Nat)(ag:ByteArray)(gN:Option Addr)(fZ:Nat)(aN:List bN)(aI:ByteArray)(iD:Option Addr)(iy:Nat)(aT:List bN)(r:Bool)(w:World)(lW:Kd.C jO w gN aN.length aN)(lV:aN.length≤fZ)(vG:Kd.C jO w iD aT.length aT)(vF:aT.length≤iy)(H:IG.f k ag aN aI aT=some r) :
  Calls Tryz.prog 164 #[.agg #[.string ag,.slice gN aN.length fZ],.agg #[.string aI,.slice iD aT.length iy]] w fun e w'=>e=.returned (.bool r)∧Below w.heap.size w w':=by
 have r9:=Tryz.underlying62;have lZ:=am lW;have uu:=am lV;clear lW lV;have lU:=am vG;have qX:=am vF;clear vG vF;have HB:=am (Below.refl w.heap.size w);unfold IG.f at H
 revert H;refine bH ?_ ?_
 ·intro aY dS H;replace H:=bo H;obtain ⟨lK,A4,H⟩:=H
  go_in
  try go_wp2_with (first|((with_reducible refine aJ (N:=2) rfl ?_);refine bz 2 (cs:=#[.string ag,.slice gN aN.length fZ]) (t:=62) HB ?_;clear HB;intro KG hg w5 jD Jz hb HB;clear hb hg)|((with_reducible refine aJ (N:=3) rfl ?_);refine bz 3 (cs:=#[.string aI,.slice iD aT.length iy]) (t:=62) HB ?_;clear HB;intro gy hg w6 bR Bi hb HB;have JL:=na hg jD;have JO:=nc hg jD;replace jD:=bb jD hb;clear hb hg;have ZW:=JL.o;have ZY:=JO.o;have BU:=fM jD;have zZ:=fM bR))
  go_at_call 178;refine (nR.calls k _ _ aN _ _ aT lK _ (Kd.bi lZ.o (bs HB)) uu.o (Kd.bi lU.o (bs HB)) qX.o A4.o).mono ?_;rintro e qo ⟨rfl,hb⟩;replace jD:=bb jD hb;replace bR:=bb bR hb;replace HB:=bq HB hb;(try clear hb)
  obtain rfl|rfl:=bt lK
  ·replace H:=dm H;obtain rfl:=si H
   go_wp2
   go_ret
   exact ⟨ff,bs HB⟩
  ·replace H:=di H;obtain rfl:=si H
   go_wp2
   go_ret
   exact ⟨ff,bs HB⟩
 ·intro c3 aY dS H;obtain rfl:=si H
  go_in
  go_wp2_with (first|((with_reducible refine aJ (N:=2) rfl ?_);refine bz 2 (cs:=#[.string ag,.slice gN aN.length fZ]) (t:=62) HB ?_;clear HB;intro KG hg nZ jD Jz hb HB;clear hb hg)|((with_reducible refine aJ (N:=3) rfl ?_);refine bz 3 (cs:=#[.string aI,.slice iD aT.length iy]) (t:=62) HB ?_;clear HB;intro gy hg tC bR Bi hb HB;have JL:=na hg jD;have JO:=nc hg jD;replace jD:=bb jD hb;clear hb hg;have aew:=JL.o;have aeC:=JO.o;have KO:=fM jD;have zt:=fM bR))
  go_ret
  exact ⟨ff,bs HB⟩
def nU.T6:Bool × List (List Nat × List Nat):=(true,[([],[]),([],[]),([0,1],[0,1]),([2],[2]),([],[]),([],[]),([4,5],[4,5]),([6],[6]),([3,7],[3,7]),([8],[8])])
def nU.B6:List Nat:=[0,0,3,7,0,0,48,112,255,511]
theorem nU.yJ:fD .any (opsOf Tryz.f144 6)=nU.T6:=by kernel_rfl
theorem nU.yg:jg nU.T6.2 nU.B6=true:=by kernel_rfl
theorem nU.calls (k:Nat)(A0:Option Addr)(c0:Nat)(l0:List bn)(A1:Option Addr)(c1:Nat)(l1:List bn)(r:Bool)(w:World)(hr0:Kd.C kP w A0 l0.length l0)(hc0:l0.length≤c0)(hr1:Kd.C kP w A1 l1.length l1)(hc1:l1.length≤c1)(H:nU.f k l0 l1=some r) :
  Calls Tryz.prog 144 #[.slice A0 l0.length c0,.slice A1 l1.length c1] w fun e w'=>e=.returned (.bool r)∧Below w.heap.size w w':=by
 have r9:=Tryz.underlying62;have bG:=am hr0;have jC:=am hc0;clear hr0 hc0;have HR1:=am hr1;have uY:=am hc1;clear hr1 hc1;have HB:=am (Below.refl w.heap.size w);unfold nU.f at H
 revert H;refine zz ?_ ?_
 ·intro c3 aY dS H
  have mP:(l0.length == l1.length)=true:=by first|simpa using c3|(simp at c3 ⊢;omega)
  clear c3;have H':=am H;clear H
  go_in
  go_wp2
  go_loopg [5] k (fun kq v5 w'=>∃ (ax:Int),v5=.int .i64 ax∧af (nU.l0 kq l0 l1 ax=some r)∧af (kq≤k)∧af (Below w.heap.size w w'))
  case atStart=>exact ⟨(0),fg,H',⟨Nat.le_refl _⟩,⟨bs HB⟩⟩
  case round =>
   clear H'
   try clear c1
   try clear c3
   try clear aY
   try clear dS
   try clear mP
   obtain ⟨ax,rfl,HA,aQ,HB⟩:=hrel
   cases gk with
   | zero=>exact absurd HA.o (by simp [nU.l0])
   | succ k1 =>
    have H:=HA.o;clear HA;simp only [nU.l0] at H
    revert H;refine bK ?_ ?_
    ·intro dF H
     revert H;refine bv ?_
     intro ja H
     revert H;refine bv ?_
     intro gu H;replace H:=bo H;obtain ⟨qQ,A7,H⟩:=H
     obtain rfl|rfl:=bt qQ
     ·replace H:=dm H;have H':=am H;clear H
      try go_wp2
      replace HB:=am (cZ HB.o);obtain ⟨AA,AC,xc,Jt,Kn,e13,gY,kC,Cb,BV⟩:=wi (kN bG.o ax);have qK:=kC;have mR:=gY
      cases e13
      replace gY:=cb HB gY;replace kC:=cb HB kC;have Bp:=am BV;have JB:=am Cb;clear BV Cb;obtain ⟨uf,ug,Dk,Ju,Ko,e14,iQ,jM,Cc,BX⟩:=wi (kN HR1.o ax);have qL:=jM;have mU:=iQ
      cases e14
      replace iQ:=cb HB iQ;replace jM:=cb HB jM;have Bq:=am BX;have JC:=am Cc;clear BX Cc;refine gD 10 (aC (cb HB mR) (aC (cb HB qK) (aC (cb HB mU) (hc (cb HB qL))))) (fun hHeld=>?_);refine fu nU.yJ nU.yg (fun HT_ HW_=>?_)
      generalize wr.drew=w9 at HB Bp Bq gY kC iQ jM hHeld ⊢
      refine jo 0 ?_;refine jo 4 ?_;refine ta 3 ?_;refine ta 7 ?_;refine oA 8 25 HT_ (fun K hK=>?_);refine gA Tryz.func164 #[.agg #[.string ((av l0 ax).f0),.slice Jt ((av l0 ax).f1).length Kn],.agg #[.string ((av l1 ax).f0),.slice Ju ((av l1 ax).f1).length Ko]] ?_;(with_reducible refine (IG.calls k1 ((av l0 ax).f0) _ _ ((av l0 ax).f1) ((av l1 ax).f0) _ _ ((av l1 ax).f1) true _ ?aR ?bg ?jI ?ma A7.o).mono ?_)
      (case aR=>exact sd (Kd.bi Bp.o HB.o))
      (case bg=>exact JB.o)
      (case jI=>exact sd (Kd.bi Bq.o HB.o))
      (case ma=>exact JC.o)
      rintro e qo ⟨rfl,hb⟩;refine ⟨_,rfl,?_⟩;replace HB:=bq HB hb;(try clear hb);refine hK.out _ _ (aC (cb HB mR) (aC (cb HB qK) (aC (cb HB mU) (hc (cb HB qL))))).o (fun hHeld=>?_);clear hK K;refine nA 25 ?_;refine bQ 9 ?_;refine ek (fo HT_.o (by kernel_rfl)) ?_
      try go_wp2
      go_roundg k1
      case measure=>have:=aQ.o;omega
      case rel=>exact ⟨(wrap64 (ax+1)),fg,H',⟨by have:=aQ.o;omega⟩,⟨bs HB⟩⟩
     ·replace H:=di H;obtain rfl:=si H
      try go_wp2
      replace HB:=am (cZ HB.o);obtain ⟨AA,AC,xc,Jt,Kn,e13,gY,kC,Cb,BV⟩:=wi (kN bG.o ax);have qK:=kC;have mR:=gY
      cases e13
      replace gY:=cb HB gY;replace kC:=cb HB kC;have Bp:=am BV;have JB:=am Cb;clear BV Cb;obtain ⟨uf,ug,Dk,Ju,Ko,e14,iQ,jM,Cc,BX⟩:=wi (kN HR1.o ax);have qL:=jM;have mU:=iQ
      cases e14
      replace iQ:=cb HB iQ;replace jM:=cb HB jM;have Bq:=am BX;have JC:=am Cc;clear BX Cc;refine gD 10 (aC (cb HB mR) (aC (cb HB qK) (aC (cb HB mU) (hc (cb HB qL))))) (fun hHeld=>?_);refine fu nU.yJ nU.yg (fun HT_ HW_=>?_)
      generalize wr.drew=jY at HB Bp Bq gY kC iQ jM hHeld ⊢
      refine jo 0 ?_;refine jo 4 ?_;refine ta 3 ?_;refine ta 7 ?_;refine oA 8 25 HT_ (fun K hK=>?_);refine gA Tryz.func164 #[.agg #[.string ((av l0 ax).f0),.slice Jt ((av l0 ax).f1).length Kn],.agg #[.string ((av l1 ax).f0),.slice Ju ((av l1 ax).f1).length Ko]] ?_;(with_reducible refine (IG.calls k1 ((av l0 ax).f0) _ _ ((av l0 ax).f1) ((av l1 ax).f0) _ _ ((av l1 ax).f1) false _ ?aR ?bg ?jI ?ma A7.o).mono ?_)
      (case aR=>exact sd (Kd.bi Bp.o HB.o))
      (case bg=>exact JB.o)
      (case jI=>exact sd (Kd.bi Bq.o HB.o))
      (case ma=>exact JC.o)
      rintro e nZ ⟨rfl,hb⟩;refine ⟨_,rfl,?_⟩;replace HB:=bq HB hb;(try clear hb);refine hK.out _ _ (aC (cb HB mR) (aC (cb HB qK) (aC (cb HB mU) (hc (cb HB qL))))).o (fun hHeld=>?_);clear hK K;refine nA 25 ?_;refine bQ 9 ?_;refine ek (fo HT_.o (by kernel_rfl)) ?_
      try go_wp2
      go_ret
      exact ⟨ff,bs HB⟩
    ·intro dF H;obtain rfl:=si H
     go_wp2
     go_ret
     exact ⟨ff,bs HB⟩
 ·intro c3 aY dS H
  have mP:(l0.length == l1.length)=false:=by first|simpa using c3|(simp at c3 ⊢;omega)
  obtain rfl:=si H
  go_in
  go_wp2
  go_ret
  exact ⟨ff,bs HB⟩
theorem Lx.calls (k:Nat)(ag:Int)(gN:Option Addr)(fZ:Nat)(aN:List bn)(aI:Int)(iD:Option Addr)(iy:Nat)(aT:List bn)(r:Bool)(w:World)(lW:Kd.C kP w gN aN.length aN)(lV:aN.length≤fZ)(vG:Kd.C kP w iD aT.length aT)(vF:aT.length≤iy)(H:Lx.f k ag aN aI aT=some r) :
  Calls Tryz.prog 128 #[.agg #[.int .i64 ag,.slice gN aN.length fZ],.agg #[.int .i64 aI,.slice iD aT.length iy]] w fun e w'=>e=.returned (.bool r)∧Below w.heap.size w w':=by
 have U6:=Tryz.underlying73;have lZ:=am lW;have uu:=am lV;clear lW lV;have lU:=am vG;have qX:=am vF;clear vG vF;have HB:=am (Below.refl w.heap.size w);unfold Lx.f at H
 revert H;refine bH ?_ ?_
 ·intro aY dS H;replace H:=bo H;obtain ⟨lK,A4,H⟩:=H
  go_in
  try go_wp2_with (first|((with_reducible refine aJ (N:=2) rfl ?_);refine bz 2 (cs:=#[.int .i64 ag,.slice gN aN.length fZ]) (t:=73) HB ?_;clear HB;intro KG hg w5 jD Jz hb HB;clear hb hg)|((with_reducible refine aJ (N:=3) rfl ?_);refine bz 3 (cs:=#[.int .i64 aI,.slice iD aT.length iy]) (t:=73) HB ?_;clear HB;intro gy hg w6 bR Bi hb HB;have JL:=na hg jD;have JO:=nc hg jD;replace jD:=bb jD hb;clear hb hg;have ZW:=JL.o;have ZY:=JO.o;have BU:=fM jD;have zZ:=fM bR))
  go_at_call 144;refine (nU.calls k _ _ aN _ _ aT lK _ (Kd.bi lZ.o (bs HB)) uu.o (Kd.bi lU.o (bs HB)) qX.o A4.o).mono ?_;rintro e qo ⟨rfl,hb⟩;replace jD:=bb jD hb;replace bR:=bb bR hb;replace HB:=bq HB hb;(try clear hb)
  obtain rfl|rfl:=bt lK
  ·replace H:=dm H;obtain rfl:=si H
   go_wp2
   go_ret
   exact ⟨ff,bs HB⟩
  ·replace H:=di H;obtain rfl:=si H
   go_wp2
   go_ret
   exact ⟨ff,bs HB⟩
 ·intro c3 aY dS H;obtain rfl:=si H
  go_in
  go_wp2_with (first|((with_reducible refine aJ (N:=2) rfl ?_);refine bz 2 (cs:=#[.int .i64 ag,.slice gN aN.length fZ]) (t:=73) HB ?_;clear HB;intro KG hg nZ jD Jz hb HB;clear hb hg)|((with_reducible refine aJ (N:=3) rfl ?_);refine bz 3 (cs:=#[.int .i64 aI,.slice iD aT.length iy]) (t:=73) HB ?_;clear HB;intro gy hg tC bR Bi hb HB;have JL:=na hg jD;have JO:=nc hg jD;replace jD:=bb jD hb;clear hb hg;have aew:=JL.o;have aeC:=JO.o;have KO:=fM jD;have zt:=fM bR))
  go_ret
  exact ⟨ff,bs HB⟩
def nS.T6:Bool × List (List Nat × List Nat):=(true,[([],[]),([],[]),([0,1],[0,1]),([2],[2]),([],[]),([],[]),([4,5],[4,5]),([6],[6]),([3,7],[3,7]),([8],[8])])
def nS.B6:List Nat:=[0,0,3,7,0,0,48,112,255,511]
theorem nS.yJ:fD .any (opsOf Tryz.f101 6)=nS.T6:=by kernel_rfl
theorem nS.yg:jg nS.T6.2 nS.B6=true:=by kernel_rfl
theorem nS.calls (k:Nat)(A0:Option Addr)(c0:Nat)(l0:List iG)(A1:Option Addr)(c1:Nat)(l1:List iG)(r:Bool)(w:World)(hr0:Kd.C oN w A0 l0.length l0)(hc0:l0.length≤c0)(hr1:Kd.C oN w A1 l1.length l1)(hc1:l1.length≤c1)(H:nS.f k l0 l1=some r) :
  Calls Tryz.prog 101 #[.slice A0 l0.length c0,.slice A1 l1.length c1] w fun e w'=>e=.returned (.bool r)∧Below w.heap.size w w':=by
 have U6:=Tryz.underlying73;have bG:=am hr0;have jC:=am hc0;clear hr0 hc0;have HR1:=am hr1;have uY:=am hc1;clear hr1 hc1;have HB:=am (Below.refl w.heap.size w);unfold nS.f at H
 revert H;refine zz ?_ ?_
 ·intro c3 aY dS H
  have mP:(l0.length == l1.length)=true:=by first|simpa using c3|(simp at c3 ⊢;omega)
  clear c3;have H':=am H;clear H
  go_in
  go_wp2
  go_loopg [5] k (fun kq v5 w'=>∃ (ax:Int),v5=.int .i64 ax∧af (nS.l0 kq l0 l1 ax=some r)∧af (kq≤k)∧af (Below w.heap.size w w'))
  case atStart=>exact ⟨(0),fg,H',⟨Nat.le_refl _⟩,⟨bs HB⟩⟩
  case round =>
   clear H'
   try clear c1
   try clear c3
   try clear aY
   try clear dS
   try clear mP
   obtain ⟨ax,rfl,HA,aQ,HB⟩:=hrel
   cases gk with
   | zero=>exact absurd HA.o (by simp [nS.l0])
   | succ k1 =>
    have H:=HA.o;clear HA;simp only [nS.l0] at H
    revert H;refine bK ?_ ?_
    ·intro dF H
     revert H;refine bv ?_
     intro ja H
     revert H;refine bv ?_
     intro gu H;replace H:=bo H;obtain ⟨qQ,A7,H⟩:=H
     obtain rfl|rfl:=bt qQ
     ·replace H:=dm H;have H':=am H;clear H
      try go_wp2
      replace HB:=am (cZ HB.o);obtain ⟨AA,AC,xc,Jt,Kn,e13,gY,kC,Cb,BV⟩:=wi (EM bG.o ax);have qK:=kC;have mR:=gY
      cases e13
      replace gY:=cb HB gY;replace kC:=cb HB kC;have Bp:=am BV;have JB:=am Cb;clear BV Cb;obtain ⟨uf,ug,Dk,Ju,Ko,e14,iQ,jM,Cc,BX⟩:=wi (EM HR1.o ax);have qL:=jM;have mU:=iQ
      cases e14
      replace iQ:=cb HB iQ;replace jM:=cb HB jM;have Bq:=am BX;have JC:=am Cc;clear BX Cc;refine gD 10 (aC (cb HB mR) (aC (cb HB qK) (aC (cb HB mU) (hc (cb HB qL))))) (fun hHeld=>?_);refine fu nS.yJ nS.yg (fun HT_ HW_=>?_)
      generalize wr.drew=w9 at HB Bp Bq gY kC iQ jM hHeld ⊢
      refine jo 0 ?_;refine jo 4 ?_;refine ta 3 ?_;refine ta 7 ?_;refine oA 8 25 HT_ (fun K hK=>?_);refine gA Tryz.func128 #[.agg #[.int .i64 ((fJ l0 ax).f0),.slice Jt ((fJ l0 ax).f1).length Kn],.agg #[.int .i64 ((fJ l1 ax).f0),.slice Ju ((fJ l1 ax).f1).length Ko]] ?_;(with_reducible refine (Lx.calls k1 ((fJ l0 ax).f0) _ _ ((fJ l0 ax).f1) ((fJ l1 ax).f0) _ _ ((fJ l1 ax).f1) true _ ?aR ?bg ?jI ?ma A7.o).mono ?_)
      (case aR=>exact sd (Kd.bi Bp.o HB.o))
      (case bg=>exact JB.o)
      (case jI=>exact sd (Kd.bi Bq.o HB.o))
      (case ma=>exact JC.o)
      rintro e qo ⟨rfl,hb⟩;refine ⟨_,rfl,?_⟩;replace HB:=bq HB hb;(try clear hb);refine hK.out _ _ (aC (cb HB mR) (aC (cb HB qK) (aC (cb HB mU) (hc (cb HB qL))))).o (fun hHeld=>?_);clear hK K;refine nA 25 ?_;refine bQ 9 ?_;refine ek (fo HT_.o (by kernel_rfl)) ?_
      try go_wp2
      go_roundg k1
      case measure=>have:=aQ.o;omega
      case rel=>exact ⟨(wrap64 (ax+1)),fg,H',⟨by have:=aQ.o;omega⟩,⟨bs HB⟩⟩
     ·replace H:=di H;obtain rfl:=si H
      try go_wp2
      replace HB:=am (cZ HB.o);obtain ⟨AA,AC,xc,Jt,Kn,e13,gY,kC,Cb,BV⟩:=wi (EM bG.o ax);have qK:=kC;have mR:=gY
      cases e13
      replace gY:=cb HB gY;replace kC:=cb HB kC;have Bp:=am BV;have JB:=am Cb;clear BV Cb;obtain ⟨uf,ug,Dk,Ju,Ko,e14,iQ,jM,Cc,BX⟩:=wi (EM HR1.o ax);have qL:=jM;have mU:=iQ
      cases e14
      replace iQ:=cb HB iQ;replace jM:=cb HB jM;have Bq:=am BX;have JC:=am Cc;clear BX Cc;refine gD 10 (aC (cb HB mR) (aC (cb HB qK) (aC (cb HB mU) (hc (cb HB qL))))) (fun hHeld=>?_);refine fu nS.yJ nS.yg (fun HT_ HW_=>?_)
      generalize wr.drew=jY at HB Bp Bq gY kC iQ jM hHeld ⊢
      refine jo 0 ?_;refine jo 4 ?_;refine ta 3 ?_;refine ta 7 ?_;refine oA 8 25 HT_ (fun K hK=>?_);refine gA Tryz.func128 #[.agg #[.int .i64 ((fJ l0 ax).f0),.slice Jt ((fJ l0 ax).f1).length Kn],.agg #[.int .i64 ((fJ l1 ax).f0),.slice Ju ((fJ l1 ax).f1).length Ko]] ?_;(with_reducible refine (Lx.calls k1 ((fJ l0 ax).f0) _ _ ((fJ l0 ax).f1) ((fJ l1 ax).f0) _ _ ((fJ l1 ax).f1) false _ ?aR ?bg ?jI ?ma A7.o).mono ?_)
      (case aR=>exact sd (Kd.bi Bp.o HB.o))
      (case bg=>exact JB.o)
      (case jI=>exact sd (Kd.bi Bq.o HB.o))
      (case ma=>exact JC.o)
      rintro e nZ ⟨rfl,hb⟩;refine ⟨_,rfl,?_⟩;replace HB:=bq HB hb;(try clear hb);refine hK.out _ _ (aC (cb HB mR) (aC (cb HB qK) (aC (cb HB mU) (hc (cb HB qL))))).o (fun hHeld=>?_);clear hK K;refine nA 25 ?_;refine bQ 9 ?_;refine ek (fo HT_.o (by kernel_rfl)) ?_
      try go_wp2
      go_ret
      exact ⟨ff,bs HB⟩
    ·intro dF H;obtain rfl:=si H
     go_wp2
     go_ret
     exact ⟨ff,bs HB⟩
 ·intro c3 aY dS H
  have mP:(l0.length == l1.length)=false:=by first|simpa using c3|(simp at c3 ⊢;omega)
  obtain rfl:=si H
  go_in
  go_wp2
  go_ret
  exact ⟨ff,bs HB⟩
theorem Lt.calls (k:Nat)(ag aj:Int)(xS:Option Addr)(yh:Nat)(lI:List iG)(aI bX:Int)(QN:Option Addr)(Sg:Nat)(Cw:List iG)(r:Bool)(w:World)(Ic:Kd.C oN w xS lI.length lI)(Hr:lI.length≤yh)(amo:Kd.C oN w QN Cw.length Cw)(aky:Cw.length≤Sg)(H:Lt.f k ag aj lI aI bX Cw=some r) :
  Calls Tryz.prog 53 #[.agg #[.int .i64 ag,.int .i64 aj,.slice xS lI.length yh],.agg #[.int .i64 aI,.int .i64 bX,.slice QN Cw.length Sg]] w fun e w'=>e=.returned (.bool r)∧Below w.heap.size w w':=by
 have U5:=Tryz.underlying71;have Rc:=am Ic;have Q7:=am Hr;clear Ic Hr;have aqQ:=am amo;have apS:=am aky;clear amo aky;have HB:=am (Below.refl w.heap.size w);unfold Lt.f at H
 revert H;refine bH ?_ ?_
 ·intro aY dS H
  revert H;refine bH ?_ ?_
  ·intro dF kV H;replace H:=bo H;obtain ⟨t24,A5,H⟩:=H
   go_in
   try go_wp2_with (first|((with_reducible refine aJ (N:=2) rfl ?_);refine bz 2 (cs:=#[.int .i64 ag,.int .i64 aj,.slice xS lI.length yh]) (t:=71) HB ?_;clear HB;intro E8 hg w6 ig XP hb HB;clear hb hg)|((with_reducible refine aJ (N:=3) rfl ?_);refine bz 3 (cs:=#[.int .i64 aI,.int .i64 bX,.slice QN Cw.length Sg]) (t:=71) HB ?_;clear HB;intro om hg w7 jr Eu hb HB;have Rw:=na hg ig;have Rx:=nc hg ig;replace ig:=bb ig hb;clear hb hg;have amc:=Rw.o;have amn:=Rx.o;have zZ:=lH ig;have zo:=lH jr))
   go_at_call 101;refine (nS.calls k _ _ lI _ _ Cw t24 _ (Kd.bi Rc.o (bs HB)) Q7.o (Kd.bi aqQ.o (bs HB)) apS.o A5.o).mono ?_;rintro e jY ⟨rfl,hb⟩;replace ig:=bb ig hb;replace jr:=bb jr hb;replace HB:=bq HB hb;(try clear hb)
   obtain rfl|rfl:=bt t24
   ·replace H:=dm H;obtain rfl:=si H
    go_wp2
    go_ret
    exact ⟨ff,bs HB⟩
   ·replace H:=di H;obtain rfl:=si H
    go_wp2
    go_ret
    exact ⟨ff,bs HB⟩
  ·intro c4 dF kV H;obtain rfl:=si H
   go_in
   go_wp2_with (first|((with_reducible refine aJ (N:=2) rfl ?_);refine bz 2 (cs:=#[.int .i64 ag,.int .i64 aj,.slice xS lI.length yh]) (t:=71) HB ?_;clear HB;intro E8 hg tC ig XP hb HB;clear hb hg)|((with_reducible refine aJ (N:=3) rfl ?_);refine bz 3 (cs:=#[.int .i64 aI,.int .i64 bX,.slice QN Cw.length Sg]) (t:=71) HB ?_;clear HB;intro om hg tF jr Eu hb HB;have Rw:=na hg ig;have Rx:=nc hg ig;replace ig:=bb ig hb;clear hb hg;have UE:=Rw.o;have UI:=Rx.o;have zt:=lH ig;have KP:=lH jr))
   go_ret
   exact ⟨ff,bs HB⟩
 ·intro c3 aY dS H;obtain rfl:=si H
  go_in
  go_wp2_with (first|((with_reducible refine aJ (N:=2) rfl ?_);refine bz 2 (cs:=#[.int .i64 ag,.int .i64 aj,.slice xS lI.length yh]) (t:=71) HB ?_;clear HB;intro E8 hg xR ig XP hb HB;clear hb hg)|((with_reducible refine aJ (N:=3) rfl ?_);refine bz 3 (cs:=#[.int .i64 aI,.int .i64 bX,.slice QN Cw.length Sg]) (t:=71) HB ?_;clear HB;intro om hg pz jr Eu hb HB;have Rw:=na hg ig;have Rx:=nc hg ig;replace ig:=bb ig hb;clear hb hg;have al3:=Rw.o;have ame:=Rx.o;have ad4:=lH ig;have Tx:=lH jr))
  go_ret
  exact ⟨ff,bs HB⟩
def oD.T6:Bool × List (List Nat × List Nat):=(true,[([],[]),([],[]),([0,1],[0,1]),([2],[2]),([],[]),([],[]),([4,5],[4,5]),([6],[6]),([3,7],[3,7]),([8],[8])])
def oD.B6:List Nat:=[0,0,3,7,0,0,48,112,255,511]
theorem oD.yJ:fD .any (opsOf Tryz.f27 6)=oD.T6:=by kernel_rfl
theorem oD.yg:jg oD.T6.2 oD.B6=true:=by kernel_rfl
theorem oD.calls (k:Nat)(A0:Option Addr)(c0:Nat)(l0:List dR)(A1:Option Addr)(c1:Nat)(l1:List dR)(r:Bool)(w:World)(hr0:Kd.C pX w A0 l0.length l0)(hc0:l0.length≤c0)(hr1:Kd.C pX w A1 l1.length l1)(hc1:l1.length≤c1)(H:oD.f k l0 l1=some r) :
  Calls Tryz.prog 27 #[.slice A0 l0.length c0,.slice A1 l1.length c1] w fun e w'=>e=.returned (.bool r)∧Below w.heap.size w w':=by
 have U5:=Tryz.underlying71;have bG:=am hr0;have jC:=am hc0;clear hr0 hc0;have HR1:=am hr1;have uY:=am hc1;clear hr1 hc1;have HB:=am (Below.refl w.heap.size w);unfold oD.f at H
 revert H;refine zz ?_ ?_
 ·intro c3 aY dS H
  have mP:(l0.length == l1.length)=true:=by first|simpa using c3|(simp at c3 ⊢;omega)
  clear c3;have H':=am H;clear H
  go_in
  go_wp2
  go_loopg [5] k (fun kq v5 w'=>∃ (ax:Int),v5=.int .i64 ax∧af (oD.l0 kq l0 l1 ax=some r)∧af (kq≤k)∧af (Below w.heap.size w w'))
  case atStart=>exact ⟨(0),fg,H',⟨Nat.le_refl _⟩,⟨bs HB⟩⟩
  case round =>
   clear H'
   try clear c1
   try clear c3
   try clear aY
   try clear dS
   try clear mP
   obtain ⟨ax,rfl,HA,aQ,HB⟩:=hrel
   cases gk with
   | zero=>exact absurd HA.o (by simp [oD.l0])
   | succ k1 =>
    have H:=HA.o;clear HA;simp only [oD.l0] at H
    revert H;refine bK ?_ ?_
    ·intro dF H
     revert H;refine bv ?_
     intro ja H
     revert H;refine bv ?_
     intro gu H;replace H:=bo H;obtain ⟨qQ,A7,H⟩:=H
     obtain rfl|rfl:=bt qQ
     ·replace H:=dm H;have H':=am H;clear H
      try go_wp2
      replace HB:=am (cZ HB.o);obtain ⟨AA,AC,xc,abA,adi,e13,gY,kC,tT,Uj,TH⟩:=wi (zU bG.o ax);have Ck:=tT;have qK:=kC;have mR:=gY
      cases e13
      replace gY:=cb HB gY;replace kC:=cb HB kC;replace tT:=cb HB tT;have Re:=am TH;have abP:=am Uj;clear TH Uj;obtain ⟨uf,ug,Dk,abE,adm,e14,iQ,jM,rD,Un,TM⟩:=wi (zU HR1.o ax);have Cm:=rD;have qL:=jM;have mU:=iQ
      cases e14
      replace iQ:=cb HB iQ;replace jM:=cb HB jM;replace rD:=cb HB rD;have Rj:=am TM;have abU:=am Un;clear TM Un;refine gD 10 (aC (cb HB mR) (aC (cb HB qK) (aC (cb HB Ck) (aC (cb HB mU) (aC (cb HB qL) (hc (cb HB Cm))))))) (fun hHeld=>?_);refine fu oD.yJ oD.yg (fun HT_ HW_=>?_)
      generalize wr.drew=w9 at HB Re Rj gY kC tT iQ jM rD hHeld ⊢
      refine jo 0 ?_;refine jo 4 ?_;refine ta 3 ?_;refine ta 7 ?_;refine oA 8 25 HT_ (fun K hK=>?_);refine gA Tryz.func53 #[.agg #[.int .i64 ((bf l0 ax).f0),.int .i64 ((bf l0 ax).f1),.slice abA ((bf l0 ax).f2).length adi],.agg #[.int .i64 ((bf l1 ax).f0),.int .i64 ((bf l1 ax).f1),.slice abE ((bf l1 ax).f2).length adm]] ?_;(with_reducible refine (Lt.calls k1 ((bf l0 ax).f0) ((bf l0 ax).f1) _ _ ((bf l0 ax).f2) ((bf l1 ax).f0) ((bf l1 ax).f1) _ _ ((bf l1 ax).f2) true _ ?aR ?bg ?jI ?ma A7.o).mono ?_)
      (case aR=>exact sd (Kd.bi Re.o HB.o))
      (case bg=>exact abP.o)
      (case jI=>exact sd (Kd.bi Rj.o HB.o))
      (case ma=>exact abU.o)
      rintro e qo ⟨rfl,hb⟩;refine ⟨_,rfl,?_⟩;replace HB:=bq HB hb;(try clear hb);refine hK.out _ _ (aC (cb HB mR) (aC (cb HB qK) (aC (cb HB Ck) (aC (cb HB mU) (aC (cb HB qL) (hc (cb HB Cm))))))).o (fun hHeld=>?_);clear hK K;refine nA 25 ?_;refine bQ 9 ?_;refine ek (fo HT_.o (by kernel_rfl)) ?_
      try go_wp2
      go_roundg k1
      case measure=>have:=aQ.o;omega
      case rel=>exact ⟨(wrap64 (ax+1)),fg,H',⟨by have:=aQ.o;omega⟩,⟨bs HB⟩⟩
     ·replace H:=di H;obtain rfl:=si H
      try go_wp2
      replace HB:=am (cZ HB.o);obtain ⟨AA,AC,xc,abA,adi,e13,gY,kC,tT,Uj,TH⟩:=wi (zU bG.o ax);have Ck:=tT;have qK:=kC;have mR:=gY
      cases e13
      replace gY:=cb HB gY;replace kC:=cb HB kC;replace tT:=cb HB tT;have Re:=am TH;have abP:=am Uj;clear TH Uj;obtain ⟨uf,ug,Dk,abE,adm,e14,iQ,jM,rD,Un,TM⟩:=wi (zU HR1.o ax);have Cm:=rD;have qL:=jM;have mU:=iQ
      cases e14
      replace iQ:=cb HB iQ;replace jM:=cb HB jM;replace rD:=cb HB rD;have Rj:=am TM;have abU:=am Un;clear TM Un;refine gD 10 (aC (cb HB mR) (aC (cb HB qK) (aC (cb HB Ck) (aC (cb HB mU) (aC (cb HB qL) (hc (cb HB Cm))))))) (fun hHeld=>?_);refine fu oD.yJ oD.yg (fun HT_ HW_=>?_)
      generalize wr.drew=jY at HB Re Rj gY kC tT iQ jM rD hHeld ⊢
      refine jo 0 ?_;refine jo 4 ?_;refine ta 3 ?_;refine ta 7 ?_;refine oA 8 25 HT_ (fun K hK=>?_);refine gA Tryz.func53 #[.agg #[.int .i64 ((bf l0 ax).f0),.int .i64 ((bf l0 ax).f1),.slice abA ((bf l0 ax).f2).length adi],.agg #[.int .i64 ((bf l1 ax).f0),.int .i64 ((bf l1 ax).f1),.slice abE ((bf l1 ax).f2).length adm]] ?_;(with_reducible refine (Lt.calls k1 ((bf l0 ax).f0) ((bf l0 ax).f1) _ _ ((bf l0 ax).f2) ((bf l1 ax).f0) ((bf l1 ax).f1) _ _ ((bf l1 ax).f2) false _ ?aR ?bg ?jI ?ma A7.o).mono ?_)
      (case aR=>exact sd (Kd.bi Re.o HB.o))
      (case bg=>exact abP.o)
      (case jI=>exact sd (Kd.bi Rj.o HB.o))
      (case ma=>exact abU.o)
      rintro e nZ ⟨rfl,hb⟩;refine ⟨_,rfl,?_⟩;replace HB:=bq HB hb;(try clear hb);refine hK.out _ _ (aC (cb HB mR) (aC (cb HB qK) (aC (cb HB Ck) (aC (cb HB mU) (aC (cb HB qL) (hc (cb HB Cm))))))).o (fun hHeld=>?_);clear hK K;refine nA 25 ?_;refine bQ 9 ?_;refine ek (fo HT_.o (by kernel_rfl)) ?_
      try go_wp2
      go_ret
      exact ⟨ff,bs HB⟩
    ·intro dF H;obtain rfl:=si H
     go_wp2
     go_ret
     exact ⟨ff,bs HB⟩
 ·intro c3 aY dS H
  have mP:(l0.length == l1.length)=false:=by first|simpa using c3|(simp at c3 ⊢;omega)
  obtain rfl:=si H
  go_in
  go_wp2
  go_ret
  exact ⟨ff,bs HB⟩
end Go.Proofs.YtapilmimgiaglaaGreatDoor.QX
