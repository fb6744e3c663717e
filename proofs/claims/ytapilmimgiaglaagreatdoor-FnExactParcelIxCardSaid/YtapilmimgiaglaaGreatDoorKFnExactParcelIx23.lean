import Derived.Test.YtapilmimgiaglaaGreatDoorKFnExactParcelIx22
set_option maxHeartbeats 8000000
set_option maxRecDepth 100000
set_option linter.unusedSimpArgs false
set_option linter.unusedVariables false
namespace Go.Proofs.YtapilmimgiaglaaGreatDoor.QX
open Go.RowKit Go.Proofs.bB.eH Go.Proofs.bB.PrintLast Go.Proofs.bB.PrintMore
attribute [local go_sem] oU o5 oZ o8 oW o7 oV o6
theorem Cx.calls (k:Nat)(ag aj:ByteArray)(ak:Int)(dZ:Option Addr)(dW:Nat)(au:List dR)(aI bX:ByteArray)(dA:Int)(yQ:Option Addr)(zl:Nat)(oQ:List dR)(r:Bool)(w:World)(jl:Kd.C pX w dZ au.length au)(jk:au.length≤dW)(U1:Kd.C pX w yQ oQ.length oQ)(Tw:oQ.length≤zl)(H:Cx.f k ag aj ak au aI bX dA oQ=some r) :
  Calls Tryz.prog 12 #[.agg #[.string ag,.string aj,.int .i64 ak,.slice dZ au.length dW],.agg #[.string aI,.string bX,.int .i64 dA,.slice yQ oQ.length zl]] w fun e w'=>e=.returned (.bool r)∧Below w.heap.size w w':=by
 have U4:=Tryz.underlying35;have oH:=am jl;have qw:=am jk;clear jl jk;have acu:=am U1;have abY:=am Tw;clear U1 Tw;have HB:=am (Below.refl w.heap.size w);unfold Cx.f at H
 revert H;refine bH ?_ ?_
 ·intro aY dS H
  revert H;refine bH ?_ ?_
  ·intro dF kV H
   revert H;refine bH ?_ ?_
   ·intro ja sJ H;replace H:=bo H;obtain ⟨t30,A6,H⟩:=H
    go_in
    try go_wp2_with (first|((with_reducible refine aJ (N:=2) rfl ?_);refine bz 2 (cs:=#[.string ag,.string aj,.int .i64 ak,.slice dZ au.length dW]) (t:=35) HB ?_;clear HB;intro uC hg w7 bO uq hb HB;clear hb hg)|((with_reducible refine aJ (N:=3) rfl ?_);refine bz 3 (cs:=#[.string aI,.string bX,.int .i64 dA,.slice yQ oQ.length zl]) (t:=35) HB ?_;clear HB;intro Fb hg w8 iV Nh hb HB;have JM:=na hg bO;have JQ:=nc hg bO;replace bO:=bb bO hb;clear hb hg;have UH:=JM.o;have UL:=JQ.o;have zo:=aX bO;have zq:=aX iV))
    go_at_call 27;refine (oD.calls k _ _ au _ _ oQ t30 _ (Kd.bi oH.o (bs HB)) qw.o (Kd.bi acu.o (bs HB)) abY.o A6.o).mono ?_;rintro e nZ ⟨rfl,hb⟩;replace bO:=bb bO hb;replace iV:=bb iV hb;replace HB:=bq HB hb;(try clear hb)
    obtain rfl|rfl:=bt t30
    ·replace H:=dm H;obtain rfl:=si H
     go_wp2
     go_ret
     exact ⟨ff,bs HB⟩
    ·replace H:=di H;obtain rfl:=si H
     go_wp2
     go_ret
     exact ⟨ff,bs HB⟩
   ·intro c5 ja sJ H;obtain rfl:=si H
    go_in
    go_wp2_with (first|((with_reducible refine aJ (N:=2) rfl ?_);refine bz 2 (cs:=#[.string ag,.string aj,.int .i64 ak,.slice dZ au.length dW]) (t:=35) HB ?_;clear HB;intro uC hg tF bO uq hb HB;clear hb hg)|((with_reducible refine aJ (N:=3) rfl ?_);refine bz 3 (cs:=#[.string aI,.string bX,.int .i64 dA,.slice yQ oQ.length zl]) (t:=35) HB ?_;clear HB;intro Fb hg CG iV Nh hb HB;have JM:=na hg bO;have JQ:=nc hg bO;replace bO:=bb bO hb;clear hb hg;have al2:=JM.o;have amd:=JQ.o;have KP:=aX bO;have KQ:=aX iV))
    go_ret
    exact ⟨ff,bs HB⟩
  ·intro c4 dF kV H;obtain rfl:=si H
   go_in
   go_wp2_with (first|((with_reducible refine aJ (N:=2) rfl ?_);refine bz 2 (cs:=#[.string ag,.string aj,.int .i64 ak,.slice dZ au.length dW]) (t:=35) HB ?_;clear HB;intro uC hg pz bO uq hb HB;clear hb hg)|((with_reducible refine aJ (N:=3) rfl ?_);refine bz 3 (cs:=#[.string aI,.string bX,.int .i64 dA,.slice yQ oQ.length zl]) (t:=35) HB ?_;clear HB;intro Fb hg uj iV Nh hb HB;have JM:=na hg bO;have JQ:=nc hg bO;replace bO:=bb bO hb;clear hb hg;have awN:=JM.o;have aw9:=JQ.o;have Tx:=aX bO;have HV:=aX iV))
   go_ret
   exact ⟨ff,bs HB⟩
 ·intro c3 aY dS H;obtain rfl:=si H
  go_in
  go_wp2_with (first|((with_reducible refine aJ (N:=2) rfl ?_);refine bz 2 (cs:=#[.string ag,.string aj,.int .i64 ak,.slice dZ au.length dW]) (t:=35) HB ?_;clear HB;intro uC hg CL bO uq hb HB;clear hb hg)|((with_reducible refine aJ (N:=3) rfl ?_);refine bz 3 (cs:=#[.string aI,.string bX,.int .i64 dA,.slice yQ oQ.length zl]) (t:=35) HB ?_;clear HB;intro Fb hg Je iV Nh hb HB;have JM:=na hg bO;have JQ:=nc hg bO;replace bO:=bb bO hb;clear hb hg;have al5:=JM.o;have amg:=JQ.o;have Ot:=aX bO;have aea:=aX iV))
  go_ret
  exact ⟨ff,bs HB⟩
theorem Lv.calls (ag:Int)(aj:ByteArray)(ak aM:Int)(oh:ByteArray)(aI:Int)(bX:ByteArray)(dA eU:Int)(ru:ByteArray)(r:Bool)(w:World)(H:Lv.f ag aj ak aM oh aI bX dA eU ru=some r) :
  Calls Tryz.prog 127 #[.agg #[.int .i64 ag,.string aj,.int .i64 ak,.int .i64 aM,.string oh],.agg #[.int .i64 aI,.string bX,.int .i64 dA,.int .i64 eU,.string ru]] w fun e w'=>e=.returned (.bool r)∧Below w.heap.size w w':=by
 have hu:=Tryz.underlying95;have HB:=am (Below.refl w.heap.size w);unfold Lv.f at H
 go_in
 go_upto_region 1 with (first|((with_reducible refine aJ (N:=2) rfl ?_);refine bx 2 (cs:=#[.int .i64 ag,.string aj,.int .i64 ak,.int .i64 aM,.string oh]) (t:=95) ?_;intro g0 hg wa hbox hb;have B0:=am hbox;replace HB:=bq HB hb;clear hb hbox hg)|((with_reducible refine aJ (N:=3) rfl ?_);refine bx 3 (cs:=#[.int .i64 aI,.string bX,.int .i64 dA,.int .i64 eU,.string ru]) (t:=95) ?_;intro g1 hg wb hbox hb;have B1:=am hbox;replace HB:=bq HB hb;replace B0:=am (aU (ks B0) hb);clear hb hbox hg;have z0:=kW B0;have z1:=kW B1))
 revert H;refine Lb ?_
 intro Y4 Y5 H
 go_upto_region 3 with (fail)
 revert H;refine Lb ?_
 intro Za Zb H
 go_upto_region 5 with (fail)
 revert H;refine Lb ?_
 intro gQ jE H
 go_upto_region 7 with (fail)
 revert H;refine Lb ?_
 intro aY dS H
 go_upto_region 9 with (fail)
 revert H;refine Lb ?_
 intro dF kV H;obtain rfl:=si H
 go_wp2
 go_ret
 exact ⟨ff,bs HB⟩
def ang:Bool × List (List Nat × List Nat):=(true,[([],[]),([],[]),([0,1],[0,1]),([2],[2]),([],[]),([],[]),([4,5],[4,5]),([6],[6]),([3,7],[3,7]),([8],[8])])
def ayp:List Nat:=[0,0,3,7,0,0,48,112,255,511]
theorem wE.calls (k:Nat)(A0:Option Addr)(c0:Nat)(l0:List aZ)(A1:Option Addr)(c1:Nat)(l1:List aZ)(r:Bool)(w:World)(hr0:Kd.C iA w A0 l0.length l0)(hc0:l0.length≤c0)(hr1:Kd.C iA w A1 l1.length l1)(hc1:l1.length≤c1)(H:wE.f k l0 l1=some r) :
  Calls Tryz.prog 100 #[.slice A0 l0.length c0,.slice A1 l1.length c1] w fun e w'=>e=.returned (.bool r)∧Below w.heap.size w w':=by
 have hu:=Tryz.underlying95;have bG:=am hr0;have HR1:=am hr1;clear hr0 hc0 hr1 hc1;have HB:=am (Below.refl w.heap.size w);unfold wE.f at H
 go_in
 revert H;refine axL ?_
 intro c3 aY dS H
 have mP:(l0.length == l1.length)=true:=by first|simpa using c3|(simp at c3 ⊢;omega)
 clear c3;have H':=am H;clear H
 go_wp2
 go_loopg [5] k (fun kq v5 w'=>∃ (x5:Int),v5=.int .i64 x5∧af (wE.l0 kq l0 l1 x5=some r)∧af (kq≤k)∧af (Below w.heap.size w w'))
 case atStart=>exact ⟨0,fg,H',⟨Nat.le_refl _⟩,⟨bs HB⟩⟩
 case round =>
  clear H';(try clear aY);(try clear dS);(try clear mP);obtain ⟨x5,rfl,HA,aQ,HB⟩:=hrel
  cases gk with
  | zero=>exact absurd HA.o (by simp [wE.l0])
  | succ k1 =>
   have H:=HA.o;clear HA;simp only [wE.l0] at H
   revert H;refine bK ?_ ?_
   ·intro dF H;revert H;refine bv ?_;intro ja H;revert H;refine bv ?_;intro gu H;replace H:=bo H;obtain ⟨t,A7,H⟩:=H;have p1:0≤(x5:Int):=oa;have q1:x5<(l0.length:Int):=oa;have q2:x5<(l1.length:Int):=oa;obtain ⟨ad,ea,g0,g1,g2,g3,g4⟩:=uA bG.o x5 p1 q1;obtain ⟨ae,ee,j0,j1,j2,j3,j4⟩:=uA HR1.o x5 p1 q2;cases ea;cases ee;replace p1:=eq_true p1;replace q1:=eq_true q1;replace q2:=eq_true q2;have G0:=am g0;have J0:=am j0;clear g0 j0;have G1:=am g1;have J1:=am j1;clear g1 j1;have G2:=am g2;have J2:=am j2;clear g2 j2;have G3:=am g3;have J3:=am j3;clear g3 j3;have G4:=am g4;have J4:=am j4;clear g4 j4
    try go_wp2
    replace HB:=am (cZ HB.o);refine gD 10 (aC (cb HB G0.o) (aC (cb HB G1.o) (aC (cb HB G2.o) (aC (cb HB G3.o) (aC (cb HB G4.o) (aC (cb HB J0.o) (aC (cb HB J1.o) (aC (cb HB J2.o) (aC (cb HB J3.o) (hc (cb HB J4.o))))))))))) (fun hHeld=>?_);refine fu (show fD .any (opsOf Tryz.f100 6)=ang from by kernel_rfl) (show jg ang.2 ayp=true from by kernel_rfl) (fun HT_ HW_=>?_)
    generalize wr.drew=wa at HB hHeld ⊢
    refine jo 0 ?_;refine jo 4 ?_;refine ta 3 ?_;refine ta 7 ?_;refine oA 8 25 HT_ (fun K hK=>?_);refine gA Tryz.func127 #[.agg #[.int .i64 (ai l0 x5).f0,.string (ai l0 x5).f1,.int .i64 (ai l0 x5).f2,.int .i64 (ai l0 x5).f3,.string (ai l0 x5).f4],.agg #[.int .i64 (ai l1 x5).f0,.string (ai l1 x5).f1,.int .i64 (ai l1 x5).f2,.int .i64 (ai l1 x5).f3,.string (ai l1 x5).f4]] ?_;(with_reducible refine (Lv.calls ((ai l0 x5).f0) ((ai l0 x5).f1) ((ai l0 x5).f2) ((ai l0 x5).f3) ((ai l0 x5).f4) ((ai l1 x5).f0) ((ai l1 x5).f1) ((ai l1 x5).f2) ((ai l1 x5).f3) ((ai l1 x5).f4) t _ A7.o).mono ?_);rintro e wb ⟨rfl,hb⟩;refine ⟨_,rfl,?_⟩;replace HB:=bq HB hb;clear hb;refine hK.out _ _ (aC (cb HB G0.o) (aC (cb HB G1.o) (aC (cb HB G2.o) (aC (cb HB G3.o) (aC (cb HB G4.o) (aC (cb HB J0.o) (aC (cb HB J1.o) (aC (cb HB J2.o) (aC (cb HB J3.o) (hc (cb HB J4.o))))))))))).o (fun hHeld=>?_);clear hK K;refine nA 25 ?_;refine bQ 9 ?_;refine ek (fo HT_.o (by kernel_rfl)) ?_;clear HT_ HW_ hHeld
    obtain rfl|rfl:=bt t;rotate_left
    ·replace H:=di H;cases H
    replace H:=dm H;have H':=am H;clear H
    try go_wp2
    go_roundg k1
    case measure=>have:=aQ.o;omega
    case rel=>exact ⟨wrap64 (x5+1),fg,H',⟨by have:=aQ.o;omega⟩,⟨bs HB⟩⟩
   ·intro dF H;obtain rfl:=si H
    go_wp2
    go_ret
    exact ⟨ff,bs HB⟩
theorem IE.calls (k:Nat)(ag:Int)(aj ak:ByteArray)(aM:Int)(dB:Option Addr)(dx:Nat)(az:List ByteArray)(dJ:Option Addr)(df:Nat)(ah:List aZ)(aI:Int)(bX dA:ByteArray)(eU:Int)(pJ:Option Addr)(pU:Nat)(iT:List ByteArray)(pK:Option Addr)(pV:Nat)(gV:List aZ)(r:Bool)(w:World)(lm:Kd.C Kd.string w dB az.length az)(kY:az.length≤dx)(lq:Kd.C iA w dJ ah.length ah)(kZ:ah.length≤df)(Ie:Kd.C Kd.string w pJ iT.length iT)(Ht:iT.length≤pU)(Ig:Kd.C iA w pK gV.length gV)(Hu:gV.length≤pV)(H:IE.f k ag aj ak aM az ah aI bX dA eU iT gV=some r) :
  Calls Tryz.prog 52 #[.agg #[.int .i64 ag,.string aj,.string ak,.int .i64 aM,.slice dB az.length dx,.slice dJ ah.length df],.agg #[.int .i64 aI,.string bX,.string dA,.int .i64 eU,.slice pJ iT.length pU,.slice pK gV.length pV]] w fun e w'=>e=.returned (.bool r)∧Below w.heap.size w w':=by
 have xq:=Tryz.underlying45;have oI:=am lm;have rR:=am kY;clear lm kY;have ni:=am lq;have qW:=am kZ;clear lq kZ;have Nu:=am Ie;have XU:=am Ht;clear Ie Ht;have Nv:=am Ig;have XV:=am Hu;clear Ig Hu;have HB:=am (Below.refl w.heap.size w);unfold IE.f at H
 revert H;refine bH ?_ ?_
 ·intro aY dS H
  revert H;refine bH ?_ ?_
  ·intro dF kV H
   revert H;refine bH ?_ ?_
   ·intro ja sJ H
    revert H;refine bH ?_ ?_
    ·intro gu nM H;replace H:=bo H;obtain ⟨t40,A7,H⟩:=H
     go_in
     try go_wp2_with (first|((with_reducible refine aJ (N:=2) rfl ?_);refine bz 2 (cs:=#[.int .i64 ag,.string aj,.string ak,.int .i64 aM,.slice dB az.length dx,.slice dJ ah.length df]) (t:=45) HB ?_;clear HB;intro uC hg w8 bO uq hb HB;clear hb hg)|((with_reducible refine aJ (N:=3) rfl ?_);refine bz 3 (cs:=#[.int .i64 aI,.string bX,.string dA,.int .i64 eU,.slice pJ iT.length pU,.slice pK gV.length pV]) (t:=45) HB ?_;clear HB;intro E9 hg w9 kS Q4 hb HB;have C9:=na hg bO;have Dc:=nc hg bO;replace bO:=bb bO hb;clear hb hg;have OE:=C9.o;have OG:=Dc.o;have zq:=dO bO;have Fe:=dO kS))
     go_at_call 99;refine (uJ.calls k _ _ az _ _ iT t40 _ (Kd.bi oI.o (bs HB)) rR.o (Kd.bi Nu.o (bs HB)) XU.o A7.o).mono ?_;rintro e w' ⟨rfl,⟨nd,rfl⟩⟩
     obtain rfl|rfl:=bt t40
     ·replace H:=dm H;replace H:=bo H;obtain ⟨t41,Be,H⟩:=H;have UE:=C9.o;have UI:=Dc.o;have zt:=dO bO;have KP:=dO kS
      try go_wp2_with (fail)
      go_at_call 100;refine (wE.calls k _ _ ah _ _ gV t41 _ ?aR qW.o ?jI XV.o Be.o).mono ?_;(case aR=>repeat (first|exact (Kd.bi ni.o (bs HB))|(with_reducible refine Kd.rO ?_ _)|(with_reducible refine Kd.rQ ?_ _)|(with_reducible refine Kd.rP ?_)));(case jI=>repeat (first|exact (Kd.bi Nv.o (bs HB))|(with_reducible refine Kd.rO ?_ _)|(with_reducible refine Kd.rQ ?_ _)|(with_reducible refine Kd.rP ?_)));rintro e xR ⟨rfl,hb⟩;replace bO:=bb bO hb;replace kS:=bb kS hb;replace HB:=bq HB hb;(try clear hb)
      obtain rfl|rfl:=bt t41
      ·replace H:=dm H;obtain rfl:=si H
       go_wp2
       go_ret
       exact ⟨ff,bs HB⟩
      ·replace H:=di H;obtain rfl:=si H
       go_wp2
       go_ret
       exact ⟨ff,bs HB⟩
     ·replace H:=di H;obtain rfl:=si H
      go_wp2
      go_ret
      exact ⟨ff,bs HB⟩
    ·intro c6 gu nM H;obtain rfl:=si H
     go_in
     go_wp2_with (first|((with_reducible refine aJ (N:=2) rfl ?_);refine bz 2 (cs:=#[.int .i64 ag,.string aj,.string ak,.int .i64 aM,.slice dB az.length dx,.slice dJ ah.length df]) (t:=45) HB ?_;clear HB;intro uC hg uj bO uq hb HB;clear hb hg)|((with_reducible refine aJ (N:=3) rfl ?_);refine bz 3 (cs:=#[.int .i64 aI,.string bX,.string dA,.int .i64 eU,.slice pJ iT.length pU,.slice pK gV.length pV]) (t:=45) HB ?_;clear HB;intro E9 hg CJ kS Q4 hb HB;have C9:=na hg bO;have Dc:=nc hg bO;replace bO:=bb bO hb;clear hb hg;have aex:=C9.o;have aeD:=Dc.o;have HV:=dO bO;have Oq:=dO kS))
     go_ret
     exact ⟨ff,bs HB⟩
   ·intro c5 ja sJ H;obtain rfl:=si H
    go_in
    go_wp2_with (first|((with_reducible refine aJ (N:=2) rfl ?_);refine bz 2 (cs:=#[.int .i64 ag,.string aj,.string ak,.int .i64 aM,.slice dB az.length dx,.slice dJ ah.length df]) (t:=45) HB ?_;clear HB;intro uC hg Je bO uq hb HB;clear hb hg)|((with_reducible refine aJ (N:=3) rfl ?_);refine bz 3 (cs:=#[.int .i64 aI,.string bX,.string dA,.int .i64 eU,.slice pJ iT.length pU,.slice pK gV.length pV]) (t:=45) HB ?_;clear HB;intro E9 hg Qc kS Q4 hb HB;have C9:=na hg bO;have Dc:=nc hg bO;replace bO:=bb bO hb;clear hb hg;have al6:=C9.o;have amh:=Dc.o;have aea:=dO bO;have KR:=dO kS))
    go_ret
    exact ⟨ff,bs HB⟩
  ·intro c4 dF kV H;obtain rfl:=si H
   go_in
   go_wp2_with (first|((with_reducible refine aJ (N:=2) rfl ?_);refine bz 2 (cs:=#[.int .i64 ag,.string aj,.string ak,.int .i64 aM,.slice dB az.length dx,.slice dJ ah.length df]) (t:=45) HB ?_;clear HB;intro uC hg uk bO uq hb HB;clear hb hg)|((with_reducible refine aJ (N:=3) rfl ?_);refine bz 3 (cs:=#[.int .i64 aI,.string bX,.string dA,.int .i64 eU,.slice pJ iT.length pU,.slice pK gV.length pV]) (t:=45) HB ?_;clear HB;intro E9 hg MP kS Q4 hb HB;have C9:=na hg bO;have Dc:=nc hg bO;replace bO:=bb bO hb;clear hb hg;have aey:=C9.o;have aeE:=Dc.o;have ZM:=dO bO;have aeb:=dO kS))
   go_ret
   exact ⟨ff,bs HB⟩
 ·intro c3 aY dS H;obtain rfl:=si H
  go_in
  go_wp2_with (first|((with_reducible refine aJ (N:=2) rfl ?_);refine bz 2 (cs:=#[.int .i64 ag,.string aj,.string ak,.int .i64 aM,.slice dB az.length dx,.slice dJ ah.length df]) (t:=45) HB ?_;clear HB;intro uC hg w35 bO uq hb HB;clear hb hg)|((with_reducible refine aJ (N:=3) rfl ?_);refine bz 3 (cs:=#[.int .i64 aI,.string bX,.string dA,.int .i64 eU,.slice pJ iT.length pU,.slice pK gV.length pV]) (t:=45) HB ?_;clear HB;intro E9 hg w36 kS Q4 hb HB;have C9:=na hg bO;have Dc:=nc hg bO;replace bO:=bb bO hb;clear hb hg;have aeA:=C9.o;have aeG:=Dc.o;have KS:=dO bO;have aed:=dO kS))
  go_ret
  exact ⟨ff,bs HB⟩
def nT.T6:Bool × List (List Nat × List Nat):=(true,[([],[]),([],[]),([0,1],[0,1]),([2],[2]),([],[]),([],[]),([4,5],[4,5]),([6],[6]),([3,7],[3,7]),([8],[8])])
def nT.B6:List Nat:=[0,0,3,7,0,0,48,112,255,511]
theorem nT.yJ:fD .any (opsOf Tryz.f26 6)=nT.T6:=by kernel_rfl
theorem nT.yg:jg nT.T6.2 nT.B6=true:=by kernel_rfl
theorem nT.calls (k:Nat)(A0:Option Addr)(c0:Nat)(l0:List eT)(A1:Option Addr)(c1:Nat)(l1:List eT)(r:Bool)(w:World)(hr0:Kd.C jG w A0 l0.length l0)(hc0:l0.length≤c0)(hr1:Kd.C jG w A1 l1.length l1)(hc1:l1.length≤c1)(H:nT.f k l0 l1=some r) :
  Calls Tryz.prog 26 #[.slice A0 l0.length c0,.slice A1 l1.length c1] w fun e w'=>e=.returned (.bool r)∧Below w.heap.size w w':=by
 have xq:=Tryz.underlying45;have bG:=am hr0;have jC:=am hc0;clear hr0 hc0;have HR1:=am hr1;have uY:=am hc1;clear hr1 hc1;have HB:=am (Below.refl w.heap.size w);unfold nT.f at H
 revert H;refine zz ?_ ?_
 ·intro c3 aY dS H
  have mP:(l0.length == l1.length)=true:=by first|simpa using c3|(simp at c3 ⊢;omega)
  clear c3;have H':=am H;clear H
  go_in
  go_wp2
  go_loopg [5] k (fun kq v5 w'=>∃ (ax:Int),v5=.int .i64 ax∧af (nT.l0 kq l0 l1 ax=some r)∧af (kq≤k)∧af (Below w.heap.size w w'))
  case atStart=>exact ⟨(0),fg,H',⟨Nat.le_refl _⟩,⟨bs HB⟩⟩
  case round =>
   clear H'
   try clear c1
   try clear c3
   try clear aY
   try clear dS
   try clear mP
   obtain ⟨ax,rfl,HA,aQ,HB⟩:=hrel
   cases gk with
   | zero=>exact absurd HA.o (by simp [nT.l0])
   | succ k1 =>
    have H:=HA.o;clear HA;simp only [nT.l0] at H
    revert H;refine bK ?_ ?_
    ·intro dF H
     revert H;refine bv ?_
     intro ja H
     revert H;refine bv ?_
     intro gu H;replace H:=bo H;obtain ⟨qQ,A7,H⟩:=H
     obtain rfl|rfl:=bt qQ
     ·replace H:=dm H;have H':=am H;clear H
      try go_wp2
      replace HB:=am (cZ HB.o);obtain ⟨AA,AC,xc,abB,adj,abC,adk,e13,gY,kC,tT,Fg,Fh,Fj,Uk,TJ,Ul,TK⟩:=wi (EL bG.o ax);have Va:=Fj;have U9:=Fh;have U8:=Fg;have Ck:=tT;have qK:=kC;have mR:=gY
      cases e13
      replace gY:=cb HB gY;replace kC:=cb HB kC;replace tT:=cb HB tT;replace Fg:=cb HB Fg;replace Fh:=cb HB Fh;replace Fj:=cb HB Fj;have Rf:=am TJ;have abQ:=am Uk;clear TJ Uk;have Rh:=am TK;have abR:=am Ul;clear TK Ul;obtain ⟨uf,ug,Dk,XF,Y6,XG,Y7,e14,iQ,jM,rD,Ad,Af,Ai,H9,H5,Ia,H6⟩:=wi (EL HR1.o ax);have Ve:=Ai;have Vd:=Af;have Vb:=Ad;have Cm:=rD;have qL:=jM;have mU:=iQ
      cases e14
      replace iQ:=cb HB iQ;replace jM:=cb HB jM;replace rD:=cb HB rD;replace Ad:=cb HB Ad;replace Af:=cb HB Af;replace Ai:=cb HB Ai;have JG:=am H5;have Q8:=am H9;clear H5 H9;have JH:=am H6;have Q9:=am Ia;clear H6 Ia;refine gD 10 (aC (cb HB mR) (aC (cb HB qK) (aC (cb HB Ck) (aC (cb HB U8) (aC (cb HB U9) (aC (cb HB Va) (aC (cb HB mU) (aC (cb HB qL) (aC (cb HB Cm) (aC (cb HB Vb) (aC (cb HB Vd) (hc (cb HB Ve))))))))))))) (fun hHeld=>?_);refine fu nT.yJ nT.yg (fun HT_ HW_=>?_)
      generalize wr.drew=w9 at HB Rf Rh JG JH gY kC tT Fg Fh Fj iQ jM rD Ad Af Ai hHeld ⊢
      refine jo 0 ?_;refine jo 4 ?_;refine ta 3 ?_;refine ta 7 ?_;refine oA 8 25 HT_ (fun K hK=>?_);refine gA Tryz.func52 #[.agg #[.int .i64 ((aG l0 ax).f0),.string ((aG l0 ax).f1),.string ((aG l0 ax).f2),.int .i64 ((aG l0 ax).f3),.slice abB ((aG l0 ax).f4).length adj,.slice abC ((aG l0 ax).f5).length adk],.agg #[.int .i64 ((aG l1 ax).f0),.string ((aG l1 ax).f1),.string ((aG l1 ax).f2),.int .i64 ((aG l1 ax).f3),.slice XF ((aG l1 ax).f4).length Y6,.slice XG ((aG l1 ax).f5).length Y7]] ?_;(with_reducible refine (IE.calls k1 ((aG l0 ax).f0) ((aG l0 ax).f1) ((aG l0 ax).f2) ((aG l0 ax).f3) _ _ ((aG l0 ax).f4) _ _ ((aG l0 ax).f5) ((aG l1 ax).f0) ((aG l1 ax).f1) ((aG l1 ax).f2) ((aG l1 ax).f3) _ _ ((aG l1 ax).f4) _ _ ((aG l1 ax).f5) true _ ?aR ?bg ?jI ?ma ?FY ?LZ ?FZ ?L6 A7.o).mono ?_)
      (case aR=>exact sd (Kd.bi Rf.o HB.o))
      (case bg=>exact abQ.o)
      (case jI=>exact sd (Kd.bi Rh.o HB.o))
      (case ma=>exact abR.o)
      (case FY=>exact sd (Kd.bi JG.o HB.o))
      (case LZ=>exact Q8.o)
      (case FZ=>exact sd (Kd.bi JH.o HB.o))
      (case L6=>exact Q9.o)
      rintro e qo ⟨rfl,hb⟩;refine ⟨_,rfl,?_⟩;replace HB:=bq HB hb;(try clear hb);refine hK.out _ _ (aC (cb HB mR) (aC (cb HB qK) (aC (cb HB Ck) (aC (cb HB U8) (aC (cb HB U9) (aC (cb HB Va) (aC (cb HB mU) (aC (cb HB qL) (aC (cb HB Cm) (aC (cb HB Vb) (aC (cb HB Vd) (hc (cb HB Ve))))))))))))).o (fun hHeld=>?_);clear hK K;refine nA 25 ?_;refine bQ 9 ?_;refine ek (fo HT_.o (by kernel_rfl)) ?_
      try go_wp2
      go_roundg k1
      case measure=>have:=aQ.o;omega
      case rel=>exact ⟨(wrap64 (ax+1)),fg,H',⟨by have:=aQ.o;omega⟩,⟨bs HB⟩⟩
     ·replace H:=di H;obtain rfl:=si H
      try go_wp2
      replace HB:=am (cZ HB.o);obtain ⟨AA,AC,xc,abB,adj,abC,adk,e13,gY,kC,tT,Fg,Fh,Fj,Uk,TJ,Ul,TK⟩:=wi (EL bG.o ax);have Va:=Fj;have U9:=Fh;have U8:=Fg;have Ck:=tT;have qK:=kC;have mR:=gY
      cases e13
      replace gY:=cb HB gY;replace kC:=cb HB kC;replace tT:=cb HB tT;replace Fg:=cb HB Fg;replace Fh:=cb HB Fh;replace Fj:=cb HB Fj;have Rf:=am TJ;have abQ:=am Uk;clear TJ Uk;have Rh:=am TK;have abR:=am Ul;clear TK Ul;obtain ⟨uf,ug,Dk,XF,Y6,XG,Y7,e14,iQ,jM,rD,Ad,Af,Ai,H9,H5,Ia,H6⟩:=wi (EL HR1.o ax);have Ve:=Ai;have Vd:=Af;have Vb:=Ad;have Cm:=rD;have qL:=jM;have mU:=iQ
      cases e14
      replace iQ:=cb HB iQ;replace jM:=cb HB jM;replace rD:=cb HB rD;replace Ad:=cb HB Ad;replace Af:=cb HB Af;replace Ai:=cb HB Ai;have JG:=am H5;have Q8:=am H9;clear H5 H9;have JH:=am H6;have Q9:=am Ia;clear H6 Ia;refine gD 10 (aC (cb HB mR) (aC (cb HB qK) (aC (cb HB Ck) (aC (cb HB U8) (aC (cb HB U9) (aC (cb HB Va) (aC (cb HB mU) (aC (cb HB qL) (aC (cb HB Cm) (aC (cb HB Vb) (aC (cb HB Vd) (hc (cb HB Ve))))))))))))) (fun hHeld=>?_);refine fu nT.yJ nT.yg (fun HT_ HW_=>?_)
      generalize wr.drew=jY at HB Rf Rh JG JH gY kC tT Fg Fh Fj iQ jM rD Ad Af Ai hHeld ⊢
      refine jo 0 ?_;refine jo 4 ?_;refine ta 3 ?_;refine ta 7 ?_;refine oA 8 25 HT_ (fun K hK=>?_);refine gA Tryz.func52 #[.agg #[.int .i64 ((aG l0 ax).f0),.string ((aG l0 ax).f1),.string ((aG l0 ax).f2),.int .i64 ((aG l0 ax).f3),.slice abB ((aG l0 ax).f4).length adj,.slice abC ((aG l0 ax).f5).length adk],.agg #[.int .i64 ((aG l1 ax).f0),.string ((aG l1 ax).f1),.string ((aG l1 ax).f2),.int .i64 ((aG l1 ax).f3),.slice XF ((aG l1 ax).f4).length Y6,.slice XG ((aG l1 ax).f5).length Y7]] ?_;(with_reducible refine (IE.calls k1 ((aG l0 ax).f0) ((aG l0 ax).f1) ((aG l0 ax).f2) ((aG l0 ax).f3) _ _ ((aG l0 ax).f4) _ _ ((aG l0 ax).f5) ((aG l1 ax).f0) ((aG l1 ax).f1) ((aG l1 ax).f2) ((aG l1 ax).f3) _ _ ((aG l1 ax).f4) _ _ ((aG l1 ax).f5) false _ ?aR ?bg ?jI ?ma ?FY ?LZ ?FZ ?L6 A7.o).mono ?_)
      (case aR=>exact sd (Kd.bi Rf.o HB.o))
      (case bg=>exact abQ.o)
      (case jI=>exact sd (Kd.bi Rh.o HB.o))
      (case ma=>exact abR.o)
      (case FY=>exact sd (Kd.bi JG.o HB.o))
      (case LZ=>exact Q8.o)
      (case FZ=>exact sd (Kd.bi JH.o HB.o))
      (case L6=>exact Q9.o)
      rintro e nZ ⟨rfl,hb⟩;refine ⟨_,rfl,?_⟩;replace HB:=bq HB hb;(try clear hb);refine hK.out _ _ (aC (cb HB mR) (aC (cb HB qK) (aC (cb HB Ck) (aC (cb HB U8) (aC (cb HB U9) (aC (cb HB Va) (aC (cb HB mU) (aC (cb HB qL) (aC (cb HB Cm) (aC (cb HB Vb) (aC (cb HB Vd) (hc (cb HB Ve))))))))))))).o (fun hHeld=>?_);clear hK K;refine nA 25 ?_;refine bQ 9 ?_;refine ek (fo HT_.o (by kernel_rfl)) ?_
      try go_wp2
      go_ret
      exact ⟨ff,bs HB⟩
    ·intro dF H;obtain rfl:=si H
     go_wp2
     go_ret
     exact ⟨ff,bs HB⟩
 ·intro c3 aY dS H
  have mP:(l0.length == l1.length)=false:=by first|simpa using c3|(simp at c3 ⊢;omega)
  obtain rfl:=si H
  go_in
  go_wp2
  go_ret
  exact ⟨ff,bs HB⟩
theorem LA.calls (k:Nat)(ag aj:ByteArray)(ak:Int)(dZ:Option Addr)(dW:Nat)(au:List eT)(aI bX:ByteArray)(dA:Int)(yQ:Option Addr)(zl:Nat)(oQ:List eT)(r:Bool)(w:World)(jl:Kd.C jG w dZ au.length au)(jk:au.length≤dW)(U1:Kd.C jG w yQ oQ.length oQ)(Tw:oQ.length≤zl)(H:LA.f k ag aj ak au aI bX dA oQ=some r) :
  Calls Tryz.prog 9 #[.agg #[.string ag,.string aj,.int .i64 ak,.slice dZ au.length dW],.agg #[.string aI,.string bX,.int .i64 dA,.slice yQ oQ.length zl]] w fun e w'=>e=.returned (.bool r)∧Below w.heap.size w w':=by
 have U3:=Tryz.underlying29;have oH:=am jl;have qw:=am jk;clear jl jk;have acu:=am U1;have abY:=am Tw;clear U1 Tw;have HB:=am (Below.refl w.heap.size w);unfold LA.f at H
 revert H;refine bH ?_ ?_
 ·intro aY dS H
  revert H;refine bH ?_ ?_
  ·intro dF kV H
   revert H;refine bH ?_ ?_
   ·intro ja sJ H;replace H:=bo H;obtain ⟨t31,A6,H⟩:=H
    go_in
    try go_wp2_with (first|((with_reducible refine aJ (N:=2) rfl ?_);refine bz 2 (cs:=#[.string ag,.string aj,.int .i64 ak,.slice dZ au.length dW]) (t:=29) HB ?_;clear HB;intro uC hg w7 bO uq hb HB;clear hb hg)|((with_reducible refine aJ (N:=3) rfl ?_);refine bz 3 (cs:=#[.string aI,.string bX,.int .i64 dA,.slice yQ oQ.length zl]) (t:=29) HB ?_;clear HB;intro adX hg w8 Ep abK hb HB;have JN:=na hg bO;have JR:=nc hg bO;replace bO:=bb bO hb;clear hb hg;have UH:=JN.o;have UL:=JR.o;have zo:=aX bO;have zq:=aX Ep))
    go_at_call 26;refine (nT.calls k _ _ au _ _ oQ t31 _ (Kd.bi oH.o (bs HB)) qw.o (Kd.bi acu.o (bs HB)) abY.o A6.o).mono ?_;rintro e nZ ⟨rfl,hb⟩;replace bO:=bb bO hb;replace Ep:=bb Ep hb;replace HB:=bq HB hb;(try clear hb)
    obtain rfl|rfl:=bt t31
    ·replace H:=dm H;obtain rfl:=si H
     go_wp2
     go_ret
     exact ⟨ff,bs HB⟩
    ·replace H:=di H;obtain rfl:=si H
     go_wp2
     go_ret
     exact ⟨ff,bs HB⟩
   ·intro c5 ja sJ H;obtain rfl:=si H
    go_in
    go_wp2_with (first|((with_reducible refine aJ (N:=2) rfl ?_);refine bz 2 (cs:=#[.string ag,.string aj,.int .i64 ak,.slice dZ au.length dW]) (t:=29) HB ?_;clear HB;intro uC hg tF bO uq hb HB;clear hb hg)|((with_reducible refine aJ (N:=3) rfl ?_);refine bz 3 (cs:=#[.string aI,.string bX,.int .i64 dA,.slice yQ oQ.length zl]) (t:=29) HB ?_;clear HB;intro adX hg CG Ep abK hb HB;have JN:=na hg bO;have JR:=nc hg bO;replace bO:=bb bO hb;clear hb hg;have al2:=JN.o;have amd:=JR.o;have KP:=aX bO;have KQ:=aX Ep))
    go_ret
    exact ⟨ff,bs HB⟩
  ·intro c4 dF kV H;obtain rfl:=si H
   go_in
   go_wp2_with (first|((with_reducible refine aJ (N:=2) rfl ?_);refine bz 2 (cs:=#[.string ag,.string aj,.int .i64 ak,.slice dZ au.length dW]) (t:=29) HB ?_;clear HB;intro uC hg pz bO uq hb HB;clear hb hg)|((with_reducible refine aJ (N:=3) rfl ?_);refine bz 3 (cs:=#[.string aI,.string bX,.int .i64 dA,.slice yQ oQ.length zl]) (t:=29) HB ?_;clear HB;intro adX hg uj Ep abK hb HB;have JN:=na hg bO;have JR:=nc hg bO;replace bO:=bb bO hb;clear hb hg;have awN:=JN.o;have aw9:=JR.o;have Tx:=aX bO;have HV:=aX Ep))
   go_ret
   exact ⟨ff,bs HB⟩
 ·intro c3 aY dS H;obtain rfl:=si H
  go_in
  go_wp2_with (first|((with_reducible refine aJ (N:=2) rfl ?_);refine bz 2 (cs:=#[.string ag,.string aj,.int .i64 ak,.slice dZ au.length dW]) (t:=29) HB ?_;clear HB;intro uC hg CL bO uq hb HB;clear hb hg)|((with_reducible refine aJ (N:=3) rfl ?_);refine bz 3 (cs:=#[.string aI,.string bX,.int .i64 dA,.slice yQ oQ.length zl]) (t:=29) HB ?_;clear HB;intro adX hg Je Ep abK hb HB;have JN:=na hg bO;have JR:=nc hg bO;replace bO:=bb bO hb;clear hb hg;have al5:=JN.o;have amg:=JR.o;have Ot:=aX bO;have aea:=aX Ep))
  go_ret
  exact ⟨ff,bs HB⟩
theorem lu.calls (k:Nat)(a0:Int)(r:ByteArray)(w:World)(H:lu.f k a0=some r) :
  Calls Tryz.prog 54 #[.int .i64 a0] w fun e w'=>e=.returned (.string r)∧Below w.heap.size w w':=by
 have HB:=am (Below.refl w.heap.size w);unfold lu.f at H
 revert H;refine bK ?_ ?_
 ·intro gQ H;obtain rfl:=si H
  go_in
  go_wp2
  go_ret
  exact ⟨ff,bs HB⟩
 ·intro gQ H;have H':=am H;clear H
  go_in
  go_wp2
  go_loopg [0,3] k (fun kq v0 v3 w'=>∃ (kR:Int) (dU:ByteArray),v0=.int .i64 kR∧v3=.string dU∧af (lu.l0 kq kR dU=some r)∧af (kq≤k)∧af (Below w.heap.size w w'))
  case atStart=>exact ⟨(a0),((⟨#[]⟩:ByteArray)),fg,fg,H',⟨Nat.le_refl _⟩,⟨bs HB⟩⟩
  case round =>
   clear H'
   try clear gQ
   obtain ⟨kR,dU,rfl,rfl,HA,aQ,HB⟩:=hrel
   cases gk with
   | zero=>exact absurd HA.o (by simp [lu.l0])
   | succ k1 =>
    have H:=HA.o;clear HA;simp only [lu.l0] at H
    revert H;refine gT ?_ ?_
    ·intro c3 H;have aY:decide (0<kR)=true:=decide_eq_true c3;clear c3;obtain ⟨XE,aeV⟩:∃ y_:List Int,y_=(([(wrap64 (48+(Int.tmod kR 10))) % 256]:List Int)):=⟨_,rfl⟩
     replace H:(if (strOfNums XE).size+dU.size≤9223372036854775807 then (lu.l0 k1 (wrap64 (Int.tdiv kR 10)) ((strOfNums XE)++dU)) else none)=some r:=ye aeV H
     have aiq:=am aeV;clear aeV
     revert H;refine ku ?_
     intro c4 H;have dF:=eq_true c4;have kV:decide ((strOfNums XE).size+dU.size≤9223372036854775807)=true:=decide_eq_true c4
     try have adx:(9223372036854775807<(strOfNums XE).size+dU.size)=False:=eq_false (Nat.not_lt.2 c4)
     have H':=am H;clear H
     go_wp2_with (first|((with_reducible refine aJ (N:=12) rfl ?_);refine rl (Kd.int .u8) 5 (N:=12) (xs:=([(wrap64 (48+(Int.tmod kR 10))) % 256]:List Int)) (inner:=[.int .u8 ((wrap64 (48+(Int.tmod kR 10))) % 256)]) ?hp ?_;(case hp=>exact (aV.one (show Kd.M (Kd.int .u8) _ _ _ ((wrap64 (48+(Int.tmod kR 10))) % 256) [.int .u8 ((wrap64 (48+(Int.tmod kR 10))) % 256)] from rfl) (aV.none _ _)));intro v14 w5 Cj hb hg_ hnew_;clear hg_ hnew_;(first|rw [← aiq.o] at Cj|(simp only [Int.reduceToNat] at Cj;rw [← aiq.o] at Cj));have aqd:=am (Kd.ic Cj (bJ (bs HB)));replace HB:=bq HB hb;clear hb Cj;have aFe:=af1 (P:=Tryz.prog) Tryz.underlying124 Tryz.underlying5 Tryz.underlying9 (Kd.Wj aqd.o)))
     go_roundg k1
     case measure=>have:=aQ.o;omega
     case rel=>exact ⟨(wrap64 (Int.tdiv kR 10)),((strOfNums XE)++dU),fg,fg,H',⟨by have:=aQ.o;omega⟩,⟨bs HB⟩⟩
    ·intro c3 H;have aY:decide (0<kR)=false:=decide_eq_false c3;clear c3
     revert H;refine gT ?_ ?_
     ·intro c8 H;have kr:=eq_true c8;have wo:decide (1+dU.size≤9223372036854775807)=true:=decide_eq_true c8
      try have aES:(9223372036854775807<1+dU.size)=False:=eq_false (Nat.not_lt.2 c8)
      obtain rfl:=si H
      go_wp2
      go_ret
      exact ⟨ff,bs HB⟩
     ·intro c8 H
      exact absurd H (by simp)
theorem tY.calls (k:Nat)(eQ:Nat→Prop)(je:Value)(l0:List ByteArray)(a1 r1:Int)(r2:List ByteArray)(w0 w:World)(hB:Below w0.heap.size w0 w)(ho0:Kd.R Kd.string 9 w w0.heap.size eQ je l0)(H:tY.f k l0 a1=some (r1,r2)) :
  Calls Tryz.prog 55 #[je,.int .i64 a1] w fun e w'=>e=.returned (.int .i64 r1)∧Kd.R Kd.string 9 w' w0.heap.size (fun k_=>(eQ k_∨w.heap.size≤k_)) je r2∧Below w0.heap.size w0 w'∧Kept w w' (fun k_=>eQ k_):=by
 have HO0:=am (show Kd.R Kd.string 9 w w0.heap.size (fun k_=>(eQ k_∨w.heap.size≤k_)) je l0 from Kd.dE ho0 (fun k_ hk=>(.inl hk)));have HK:=am (Kept.refl w (fun k_=>eQ k_));have HW0:=am hB.size;have HB:=am hB;clear hB;unfold tY.f at H;have H':=am H;clear H
 go_in
 go_wp2
 go_loopg [1,5] k (fun kq v1 v5 w'=>∃ (kR:List ByteArray) (iP:Int) (ax:Int),v1=.int .i64 iP∧v5=.int .i64 ax∧af (tY.l0 kq kR iP ax=some (r1,r2))∧af (kq≤k)∧af (Kd.R Kd.string 9 w' w0.heap.size (fun k_=>(eQ k_∨w.heap.size≤k_)) je kR)∧af (Kept w w' (fun k_=>eQ k_))∧af (Below w0.heap.size w0 w'))
 case atStart=>exact ⟨(l0),(a1),(0),fg,fg,H',⟨Nat.le_refl _⟩,⟨rz HO0.o⟩,⟨by repeat (first|(with_reducible first|exact HK.o|apply Kept.alloc|apply Kept.drewN|apply Kept.drew)|exact HK.o)⟩,⟨bs HB⟩⟩
 case round =>
  clear H'
  obtain ⟨kR,iP,ax,rfl,rfl,HA,aQ,y8,HK,HB⟩:=hrel
  cases gk with
  | zero=>exact absurd HA.o (by simp [tY.l0])
  | succ k1 =>
   have H:=HA.o;clear HA;simp only [tY.l0] at H
   revert H;refine bK ?_ ?_
   ·intro aY H;replace H:=bo H;obtain ⟨CF,A4,H⟩:=H
    revert H;refine bv ?_
    intro ja H;obtain ⟨y12,aeW⟩:∃ y_:List ByteArray,y_=(kR.set (ax:Int).toNat CF):=⟨_,rfl⟩
    replace H:(tY.l0 k1 y12 (wrap64 (iP+1)) (wrap64 (ax+1)))=some (r1,r2):=ye aeW H
    have ar1:=am aeW;clear aeW;have H':=am H;clear H;obtain ⟨Ao7,co7,eo7⟩:=Kd.gW y8.o;subst eo7
    go_wp2_with (first|((go_at_call 54;refine (lu.calls k1 iP CF _ A4.o).mono ?_;rintro e w8 ⟨rfl,hb⟩);replace y8:=am (Kd.cu (rs y8) hb);replace HK:=am (Kept.below (S:=(fun k_=>eQ k_)) (by repeat (first|(with_reducible first|exact HK.o|apply Kept.alloc|apply Kept.drewN|apply Kept.drew)|exact HK.o)) hb);replace HB:=bq HB hb;(try clear hb);have p6:0≤(ax:Int):=oa;have q6:(ax:Int)<((kR.length:Int):Int):=oa;obtain ⟨Tq,co6,eo6,tQ,gl6,cl6,HG6⟩:=Kd.ac0 y8.o (by omega);(first|cases eo6|(injection eo6 with ea_ en_ ec_;(first|subst ea_|(injection ea_ with ea_;subst ea_));subst ec_;clear en_));have GB6:=am tQ;have GG6:=am HG6;clear tQ gl6 HG6;have aD7:=am (show (eQ Tq∨w.heap.size≤Tq) from (y8.o.1 _ rfl));obtain ⟨VT,aGB⟩:=Kd.acY (⟨#[]⟩:ByteArray) y8.o (ax:Int) p6 q6;replace p6:=eq_true p6;replace q6:=eq_true q6;obtain ⟨aLG,aLH⟩:=Kd.acY (⟨#[]⟩:ByteArray) y8.o (ax:Int) (oa) (oa);have HP9:=Kd.aiX y8.o (ax:Int) CF)|((with_reducible refine oJ (t:=9) (p:=16) rfl ?_);refine pg (t:=9) (p:=16) (v:=?aMO) (w1:=(w8.setCell ⟨Tq,(ax:Int).toNat,none⟩ (.string CF))) ?hg ?ho ?hn ?hr ?_;(case ho=>rfl);(case hg=>rfl);(case hn=>rfl);(case hr=>first|(go_simp;done)|(go_simp;rfl));intro qo hw;have hg:w8.grownBy qo (some Tq):=(by rw [hw];exact HP9.2);have hp_:Kd.R Kd.string 9 qo w0.heap.size (fun k_=>(eQ k_∨w.heap.size≤k_)) (.slice (some ⟨Tq,0,none⟩) kR.length co7) y12:=(by rw [hw,ar1.o];exact HP9.1);clear HP9;replace HB:=am ((by rw [hw];exact eX (HB.o) GB6.o:Below w0.heap.size w0 qo));replace HK:=am (Kept.aaA (S:=(fun k_=>eQ k_)) hg (by repeat (first|(with_reducible first|exact HK.o|apply Kept.alloc|apply Kept.drewN|apply Kept.drew)|exact HK.o)) (fun k_ e_=>(y8.o.1 k_ e_)));replace y8:=am (hp_);clear hg hw hp_))
    go_roundg k1
    case measure=>have:=aQ.o;omega
    case rel=>exact ⟨(y12),(wrap64 (iP+1)),(wrap64 (ax+1)),fg,fg,H',⟨by have:=aQ.o;omega⟩,⟨rz y8.o⟩,⟨by repeat (first|(with_reducible first|exact HK.o|apply Kept.alloc|apply Kept.drewN|apply Kept.drew)|exact HK.o)⟩,⟨bs HB⟩⟩
   ·intro aY H;replace H:=xI H;obtain ⟨rfl,rfl⟩:=H;obtain ⟨ahn,Zl,adP⟩:=Kd.gW y8.o;subst adP
    go_wp2
    go_ret
    exact ⟨ff,by (with_reducible repeat (first|apply Kd.kM|apply Kd.jK|apply Kd.eO));exact y8.o,bs HB,by repeat (first|(with_reducible first|exact HK.o|apply Kept.alloc|apply Kept.drewN|apply Kept.drew)|exact HK.o)⟩
theorem wK.calls (k:Nat)(eQ:Nat→Prop)(je:Value)(l0:List aZ)(a1 r1:Int)(r2:List aZ)(w0 w:World)(hB:Below w0.heap.size w0 w)(ho0:Kd.R iA 95 w w0.heap.size eQ je l0)(h:wK.f k l0 a1=some (r1,r2)) :
  Calls Tryz.prog 56 #[je,.int .i64 a1] w fun e w'=>e=.returned (.int .i64 r1)∧Kd.R iA 95 w' w0.heap.size (fun k_=>(eQ k_∨w.heap.size≤k_)) je r2∧Below w0.heap.size w0 w'∧Kept w w' (fun k_=>eQ k_):=by
 have HO:=am (show Kd.R iA 95 w w0.heap.size (fun k_=>(eQ k_∨w.heap.size≤k_)) je l0 from Kd.dE ho0 (fun _ hk=>(.inl hk)));have HK:=am (Kept.refl w (fun k_=>eQ k_));have HB:=am hB;have H':=am (show wK.l0 k l0 a1 0=some (r1,r2) from h);clear hB h
 go_in
 go_wp2
 go_loopg [1,5] k (fun kq v1 v5 w'=>∃ (x0:List aZ) (x1:Int) (x5:Int),v1=.int .i64 x1∧v5=.int .i64 x5∧af (wK.l0 kq x0 x1 x5=some (r1,r2))∧af (kq≤k)∧af (Kd.R iA 95 w' w0.heap.size (fun k_=>(eQ k_∨w.heap.size≤k_)) je x0)∧af (Kept w w' (fun k_=>eQ k_))∧af (Below w0.heap.size w0 w'))
 case atStart=>exact ⟨l0,a1,0,rfl,rfl,H',⟨Nat.le_refl _⟩,HO,HK,HB⟩
 case round =>
  clear H';obtain ⟨x0,x1,x5,rfl,rfl,HA,aQ,HO,HK,HB⟩:=hrel
  cases gk with
  | zero=>exact absurd HA.o (by simp [wK.l0])
  | succ k1 =>
   have H:=HA.o;clear HA;simp only [wK.l0] at H
   by_cases c3:x5<(x0.length:Int)
   ·rw [if_pos c3] at H;have aY:decide (x5<(x0.length:Int))=true:=decide_eq_true c3
    revert H;refine qO ?_
    intro c5 ja H;obtain ⟨t1,A1,H⟩:=Option.bind_eq_some_iff.mp H;replace A1:=am A1;obtain ⟨t4,A4,H⟩:=Option.bind_eq_some_iff.mp H;replace A4:=am A4;have H':=am H;clear H;obtain ⟨g,cap,oki,c,eo,hM,hL⟩:=hol Eh x5 (aiZ (fun _ _ _ _ _ h=>by obtain rfl:=aau h;exact Lp _ _ _ _) HO.o) HB.o HK.o c5 c3;subst eo;obtain rfl:=aau hM;have HL:=am hL;clear hL hM HO HK HB;replace c3:=eq_true c3;replace c5:=eq_true c5;obtain ⟨hx,hf⟩:=HL.o.nz 5 rfl rfl
    go_wp2_with (first|((with_reducible refine oJ (t:=2) (p:=16) rfl ?_);refine pg (t:=2) (p:=16) (v:=?vo0) (w1:=(wr.setCell ⟨g,(x5:Int).toNat * 5,none⟩ (.int .i64 x1))) ?hg ?ho ?hn ?hr ?_;(case ho=>rfl);(case hg=>rfl);(case hn=>rfl);(case hr=>first|(go_simp;done)|(go_simp;rfl));intro Jd hw;replace HL:=am (HL.o.put 0 (.int .i64 x1) (by decide) rfl hw);clear hw hx hf)|(go_at_call 54;(with_reducible refine (lu.calls k1 (wrap64 (x1+1)) t1 _ A1.o).mono ?_);rintro e w1a ⟨rfl,hb⟩;replace HL:=am (HL.o.below hb);clear hb;obtain ⟨hz,hx,hf⟩:=HL.o.nx 5 1 rfl rfl rfl)|((with_reducible refine oJ (t:=9) (p:=24) rfl ?_);refine pg (t:=9) (p:=24) (v:=?vo1) (w1:=(w1a.setCell ⟨g,(x5:Int).toNat * 5+1,none⟩ (.string t1))) ?hg ?ho ?hn ?hr ?_;(case ho=>rfl);(case hg=>rfl);(case hn=>rfl);(case hr=>first|(go_simp;done)|(go_simp;rfl));intro Qb hw;replace HL:=am (HL.o.put 1 (.string t1) (by decide) rfl hw);clear hw hx hf hz;obtain ⟨hz,hx,hf⟩:=HL.o.nx 5 2 rfl rfl rfl)|((with_reducible refine oJ (t:=2) (p:=31) rfl ?_);refine pg (t:=2) (p:=31) (v:=?vo2) (w1:=(Qb.setCell ⟨g,(x5:Int).toNat * 5+2,none⟩ (.int .i64 (wrap64 ((wrap64 (x1+1))+1))))) ?hg ?ho ?hn ?hr ?_;(case ho=>rfl);(case hg=>rfl);(case hn=>rfl);(case hr=>first|(go_simp;done)|(go_simp;rfl));intro WV hw;replace HL:=am (HL.o.put 2 (.int .i64 (wrap64 ((wrap64 (x1+1))+1))) (by decide) rfl hw);clear hw hx hf hz;obtain ⟨hz,hx,hf⟩:=HL.o.nx 5 3 rfl rfl rfl)|((with_reducible refine oJ (t:=2) (p:=38) rfl ?_);refine pg (t:=2) (p:=38) (v:=?vo3) (w1:=(WV.setCell ⟨g,(x5:Int).toNat * 5+3,none⟩ (.int .i64 (wrap64 ((wrap64 ((wrap64 (x1+1))+1))+1))))) ?hg ?ho ?hn ?hr ?_;(case ho=>rfl);(case hg=>rfl);(case hn=>rfl);(case hr=>first|(go_simp;done)|(go_simp;rfl));intro w3b hw;replace HL:=am (HL.o.put 3 (.int .i64 (wrap64 ((wrap64 ((wrap64 (x1+1))+1))+1))) (by decide) rfl hw);clear hw hx hf hz)|(go_at_call 54;(with_reducible refine (lu.calls k1 (wrap64 ((wrap64 ((wrap64 ((wrap64 (x1+1))+1))+1))+1)) t4 _ A4.o).mono ?_);rintro e w4a ⟨rfl,hb⟩;replace HL:=am (HL.o.below hb);clear hb;obtain ⟨hz,hx,hf⟩:=HL.o.nx 5 4 rfl rfl rfl)|((with_reducible refine oJ (t:=9) (p:=46) rfl ?_);refine pg (t:=9) (p:=46) (v:=?vo4) (w1:=(w4a.setCell ⟨g,(x5:Int).toNat * 5+4,none⟩ (.string t4))) ?hg ?ho ?hn ?hr ?_;(case ho=>rfl);(case hg=>rfl);(case hn=>rfl);(case hr=>first|(go_simp;done)|(go_simp;rfl));intro w4b hw;replace HL:=am (HL.o.put 4 (.string t4) (by decide) rfl hw);clear hw hx hf hz))
    go_roundg k1
    case measure=>have:=aQ.o;omega
    case rel=>exact ⟨_,_,_,rfl,rfl,H',⟨by have:=aQ.o;omega⟩,⟨HL.o.back (⟨x1,t1,wrap64 ((wrap64 (x1+1))+1),wrap64 ((wrap64 ((wrap64 (x1+1))+1))+1),t4⟩:aZ) (Lp _ _ _ (⟨x1,t1,wrap64 ((wrap64 (x1+1))+1),wrap64 ((wrap64 ((wrap64 (x1+1))+1))+1),t4⟩:aZ))⟩,⟨HL.o.hK⟩,⟨HL.o.hB⟩⟩
   ·rw [if_neg c3] at H;have aY:decide (x5<(x0.length:Int))=false:=decide_eq_false c3;clear c3;obtain ⟨rfl,rfl⟩:=Prod.mk.inj (Option.some.inj H);obtain ⟨Ao,co,eo⟩:=Kd.gW HO.o;subst eo
    go_wp2
    go_ret
    exact ⟨rfl,HO.o,HB.o,HK.o⟩
theorem vJ.calls (k:Nat)(eQ:Nat→Prop)(je:Value)(l0:List eT)(a1 r1:Int)(r2:List eT)(w0 w:World)(hB:Below w0.heap.size w0 w)(ho0:Kd.S jG 45 w w0.heap.size eQ je l0)(h:vJ.f k l0 a1=some (r1,r2)) :
  Calls Tryz.prog 28 #[je,.int .i64 a1] w fun e w'=>e=.returned (.int .i64 r1)∧Kd.S jG 45 w' w0.heap.size (fun k_=>(eQ k_∨w.heap.size≤k_)) je r2∧Below w0.heap.size w0 w'∧Kept w w' (fun k_=>eQ k_):=by
 have HO:=am (show Kd.S jG 45 w w0.heap.size (fun k_=>(eQ k_∨w.heap.size≤k_)) je l0 from Kd.eF ho0 (fun _ hk=>(.inl hk)));have HK:=am (Kept.refl w (fun k_=>eQ k_));have HB:=am hB;have H':=am (show vJ.l0 k l0 a1 0=some (r1,r2) from h);clear hB h
 go_in
 go_wp2
 go_loopg [1,5] k (fun kq v1 v5 w'=>∃ (x0:List eT) (x1:Int) (x5:Int),v1=.int .i64 x1∧v5=.int .i64 x5∧af (vJ.l0 kq x0 x1 x5=some (r1,r2))∧af (kq≤k)∧af (Kd.S jG 45 w' w0.heap.size (fun k_=>(eQ k_∨w.heap.size≤k_)) je x0)∧af (Kept w w' (fun k_=>eQ k_))∧af (Below w0.heap.size w0 w'))
 case atStart=>exact ⟨l0,a1,0,rfl,rfl,H',⟨Nat.le_refl _⟩,HO,HK,HB⟩
 case round =>
  clear H';obtain ⟨x0,x1,x5,rfl,rfl,HA,aQ,HO,HK,HB⟩:=hrel
  cases gk with
  | zero=>exact absurd HA.o (by simp [vJ.l0])
  | succ k1 =>
   have H:=HA.o;clear HA;simp only [vJ.l0] at H
   revert H;refine bK ?_ ?_
   ·intro c3 H;revert H;refine bv ?_;intro c5 H;replace H:=bo H;obtain ⟨t1,A1,H⟩:=H;replace H:=bo H;obtain ⟨t2,A2,H⟩:=H;replace H:=bo H;obtain ⟨⟨s0,q0⟩,QT,H⟩:=H;dsimp only at H;replace H:=bo H;obtain ⟨⟨s1,q1⟩,AI1,H⟩:=H;dsimp only at H;have H':=am H;clear H;obtain ⟨g,cap,oki,c,eo,hM,hG,hL⟩:=UY z45 x5 HO.o HB.o HK.o oa oa;subst eo;replace hM:=(show Kd.M jG _ _ oki (aG x0 x5) c from hM);obtain ⟨v90,v91,e9,hR0,Om⟩:=afN hM;subst e9;obtain ⟨Q,Q0,Q1⟩:∃ Q:Nat→Prop,Kd.R Kd.string 9 _ w0.heap.size (fun k_=>oki k_∧Q k_) v90 (aG x0 x5).f4∧Kd.R iA 95 _ w0.heap.size (fun k_=>oki k_∧¬ Q k_) v91 (aG x0 x5).f5:=⟨TyP w0.heap.size _ [9],Kd.dE (Kd.rV hR0) (fun _ hk=>⟨hk.1,hk.2.1,hk.2.2.2.elim fun q hq=>⟨q,hq.1,hq.2⟩⟩),asv Om (by decide)⟩;clear hR0 Om;have hR0:=Q0;have Om:=Q1;clear Q0 Q1;obtain ⟨Jw,Sz,e9⟩:=Kd.gW hR0;subst e9;have bG:=am hR0;clear hR0;obtain ⟨A91,c91,e9⟩:=Kd.gW Om;subst e9;have HR1:=am Om;clear Om;have HL:=am hL;have HG:=am hG;clear hL hM hG HO HK HB;have p3:=eq_true (show x5<(x0.length:Int) from oa);have p5:=eq_true (show 0≤(x5:Int) from oa);obtain ⟨hx,hf⟩:=HL.o.nz 6 rfl rfl
    go_wp2_with (first|((with_reducible refine oJ (t:=2) (p:=16) rfl ?_);refine pg (t:=2) (p:=16) (v:=?vo0) (w1:=(wr.setCell ⟨g,(x5:Int).toNat * 6,none⟩ (.int .i64 x1))) ?hg ?ho ?hn ?hr ?_;(case ho=>rfl);(case hg=>rfl);(case hn=>rfl);(case hr=>first|(go_simp;done)|(go_simp;rfl));intro Jd hw;replace bG:=am (show Kd.R Kd.string 9 Jd w0.heap.size (fun k_=>oki k_∧Q k_) _ _ from by rw [hw];exact Kd.qC (p:=⟨g,(x5:Int).toNat * 6,none⟩) bG.o (fun k_ q_=>HG.o k_ q_.1) _);replace HR1:=am (show Kd.R iA 95 Jd w0.heap.size (fun k_=>oki k_∧¬ Q k_) _ _ from by rw [hw];exact Kd.qC (p:=⟨g,(x5:Int).toNat * 6,none⟩) HR1.o (fun k_ q_=>HG.o k_ q_.1) _);replace HL:=am (HL.o.put 0 (.int .i64 x1) (by decide) rfl hw);clear hw;clear hx hf)|(go_at_call 54;(with_reducible refine (lu.calls k1 (wrap64 (x1+1)) t1 _ A1.o).mono ?_);rintro e w1a ⟨rfl,hb⟩;replace HL:=am (HL.o.below hb);replace bG:=am (Kd.cu bG.o hb);replace HR1:=am (Kd.cu HR1.o hb);clear hb;obtain ⟨hz,hx,hf⟩:=HL.o.nx 6 1 rfl rfl rfl)|((with_reducible refine oJ (t:=9) (p:=24) rfl ?_);refine pg (t:=9) (p:=24) (v:=?vo1) (w1:=(w1a.setCell ⟨g,(x5:Int).toNat * 6+1,none⟩ (.string t1))) ?hg ?ho ?hn ?hr ?_;(case ho=>rfl);(case hg=>rfl);(case hn=>rfl);(case hr=>first|(go_simp;done)|(go_simp;rfl));intro Qb hw;replace bG:=am (show Kd.R Kd.string 9 Qb w0.heap.size (fun k_=>oki k_∧Q k_) _ _ from by rw [hw];exact Kd.qC (p:=⟨g,(x5:Int).toNat * 6+1,none⟩) bG.o (fun k_ q_=>HG.o k_ q_.1) _);replace HR1:=am (show Kd.R iA 95 Qb w0.heap.size (fun k_=>oki k_∧¬ Q k_) _ _ from by rw [hw];exact Kd.qC (p:=⟨g,(x5:Int).toNat * 6+1,none⟩) HR1.o (fun k_ q_=>HG.o k_ q_.1) _);replace HL:=am (HL.o.put 1 (.string t1) (by decide) rfl hw);clear hw;clear hx hf hz)|(go_at_call 54;(with_reducible refine (lu.calls k1 (wrap64 ((wrap64 (x1+1))+1)) t2 _ A2.o).mono ?_);rintro e w2a ⟨rfl,hb⟩;replace HL:=am (HL.o.below hb);replace bG:=am (Kd.cu bG.o hb);replace HR1:=am (Kd.cu HR1.o hb);clear hb;obtain ⟨hz,hx,hf⟩:=HL.o.nx 6 2 rfl rfl rfl)|((with_reducible refine oJ (t:=9) (p:=32) rfl ?_);refine pg (t:=9) (p:=32) (v:=?vo2) (w1:=(w2a.setCell ⟨g,(x5:Int).toNat * 6+2,none⟩ (.string t2))) ?hg ?ho ?hn ?hr ?_;(case ho=>rfl);(case hg=>rfl);(case hn=>rfl);(case hr=>first|(go_simp;done)|(go_simp;rfl));intro WV hw;replace bG:=am (show Kd.R Kd.string 9 WV w0.heap.size (fun k_=>oki k_∧Q k_) _ _ from by rw [hw];exact Kd.qC (p:=⟨g,(x5:Int).toNat * 6+2,none⟩) bG.o (fun k_ q_=>HG.o k_ q_.1) _);replace HR1:=am (show Kd.R iA 95 WV w0.heap.size (fun k_=>oki k_∧¬ Q k_) _ _ from by rw [hw];exact Kd.qC (p:=⟨g,(x5:Int).toNat * 6+2,none⟩) HR1.o (fun k_ q_=>HG.o k_ q_.1) _);replace HL:=am (HL.o.put 2 (.string t2) (by decide) rfl hw);clear hw;clear hx hf hz;obtain ⟨hz,hx,hf⟩:=HL.o.nx 6 3 rfl rfl rfl)|((with_reducible refine oJ (t:=2) (p:=39) rfl ?_);refine pg (t:=2) (p:=39) (v:=?vo3) (w1:=(WV.setCell ⟨g,(x5:Int).toNat * 6+3,none⟩ (.int .i64 (wrap64 ((wrap64 ((wrap64 (x1+1))+1))+1))))) ?hg ?ho ?hn ?hr ?_;(case ho=>rfl);(case hg=>rfl);(case hn=>rfl);(case hr=>first|(go_simp;done)|(go_simp;rfl));intro w3b hw;replace bG:=am (show Kd.R Kd.string 9 w3b w0.heap.size (fun k_=>oki k_∧Q k_) _ _ from by rw [hw];exact Kd.qC (p:=⟨g,(x5:Int).toNat * 6+3,none⟩) bG.o (fun k_ q_=>HG.o k_ q_.1) _);replace HR1:=am (show Kd.R iA 95 w3b w0.heap.size (fun k_=>oki k_∧¬ Q k_) _ _ from by rw [hw];exact Kd.qC (p:=⟨g,(x5:Int).toNat * 6+3,none⟩) HR1.o (fun k_ q_=>HG.o k_ q_.1) _);replace HL:=am (HL.o.put 3 (.int .i64 (wrap64 ((wrap64 ((wrap64 (x1+1))+1))+1))) (by decide) rfl hw);clear hw;clear hx hf hz;obtain ⟨hz,hx,hf⟩:=HL.o.nx 6 4 rfl rfl rfl)|((go_at_call 55;(refine (tY.calls k1 (fun k_=>oki k_∧Q k_) (.slice Jw (aG x0 x5).f4.length Sz) (aG x0 x5).f4 (wrap64 ((wrap64 ((wrap64 ((wrap64 (x1+1))+1))+1))+1)) s0 q0 w0 _ HL.o.hB bG.o QT.o).mono ?_);rintro e uj ⟨rfl,hR2,hb2,hk2⟩);replace HR1:=am (Kd.EH (Kd.dE (Kd.rV HR1.o) (fun _ q_=>And.intro q_.1 q_.2.2.1)) hk2 (fun _ p_ s_=>p_.1.2 s_.2));replace HL:=am (HL.o.call ⟨hk2.1,fun i hi hn=>hk2.2 i hi (fun s_=>hn s_.1)⟩ hb2);clear bG;have bG:=am hR2;clear hR2 hk2 hb2;clear hx hf hz;obtain ⟨hz,hx,hf⟩:=HL.o.nx 6 5 rfl rfl rfl)|((go_at_call 56;(refine (wK.calls k1 _ (.slice A91 (aG x0 x5).f5.length c91) (aG x0 x5).f5 s0 s1 q1 w0 _ HL.o.hB HR1.o AI1.o).mono ?_);rintro e CJ ⟨rfl,hR2,hb2,hk2⟩);replace bG:=am (Kd.EH bG.o hk2 (fun _ p_ s_=>p_.elim (fun a=>s_.1.2 a.2) (fun a=>Nat.not_lt.2 a s_.2)));replace HL:=am (HL.o.call ⟨hk2.1,fun i hi hn=>hk2.2 i hi (fun s_=>hn (.inl s_.1.1))⟩ hb2);clear HR1;have HR1:=am hR2;clear hR2 hk2 hb2;clear hx hf hz))
    go_roundg k1
    case measure=>have:=aQ.o;omega
    case rel=>exact ⟨_,_,_,rfl,rfl,H',⟨by have:=aQ.o;omega⟩,⟨HL.o.R4 (⟨x1,t1,t2,wrap64 ((wrap64 ((wrap64 (x1+1))+1))+1),q0,q1⟩:eT) (afM _ _ _ _ (Kd.dE bG.o (fun _ q_=>.inl (q_.elim (fun a=>.inl a.1) .inr))) (Kd.dE HR1.o (fun _ q_=>q_.elim (fun a=>.inl (.inl a.1.1)) .inr)))⟩,⟨HL.o.hK⟩,⟨HL.o.hB⟩⟩
   ·intro c3 H;obtain ⟨rfl,rfl⟩:=Prod.mk.inj (Option.some.inj H);obtain ⟨Ao,co,eo⟩:=Kd.ji HO.o;subst eo
    go_wp2
    go_ret
    exact ⟨rfl,HO.o,HB.o,HK.o⟩
theorem ayr.calls (k:Nat)(eQ:Nat→Prop)(ag aj:ByteArray)(ak:Int)(je:Value)(l0:List eT)(a1 r1:Int)(r2:List eT)(w0 w:World)(hB:Below w0.heap.size w0 w)(ho0:Kd.S jG 45 w w0.heap.size eQ je l0)(h:vJ.f k l0 a1=some (r1,r2)) :
  Calls Tryz.prog 13 #[.agg #[.string ag,.string aj,.int .i64 ak,je],.int .i64 a1] w fun e w'=>e=.returned (.int .i64 r1)∧Kd.S jG 45 w' w0.heap.size (fun k_=>(eQ k_∨w.heap.size≤k_)) je r2∧Below w0.heap.size w0 w'∧Kept w w' (fun k_=>eQ k_):=by
 have hu:=Tryz.underlying29;have HW:=am hB;have HB:=am (Below.refl w.heap.size w);have H:=am h;clear hB h;have HP:=am (Kd.eF (ok':=fun k_=>eQ k_∧k_<w.heap.size) (Kd.pQ ho0) (fun _ q=>⟨q.1,q.2.2.1⟩));obtain ⟨A,c,e⟩:=Kd.ji ho0;subst e;clear ho0
 go_in
 go_wp2_with (first|((with_reducible refine aJ (N:=2) rfl ?_);refine bx 2 (cs:=#[.string ag,.string aj,.int .i64 ak,.slice A l0.length c]) (t:=29) ?_;intro g hg wa hbox hb;have B:=am hbox;replace HP:=am (Kd.l6 HP.o hb);have HW2:=am (gP HW.o hb);have HK:=am (Kept.of_below hb (fun k_=>eQ k_));clear hb hbox hg HB;have z1:=aX B)|(go_at_call 28;refine (vJ.calls k (fun k_=>eQ k_∧k_<w.heap.size) (.slice A l0.length c) l0 a1 r1 r2 w0 _ HW2.o HP.o H.o).mono ?_;rintro e wb ⟨rfl,ho,hb,hk⟩;clear z1 B;have HO:=am ho;have HQ:=am hb;have HZ:=am (show w.heap.size≤wa.heap.size from HK.o.1);replace HK:=am (HK.o.P9 hk (fun _ q=>.inl q.1));clear ho hb hk))
 go_ret
 exact ⟨rfl,Kd.eF HO.o (fun _ q=>q.elim (fun a=>.inl a.1) (fun a=>.inr (Nat.le_trans HZ.o a))),HQ.o,HK.o⟩
theorem wJ.calls (k:Nat)(eQ:Nat→Prop)(je:Value)(l0:List bN)(a1 r1:Int)(r2:List bN)(w0 w:World)(hB:Below w0.heap.size w0 w)(ho0:Kd.S jO 97 w w0.heap.size eQ je l0)(h:wJ.f k l0 a1=some (r1,r2)) :
  Calls Tryz.prog 129 #[je,.int .i64 a1] w fun e w'=>e=.returned (.int .i64 r1)∧Kd.S jO 97 w' w0.heap.size (fun k_=>(eQ k_∨w.heap.size≤k_)) je r2∧Below w0.heap.size w0 w'∧Kept w w' (fun k_=>eQ k_):=by
 have HO:=am (show Kd.S jO 97 w w0.heap.size (fun k_=>(eQ k_∨w.heap.size≤k_)) je l0 from Kd.eF ho0 (fun _ hk=>(.inl hk)));have HK:=am (Kept.refl w (fun k_=>eQ k_));have HB:=am hB;have H':=am (show wJ.l0 k l0 a1 0=some (r1,r2) from h);clear hB h
 go_in
 go_wp2
 go_loopg [1,5] k (fun kq v1 v5 w'=>∃ (x0:List bN) (x1:Int) (x5:Int),v1=.int .i64 x1∧v5=.int .i64 x5∧af (wJ.l0 kq x0 x1 x5=some (r1,r2))∧af (kq≤k)∧af (Kd.S jO 97 w' w0.heap.size (fun k_=>(eQ k_∨w.heap.size≤k_)) je x0)∧af (Kept w w' (fun k_=>eQ k_))∧af (Below w0.heap.size w0 w'))
 case atStart=>exact ⟨l0,a1,0,rfl,rfl,H',⟨Nat.le_refl _⟩,HO,HK,HB⟩
 case round =>
  clear H';obtain ⟨x0,x1,x5,rfl,rfl,HA,aQ,HO,HK,HB⟩:=hrel
  cases gk with
  | zero=>exact absurd HA.o (by simp [wJ.l0])
  | succ k1 =>
   have H:=HA.o;clear HA;simp only [wJ.l0] at H
   by_cases c3:x5<(x0.length:Int)
   ·rw [if_pos c3] at H;have aY:decide (x5<(x0.length:Int))=true:=decide_eq_true c3
    revert H;refine qO ?_
    intro c5 ja H;obtain ⟨⟨s2,q2⟩,A8,H⟩:=Option.bind_eq_some_iff.mp H;replace A8:=am A8;have H':=am H;clear H;obtain ⟨g,cap,oki,c,eo,hM,hG,hL⟩:=UY z97 x5 HO.o HB.o HK.o c5 c3;subst eo;replace hM:=(show Kd.M jO _ _ oki (aK x0 x5) c from hM);obtain ⟨v9,e9,hR⟩:=ayf hM;subst e9;obtain ⟨A9,c9,e9⟩:=Kd.gW hR;subst e9;have HL:=am hL;have HG:=am hG;have HR:=am hR;clear hL hM hG hR HO HK HB;replace c3:=eq_true c3;replace c5:=eq_true c5;obtain ⟨hx,hf⟩:=HL.o.nz 1 rfl rfl;rw [Nat.mul_one] at hx hf
    go_wp2_with (first|((go_at_call 55;(refine (tY.calls k1 oki (.slice A9 (aK x0 x5).f0.length c9) (aK x0 x5).f0 x1 s2 q2 w0 _ HL.o.hB HR.o A8.o).mono ?_);rintro e uj ⟨rfl,hR2,hb2,hk2⟩);replace HL:=am (HL.o.call hk2 hb2);have HR2:=am hR2;clear HR hR2 hk2 hb2 hx hf))
    go_roundg k1
    case measure=>have:=aQ.o;omega
    case rel=>exact ⟨_,_,_,rfl,rfl,H',⟨by have:=aQ.o;omega⟩,⟨HL.o.R4 (⟨q2⟩:bN) (afP _ _ _ (⟨q2⟩:bN) HR2.o)⟩,⟨HL.o.hK⟩,⟨HL.o.hB⟩⟩
   ·rw [if_neg c3] at H;have aY:decide (x5<(x0.length:Int))=false:=decide_eq_false c3;clear c3;obtain ⟨rfl,rfl⟩:=Prod.mk.inj (Option.some.inj H);obtain ⟨Ao,co,eo⟩:=Kd.ji HO.o;subst eo
    go_wp2
    go_ret
    exact ⟨rfl,HO.o,HB.o,HK.o⟩
theorem wM.calls (k:Nat)(eQ:Nat→Prop)(je:Value)(l0:List bn)(a1 r1:Int)(r2:List bn)(w0 w:World)(hB:Below w0.heap.size w0 w)(ho0:Kd.S oO 62 w w0.heap.size eQ je l0)(h:wM.f k l0 a1=some (r1,r2)) :
  Calls Tryz.prog 102 #[je,.int .i64 a1] w fun e w'=>e=.returned (.int .i64 r1)∧Kd.S oO 62 w' w0.heap.size (fun k_=>(eQ k_∨w.heap.size≤k_)) je r2∧Below w0.heap.size w0 w'∧Kept w w' (fun k_=>eQ k_):=by
 have HO:=am (show Kd.S oO 62 w w0.heap.size (fun k_=>(eQ k_∨w.heap.size≤k_)) je l0 from Kd.eF ho0 (fun _ hk=>(.inl hk)));have HK:=am (Kept.refl w (fun k_=>eQ k_));have HB:=am hB;have H':=am (show wM.l0 k l0 a1 0=some (r1,r2) from h);clear hB h
 go_in
 go_wp2
 go_loopg [1,5] k (fun kq v1 v5 w'=>∃ (x0:List bn) (x1:Int) (x5:Int),v1=.int .i64 x1∧v5=.int .i64 x5∧af (wM.l0 kq x0 x1 x5=some (r1,r2))∧af (kq≤k)∧af (Kd.S oO 62 w' w0.heap.size (fun k_=>(eQ k_∨w.heap.size≤k_)) je x0)∧af (Kept w w' (fun k_=>eQ k_))∧af (Below w0.heap.size w0 w'))
 case atStart=>exact ⟨l0,a1,0,rfl,rfl,H',⟨Nat.le_refl _⟩,HO,HK,HB⟩
 case round =>
  clear H';obtain ⟨x0,x1,x5,rfl,rfl,HA,aQ,HO,HK,HB⟩:=hrel
  cases gk with
  | zero=>exact absurd HA.o (by simp [wM.l0])
  | succ k1 =>
   have H:=HA.o;clear HA;simp only [wM.l0] at H
   by_cases c3:x5<(x0.length:Int)
   ·rw [if_pos c3] at H;have aY:decide (x5<(x0.length:Int))=true:=decide_eq_true c3;obtain ⟨t0,A0,H⟩:=Option.bind_eq_some_iff.mp H;replace A0:=am A0
    revert H;refine qO ?_
    intro c5 ja H;obtain ⟨⟨s2,q2⟩,A8,H⟩:=Option.bind_eq_some_iff.mp H;replace A8:=am A8;have H':=am H;clear H;obtain ⟨g,cap,oki,c,eo,hM,hG,hL⟩:=UY z62 x5 HO.o HB.o HK.o c5 c3;subst eo;replace hM:=(show Kd.M oO _ _ oki (av x0 x5) c from hM);obtain ⟨v9,e9,hR⟩:=id hM;subst e9;obtain ⟨A9,c9,e9⟩:=Kd.ji hR;subst e9;have HL:=am hL;have HG:=am hG;have HR:=am hR;clear hL hM hG hR HO HK HB;replace c3:=eq_true c3;replace c5:=eq_true c5
    go_wp2_with (first|(go_at_call 54;refine (lu.calls k1 x1 t0 _ A0.o).mono ?_;rintro e wta ⟨rfl,hb⟩;replace HL:=am (HL.o.below hb);replace HR:=am (Kd.l6 HR.o hb);clear hb;obtain ⟨hx,hf⟩:=HL.o.nz 2 rfl rfl)|((with_reducible refine oJ (t:=9) (p:=17) rfl ?_);refine pg (t:=9) (p:=17) (v:=?vo0) (w1:=(wta.setCell ⟨g,(x5:Int).toNat * 2,none⟩ (.string t0))) ?hg ?ho ?hn ?hr ?_;(case ho=>rfl);(case hg=>rfl);(case hn=>rfl);(case hr=>first|(go_simp;done)|(go_simp;rfl));intro wtb hw;replace HR:=am (show Kd.S jO 97 wtb w0.heap.size oki _ _ from by rw [hw];exact Kd.jv (p:=⟨g,(x5:Int).toNat * 2,none⟩) HR.o (fun k_ q_=>HG.o k_ q_) _);replace HL:=am (HL.o.put 0 (.string t0) (by decide) rfl hw);clear hw hx hf;obtain ⟨hz,hx,hf⟩:=HL.o.nx 2 1 rfl rfl rfl)|((go_at_call 129;(refine (wJ.calls k1 oki (.slice A9 (av x0 x5).f1.length c9) (av x0 x5).f1 (wrap64 (x1+1)) s2 q2 w0 _ HL.o.hB HR.o A8.o).mono ?_);rintro e uj ⟨rfl,hR2,hb2,hk2⟩);replace HL:=am (HL.o.call hk2 hb2);have HR2:=am hR2;clear HR hR2 hk2 hb2 hx hf hz))
    go_roundg k1
    case measure=>have:=aQ.o;omega
    case rel=>exact ⟨_,_,_,rfl,rfl,H',⟨by have:=aQ.o;omega⟩,⟨HL.o.R4 (⟨t0,q2⟩:bn) ⟨_,rfl,HR2.o⟩⟩,⟨HL.o.hK⟩,⟨HL.o.hB⟩⟩
   ·rw [if_neg c3] at H;have aY:decide (x5<(x0.length:Int))=false:=decide_eq_false c3;clear c3;obtain ⟨rfl,rfl⟩:=Prod.mk.inj (Option.some.inj H);obtain ⟨Ao,co,eo⟩:=Kd.ji HO.o;subst eo
    go_wp2
    go_ret
    exact ⟨rfl,HO.o,HB.o,HK.o⟩
end Go.Proofs.YtapilmimgiaglaaGreatDoor.QX
