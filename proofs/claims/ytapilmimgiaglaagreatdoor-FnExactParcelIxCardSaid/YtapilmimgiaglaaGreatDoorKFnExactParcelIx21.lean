import Derived.Test.YtapilmimgiaglaaGreatDoorKFnExactParcelIx20
set_option maxHeartbeats 8000000
set_option maxRecDepth 100000
set_option linter.unusedSimpArgs false
set_option linter.unusedVariables false
namespace Go.Proofs.YtapilmimgiaglaaGreatDoor.QX
open Go.RowKit Go.Proofs.bB.eH Go.Proofs.bB.PrintLast Go.Proofs.bB.PrintMore
attribute [local go_sem] oU o5 oZ o8 oW o7 oV o6
theorem Pf.calls (k:Nat)(ag:Int)(aj ak:ByteArray)(aM:Int)(dB:Option Addr)(dx:Nat)(az:List ByteArray)(dJ:Option Addr)(df:Nat)(ah:List aZ)(r:Bool)(w:World)(lm:Kd.C Kd.string w dB az.length az)(kY:az.length≤dx)(lq:Kd.C iA w dJ ah.length ah)(kZ:ah.length≤df)(hTC:zS w)(hTF:uz w)(hTP:vW w)(H:Pf.f k ag aj ak aM az ah=some r) :
  Calls Tryz.prog 22 #[.agg #[.int .i64 ag,.string aj,.string ak,.int .i64 aM,.slice dB az.length dx,.slice dJ ah.length df]] w fun e w'=>e=.returned (.bool r)∧Below w.heap.size w w':=by
 have HTC:=am hTC;clear hTC;have HTF:=am hTF;clear hTF;have HTP:=am hTP;clear hTP
 have xq:=Tryz.underlying45;have oI:=am lm;have rR:=am kY;clear lm kY;have ni:=am lq;have qW:=am kZ;clear lq kZ;have HB:=am (Below.refl w.heap.size w);unfold Pf.f at H;replace H:=bo H;obtain ⟨t7,A2,H⟩:=H;obtain rfl:=si H
 go_in
 go_wp2_with (first|((with_reducible refine aJ (N:=1) rfl ?_);refine bz 1 (cs:=#[.int .i64 ag,.string aj,.string ak,.int .i64 aM,.slice dB az.length dx,.slice dJ ah.length df]) (t:=45) HB ?_;clear HB;intro tQ hg w3 kL GW6 hb HB;clear hb hg;have TB:w3.cell? ⟨tQ,0,none⟩=some (.int .i64 ag):=(aA kL.o 0).trans rfl;have TC:w3.cell? ⟨tQ,1,none⟩=some (.string aj):=(aA kL.o 1).trans rfl;have aef:w3.cell? ⟨tQ,2,none⟩=some (.string ak):=(aA kL.o 2).trans rfl;have akF:w3.cell? ⟨tQ,3,none⟩=some (.int .i64 aM):=(aA kL.o 3).trans rfl;have av2:w3.cell? ⟨tQ,4,none⟩=some (.slice dB az.length dx):=(aA kL.o 4).trans rfl;have av3:w3.cell? ⟨tQ,5,none⟩=some (.slice dJ ah.length df):=(aA kL.o 5).trans rfl;have TE:=bu kL.o 0;have TF:=bu kL.o 1;have aeh:=bu kL.o 2;have akI:=bu kL.o 3;have awx:=bu kL.o 4;have awy:=bu kL.o 5)|((go_at_call 23;refine (kD.calls k ag aj ak aM _ _ az _ _ ah t7 _ (Kd.bi oI.o (bs HB)) rR.o (Kd.bi ni.o (bs HB)) qW.o (zM HTC (bs HB)) (uQ HTF (bs HB)) (pq HTP (bs HB)) A2.o).mono ?_;rintro e w5 ⟨rfl,hb⟩);replace kL:=bb kL hb;replace HB:=bq HB hb;(try clear hb)))
 go_ret
 exact ⟨ff,bs HB⟩
theorem xC.calls (k:Nat)(A0:Option Addr)(c0:Nat)(l0:List eT)  (r:Int) (w:World) (hr0:Kd.C jG w A0 l0.length l0) (hc0:l0.length≤c0) (hTC:zS w) (hTF:uz w) (hTP:vW w) (H:xC.f k l0=some r) :
  Calls Tryz.prog 40 #[.slice A0 l0.length c0,.func (.func 22) #[] #[]] w fun e w'=>e=.returned (.int .i64 r)∧Below w.heap.size w w':=by
 have HTC:=am hTC;clear hTC;have HTF:=am hTF;clear hTF;have HTP:=am hTP;clear hTP
 have xq:=Tryz.underlying45;have bG:=am hr0;have jC:=am hc0;clear hr0 hc0;have HB:=am (Below.refl w.heap.size w);unfold xC.f at H;have H':=am H;clear H
 go_in
 go_wp2
 go_loopg [8] k (fun kq v8 w'=>∃ (aD:Int),v8=.int .i64 aD∧af (xC.l0 kq l0 (l0.length:Int) aD=some r)∧af (kq≤k)∧af (Below w.heap.size w w'))
 case atStart=>exact ⟨(0),fg,H',⟨Nat.le_refl _⟩,⟨bs HB⟩⟩
 case round =>
  clear H'
  obtain ⟨aD,rfl,HA,aQ,HB⟩:=hrel
  cases gk with
  | zero=>exact absurd HA.o (by simp [xC.l0])
  | succ k1 =>
   have H:=HA.o;clear HA;simp only [xC.l0] at H
   revert H;refine bK ?_ ?_
   ·intro aY H
    revert H;refine bv ?_
    intro dF H
    revert H;refine bv ?_
    intro ja H;replace H:=bo H;obtain ⟨rG,A6,H⟩:=H;obtain ⟨p9,q9,xe,ao9,auf,apa,aug,e9,l8,nP,yB,Cr,Cs,V4,UC,Uc,UD,Ud⟩:=wi (EL bG.o aD)
    cases e9
    replace l8:=cb HB l8;replace nP:=cb HB nP;replace yB:=cb HB yB;replace Cr:=cb HB Cr;replace Cs:=cb HB Cs;replace V4:=cb HB V4;have acA:=am Uc;have ace:=am UC;clear Uc UC;have acB:=am Ud;have acf:=am UD;clear Ud UD
    try go_wp2_with (fail)
    go_at_call 22;refine (Pf.calls k1 ((aG l0 aD).f0) ((aG l0 aD).f1) ((aG l0 aD).f2) ((aG l0 aD).f3) _ _ ((aG l0 aD).f4) _ _ ((aG l0 aD).f5) rG _ (Kd.bi acA.o (bs HB)) ace.o (Kd.bi acB.o (bs HB)) acf.o (zM HTC (bs HB)) (uQ HTF (bs HB)) (pq HTP (bs HB)) A6.o).mono ?_;rintro e w7 ⟨rfl,hb⟩;replace HB:=bq HB hb;(try clear hb)
    obtain rfl|rfl:=bt rG
    ·replace H:=dm H;obtain rfl:=si H
     go_wp2
     go_ret
     exact ⟨ff,bs HB⟩
    ·replace H:=di H;have H':=am H;clear H
     go_wp2
     go_roundg k1
     case measure=>have:=aQ.o;omega
     case rel=>exact ⟨(wrap64 (aD+1)),fg,H',⟨by have:=aQ.o;omega⟩,⟨bs HB⟩⟩
   ·intro aY H;obtain rfl:=si H
    go_wp2
    go_ret
    exact ⟨ff,bs HB⟩
theorem Pe.calls (k:Nat)(A0:Option Addr)(c0:Nat)(l0:List eT)  (r:Bool) (w:World) (hr0:Kd.C jG w A0 l0.length l0) (hc0:l0.length≤c0) (hTC:zS w) (hTF:uz w) (hTP:vW w) (H:Pe.f k l0=some r) :
  Calls Tryz.prog 21 #[.slice A0 l0.length c0,.func (.func 22) #[] #[]] w fun e w'=>e=.returned (.bool r)∧Below w.heap.size w w':=by
 have HTC:=am hTC;clear hTC;have HTF:=am hTF;clear hTF;have HTP:=am hTP;clear hTP
 have bG:=am hr0;have jC:=am hc0;clear hr0 hc0;have HB:=am (Below.refl w.heap.size w);unfold Pe.f at H;replace H:=bo H;obtain ⟨t5,A3,H⟩:=H;obtain rfl:=si H
 go_in
 go_wp2_with (first|((go_at_call 40;refine (xC.calls k _ _ l0  t5 _ ?aR jC.o (zM HTC (bs HB)) (uQ HTF (bs HB)) (pq HTP (bs HB)) A3.o).mono ?_;(case aR=>exact sd bG.o);rintro e w4 ⟨rfl,hb⟩);replace HB:=bq HB hb;(try clear hb)))
 go_ret
 exact ⟨ff,bs HB⟩
def Lg.T:Bool × List (List Nat × List Nat):=(true,[([],[]),([0],[0]),([1],[1]),([2],[2]),([3,2],[2,3]),([2],[2]),([5,2],[2,5]),([2],[2]),([7,2],[2,7]),([6,8,2],[2,6,8]),([9,2],[2,9]),([10,2],[2,10]),([4,11,2],[2,4,11]),([2,12],[2,12])])
def Lg.B:List Nat:=[0,1,3,7,15,7,39,7,135,487,999,2023,4095,8191]
def aar.T:Bool × List (List Nat × List Nat):=(true,[([],[]),([],[]),([1],[1]),([2],[2]),([3],[3]),([],[]),([5],[5]),([],[]),([7],[7]),([6,8],[6,8]),([9],[9]),([4,10,8],[4,10]),([0,0,1,2,3,4,5,6,7,8,9,10,11],[0]),([12,0,1,2,3,4,5,6,7,8,9,10,11],[12]),([13,11,11,0,1,2,3,4,5,6,7,8,9,10,11],[11,13])])
def aar.B:List Nat:=[0,0,2,6,14,0,32,0,128,480,992,2046,1,4097,16383]
theorem jm.Dr (k:Nat)(ag aj:ByteArray)(ak:Int)(dZ:Option Addr)(dW:Nat)(au:List eT)(r1 r2:ByteArray)(r3:Int)(r4:List dR)(w:World)(jl:Kd.C jG w dZ au.length au)(jk:au.length≤dW)(hTF:uz w)(H:jm.f k ag aj ak au=some (r1,r2,r3,r4)) :
  Calls Tryz.prog 25 #[.agg #[.string ag,.string aj,.int .i64 ak,.slice dZ au.length dW]] w fun e w'=>∃ tq:Value,e=.returned (.agg #[.string r1,.string r2,.int .i64 r3,tq])∧Kd.S oP 71 w' w.heap.size (fun k_=>(w.heap.size≤k_)) tq r4∧Below w.heap.size w w':=by
 have hu0:=Tryz.underlying29;have hu1:=Tryz.underlying35;have hu2:=Tryz.underlying45;have hu3:=Tryz.underlying71;have hu4:=Tryz.underlying73;have hu5:=Tryz.underlying33;have hu6:=Tryz.underlying69;have hu7:=Tryz.underlying27;have hbo:=@gZ.calls;clear hbo;have HTF:=af.mk hTF;have HR:=af.mk jl;have HC:=af.mk jk;clear hTF jl jk;have HB:=af.mk (Below.refl w.heap.size w);unfold jm.f at H;replace H:=bo H;obtain ⟨rl,A1,H⟩:=H;obtain ⟨rfl,rfl,rfl,rfl⟩:=F3 H;clear H
 go_enter Tryz.func25,Tryz.ntmps25
 go_wp2_with (first|((with_reducible refine aJ (N:=1) rfl ?_);refine bx 1 (cs:=#[.string ag,.string aj,.int .i64 ak,.slice dZ au.length dW]) (t:=29) ?_;intro g1 hg wa hbox hb;have B1:=af.mk hbox;replace HB:=af.mk (gP (bs HB) hb);clear hb hbox hg)|((with_reducible refine aJ (N:=2) rfl ?_);refine bx 2 (cs:=#[.string (⟨#[]⟩:ByteArray),.string (⟨#[]⟩:ByteArray),.int .i64 0,.slice none 0 0]) (t:=35) ?_;intro g2 hg wb hbox hb;have B2:=af.mk hbox;have E2:=af.mk (gs hg (bs HB));replace HB:=af.mk (gP (bs HB) hb);replace B1:=af.mk (aU (ks B1) hb);clear hb hbox hg;have z1:=aX B1)|((with_reducible refine aJ (N:=3) rfl ?_);refine bx 3 (cs:=#[.string (⟨#[]⟩:ByteArray),.string (⟨#[]⟩:ByteArray),.int .i64 0,.slice none 0 0]) (t:=35) ?_;intro g3 hg wc hbox hb;have B3:=af.mk hbox;have E3:=af.mk (gs hg (bs HB));have Rv:=af.mk (gn hg (ks B1));have JK:=af.mk (gn hg (ks B2));replace HB:=af.mk (gP (bs HB) hb);replace B1:=af.mk (aU (ks B1) hb);replace B2:=af.mk (aU (ks B2) hb);clear hb hbox hg z1;have z1:=aX B1;have z3:=aX B3)|((with_reducible refine oJ (t:=35) (p:=3) rfl ?_);refine pg (t:=35) (p:=3) (v:=?vo3) (w1:=((((wc.setCell ⟨g3,0,none⟩ (.string ag)).setCell ⟨g3,1,none⟩ (.string aj)).setCell ⟨g3,2,none⟩ (.int .i64 ak)).setCell ⟨g3,3,none⟩ (.slice none 0 0))) ?hg ?ho ?hn ?hr ?_;(case ho=>rfl);(case hg=>rfl);(case hn=>rfl);(case hr=>first|(go_simp;done)|(go_simp;rfl));intro wd hw;clear z1 z3;obtain ⟨hx,hk,hB⟩:=NU B3.o hw;clear hw;replace HB:=af.mk (hB _ HB.o E3.o);replace B1:=af.mk (nC B1.o hk (fun e_=>Rv.o e_));replace B2:=af.mk (nC B2.o hk (fun e_=>JK.o e_));replace B3:=af.mk hx;clear hx hk hB;have z1:=aX B1;have z3:=aX B3))
 obtain ⟨s0,es⟩:∃ s,s=wd.heap.size:=⟨_,rfl⟩;have D1:=af.mk (show g1<s0 from by rw [es];exact pR B1.o);have D2:=af.mk (show g2<s0 from by rw [es];exact pR B2.o);have D3:=af.mk (show g3<s0 from by rw [es];exact pR B3.o);have S0:=af.mk (show w.heap.size≤s0 from by rw [es];exact HB.o.size);have T0:=af.mk (show s0≤wd.heap.size from by rw [es];exact Nat.le_refl _);clear es
 go_loopg [17] k (fun kq v17 w'=>∃ (i:Int) (l:List dR) (Al:Option Addr) (cl:Nat),v17=.int .i64 i∧af (jm.l0 kq au i l=some rl)∧af (kq≤k)∧af (Kd.S oP 71 w' w.heap.size (fun k_=>s0≤k_) (.slice Al l.length cl) l)∧af (w'.heap[g1]? = some (.cells #[.string ag,.string aj,.int .i64 ak,.slice dZ au.length dW] 29 (0,0)))∧af (w'.heap[g2]? = some (.cells #[.string (⟨#[]⟩:ByteArray),.string (⟨#[]⟩:ByteArray),.int .i64 0,.slice none 0 0] 35 (0,0)))∧af (w'.heap[g3]? = some (.cells #[.string ag,.string aj,.int .i64 ak,.slice Al l.length cl] 35 (0,0)))∧af (s0≤w'.heap.size)∧af (Below w.heap.size w w'))
 case atStart=>exact ⟨0,[],none,0,rfl,A1,⟨Nat.le_refl _⟩,⟨Kd.rX _ _ _ _ _⟩,B1,B2,B3,T0,HB⟩
 case round =>
  clear A1 B1 B2 B3 T0 HB;(try clear z1);(try clear z3);obtain ⟨i,l,Al,cl,rfl,HA,aQ,Y,B1,B2,B3,T0,HB⟩:=hrel
  cases gk with
  | zero=>exact absurd HA.o (by simp [jm.l0])
  | succ k1 =>
   have H:=HA.o;clear HA;simp only [jm.l0] at H
   revert H;refine bK ?_ ?_
   ·intro c9 H;revert H;refine bv ?_;intro c10 H;revert H;refine ku ?_;intro c11 H;have LX:=af.mk c11;clear c11;replace H:=bo H;obtain ⟨lc,A7,H⟩:=H;have H':=af.mk H;clear H;have pi:=af.mk (show 0≤(i:Int) from oa);have qi:=af.mk (show i<(au.length:Int) from oa);obtain ⟨p1,q1,ad,QR,Sr,QS,Sv,ea,j0,j1,j2,j3,j4,j5,hl4,hi4,hl5,hi5⟩:=wi (EL HR.o i);cases ea;have HE4:=af.mk hi4;have HL4:=af.mk hl4;have HE5:=af.mk hi5;have HL5:=af.mk hl5;clear hi4 hl4 hi5 hl5;replace j0:=cb HB j0;replace j1:=cb HB j1;replace j2:=cb HB j2;replace j3:=cb HB j3;replace j4:=cb HB j4;replace j5:=cb HB j5
    go_upto_region 5 with (first|((with_reducible refine aJ (N:=5) rfl ?_);refine bx 5 (cs:=#[.int .i64 0,.string (⟨#[]⟩:ByteArray),.string (⟨#[]⟩:ByteArray),.int .i64 0,.slice none 0 0,.slice none 0 0]) (t:=45) ?_;intro g5 hg we hbox hb;have F5:=af.mk (show s0≤g5 from by rw [hg];exact T0.o);replace Y:=af.mk (Kd.l6 (Kd.eF (ok':=fun k_=>s0≤k_∧k_≠g5) (Kd.pQ Y.o) (fun k_ q=>⟨q.1,by have:=q.2.2.1;omega⟩)) hb);have B5:=af.mk hbox;have E5:=af.mk (gs hg (bs HB));replace B1:=af.mk (aU (ks B1) hb);replace B2:=af.mk (aU (ks B2) hb);replace B3:=af.mk (aU (ks B3) hb);replace T0:=af.mk (Nat.le_trans T0.o hb.size);replace HB:=af.mk (gP (bs HB) hb);clear hb hbox hg j0 j1 j2 j3 j4 j5;have z5:=dO B5)|((with_reducible refine oJ (t:=45) (p:=5) rfl ?_);refine pg (t:=45) (p:=5) (v:=?vo5) (w1:=((((((we.setCell ⟨g5,0,none⟩ (.int .i64 (aG au i).f0)).setCell ⟨g5,1,none⟩ (.string (aG au i).f1)).setCell ⟨g5,2,none⟩ (.string (aG au i).f2)).setCell ⟨g5,3,none⟩ (.int .i64 (aG au i).f3)).setCell ⟨g5,4,none⟩ (.slice QR (aG au i).f4.length Sr)).setCell ⟨g5,5,none⟩ (.slice QS (aG au i).f5.length Sv))) ?hg ?ho ?hn ?hr ?_;(case ho=>rfl);(case hg=>rfl);(case hn=>rfl);(case hr=>first|(go_simp;done)|(go_simp;rfl));intro wf hw;clear z5;obtain ⟨hx,hk,hB⟩:=atm B5.o hw;clear hw;replace HB:=af.mk (hB _ HB.o E5.o);replace Y:=af.mk (Kd.GN Y.o hk (fun k_ q e_=>q.2 e_));replace B1:=af.mk (nC B1.o hk (fun e_=>by have:=D1.o;have:=F5.o;omega));replace B2:=af.mk (nC B2.o hk (fun e_=>by have:=D2.o;have:=F5.o;omega));replace B3:=af.mk (nC B3.o hk (fun e_=>by have:=D3.o;have:=F5.o;omega));replace B5:=af.mk hx;replace T0:=af.mk (Nat.le_trans T0.o hk.1);clear hx hk hB))
    have Em:=A7.o;clear A7;revert Em;refine bH (fun Y4 Y5 A7=>?_) (fun c0 Y4 Y5 A7=>?_)
    focus
     have A8:=af.mk (show (if true=true then jm.l2 k1 (aG au i) i l else jm.l1 k1 (aG au i) i l)=some lc from A7);clear A7;replace B1:=af.mk (bD B1.o);replace B2:=af.mk (bD B2.o);replace B3:=af.mk (bD B3.o);replace B5:=af.mk (bD B5.o);replace Y:=af.mk (Kd.fU Y.o);replace T0:=af.mk (show s0≤wf.drew.heap.size from T0.o);replace HB:=af.mk (cZ HB.o);refine CE 14 [] (qJ B5 (hb4 B1)) (fun hHeld=>?_);refine fu (show fD .any (opsOf Tryz.f25 5)=Lg.T from by kernel_rfl) (show jg Lg.T.2 Lg.B=true from by kernel_rfl) (fun HT_ HW_=>?_)
     generalize wf.drew=wg at B1 B2 B3 B5 Y T0 HB hHeld ⊢
     refine jo 0 ?_;refine mF 3 ?_;refine jo 11 ?_;refine ek (fo HT_.o (by kernel_rfl)) ?_;clear HT_ HW_ hHeld
    rotate_left
    focus
     clear c0;revert A7;refine bv ?_;intro cj A7;revert A7;refine bv ?_;intro ck A7;obtain ⟨p2,q2,ad2,A4f,c4f,A5f,c5f,eb,y0,_,_,_,_,_,_,_,_,_⟩:=wi (EL HR.o (wrap64 (i - 1)));cases eb;have Y0:=af.mk y0;clear y0;replace B1:=af.mk (bD B1.o);replace B2:=af.mk (bD B2.o);replace B3:=af.mk (bD B3.o);replace B5:=af.mk (bD B5.o);replace Y:=af.mk (Kd.fU Y.o);replace T0:=af.mk (show s0≤wf.drew.heap.size from T0.o);replace HB:=af.mk (cZ HB.o);refine CE 14 [] (qJ B5 (rC B1 (hc (cb HB Y0.o)))) (fun hHeld=>?_);refine fu (show fD .any (opsOf Tryz.f25 5)=Lg.T from by kernel_rfl) (show jg Lg.T.2 Lg.B=true from by kernel_rfl) (fun HT_ HW_=>?_)
     generalize wf.drew=wg at B1 B2 B3 B5 Y T0 HB hHeld ⊢
     revert A7;refine bH (fun Za Zb A7=>?_) (fun c1 Za Zb A7=>?_)
     have A8:=af.mk (show (if false=true then jm.l2 k1 (aG au i) i l else jm.l1 k1 (aG au i) i l)=some lc from A7);clear A7;rotate_left;have A8:=af.mk (show (if true=true then jm.l2 k1 (aG au i) i l else jm.l1 k1 (aG au i) i l)=some lc from A7);clear A7 c1
     all_goals
      refine jV 0 ?_;refine ta 4 ?_;refine bQ 5 ?_;refine ta 6 ?_;refine jV 7 ?_;refine ta 11 ?_;refine jU 12 ?_;refine ek (fo HT_.o (by kernel_rfl)) ?_;clear HT_ HW_ hHeld
    all_goals
     go_upto_if 35 with (fail)
     go_cut [] (fun wx=>∃ (l2:List dR) (A2:Option Addr) (c2:Nat),af (jm.l1 k1 (aG au i) i l2=some lc)∧af (l2.length≤3518437208883)∧af (Kd.S oP 71 wx w.heap.size (fun k_=>s0≤k_∧k_≠g5) (.slice A2 l2.length c2) l2)∧af (wx.heap[g1]? = some (.cells #[.string ag,.string aj,.int .i64 ak,.slice (some ad) au.length dW] 29 (0,0)))∧af (wx.heap[g2]? = some (.cells #[.string (⟨#[]⟩:ByteArray),.string (⟨#[]⟩:ByteArray),.int .i64 0,.slice none 0 0] 35 (0,0)))∧af (wx.heap[g3]? = some (.cells #[.string ag,.string aj,.int .i64 ak,.slice A2 l2.length c2] 35 (0,0)))∧af (wx.heap[g5]? = some (.cells #[.int .i64 (aG au i).f0,.string (aG au i).f1,.string (aG au i).f2,.int .i64 (aG au i).f3,.slice QR (aG au i).f4.length Sr,.slice QS (aG au i).f5.length Sv] 45 (0,0)))∧af (s0≤wx.heap.size)∧af (Below w.heap.size w wx))
     case first =>
      first
      | (have A7:af (jm.l1 k1 (aG au i) i l=some lc):=af.mk (di A8.o);clear A8;go_wp2;go_meet;case rel=>exact ⟨l,Al,cl,A7,⟨by have:=LX.o;omega⟩,Y,B1,B2,B3,B5,T0,HB⟩)
      | (have A7:=af.mk (dm A8.o);clear A8;obtain ⟨xx,hxx⟩:∃ y,y=l++[(⟨(aG au i).f0,wrap64 ((l.length:Int)+1),[]⟩:dR)]:=⟨_,rfl⟩;have A8:=af.mk (show jm.l1 k1 (aG au i) i xx=some lc from by rw [hxx];exact A7.o);have NX:=af.mk hxx;clear hxx A7;have z3:=aX B3;have z5:=dO B5;go_wp2_with (first|((with_reducible refine rY (b:=.append) (xs:=#[.tmp 37,.tmp 45]) rfl ?_);at_builtin;refine Kd.Yv oP (w0:=w) w.heap.size rfl (.tmp 37) (.tmp 45) 33 71 ((.agg #[(.int .i64 0),(.int .i64 0),(.slice none 0 0)])) 40 rfl Tryz.underlying33 am0 rfl (by decide) (by omega) (.slice Al l.length cl) l (⟨(aG au i).f0,wrap64 ((l.length:Int)+1),[]⟩:dR) [.int .i64 ((aG au i).f0),.int .i64 (wrap64 ((l.length:Int)+1)),.slice none 0 0] (fun k_=>s0≤k_∧k_≠g5) (fun _=>False) rfl rfl ⟨_,rfl,Kd.rX _ _ _ _ _⟩ (fun _ h=>h.elim) (fun k_ q_=>⟨Nat.le_trans T0.o q_,fun e_=>by have:=pR B5.o;omega⟩) (Kd.eF Y.o (fun _ q_=>⟨q_,id⟩)) (bs HB) (bJ (bs HB)) (by have:=LX.o;omega) ?_;intro vx wh ho hb hg hat;rw [← NX.o] at ho;obtain ⟨Gs,Hd,e_⟩:=Kd.ji ho;subst e_;clear z3 z5;have hn:∀ q,q<s0→some q≠(Value.slice Al l.length cl).ownBlock:=fun q hq e_=>(by obtain ⟨_,h1,_⟩:=Y.o;have:=(h1 _ e_.symm).1;omega);replace B1:=af.mk (fV (ks B1) hg (hn _ D1.o));replace B2:=af.mk (fV (ks B2) hg (hn _ D2.o));replace B3:=af.mk (fV (ks B3) hg (hn _ D3.o));replace B5:=af.mk (fV (ks B5) hg (fun e_=>by obtain ⟨_,h1,_⟩:=Y.o;exact (h1 _ e_.symm).2 rfl));replace T0:=af.mk (Nat.le_trans T0.o hg.size);replace HB:=af.mk hb;replace Y:=af.mk ho;clear hn ho hb hg hat;have z3:=aX B3));obtain ⟨wl,hw⟩:∃ W,W=wh.setCell ⟨g3,3,none⟩ (.slice Gs xx.length Hd):=⟨_,rfl⟩;rw [← hw];have hk:Kept wh wl (fun k_=>k_=g3):=(by rw [hw];exact Kept.setCell (p:=⟨g3,3,none⟩) (S:=fun k_=>k_=g3) (Kept.refl _ _) (Or.inl rfl) _);replace HB:=af.mk (show Below w.heap.size w wl from by rw [hw];exact eX HB.o E3.o);replace B1:=af.mk (nC B1.o hk (fun e_=>Rv.o e_));replace B2:=af.mk (nC B2.o hk (fun e_=>JK.o e_));replace B5:=af.mk (nC B5.o hk (fun e_=>by have:=D3.o;have:=F5.o;omega));have B3':af (wl.heap[g3]? = some (.cells #[.string ag,.string aj,.int .i64 ak,.slice Gs xx.length Hd] 35 (0,0))):=⟨by rw [hw];exact kp B3⟩;replace T0:=af.mk (Nat.le_trans T0.o hk.1);replace Y:=af.mk (Kd.GN Y.o hk (fun k_ q_ e_=>by have:=D3.o;have:=q_.1;omega));clear hk hw;go_meet;case rel=>exact ⟨xx,Gs,Hd,A8,⟨by have:=LX.o;have e:=congrArg List.length NX.o;simp only [List.length_append,List.length_cons,List.length_nil] at e;omega⟩,Y,B1,B2,B3',B5,T0,HB⟩)
     case rest =>
      clear A8 Y B1 B2 B3 B5 T0 HB;obtain ⟨l2,A2,c2,A7,L2,Y,B1,B2,B3,B5,T0,HB⟩:=hcut;have Em:=A7.o;clear A7;unfold jm.l1 at Em;revert Em;refine ku ?_;rintro ⟨cp,cq⟩ A7;replace A7:=bo A7;obtain ⟨b,Ab,A7⟩:=A7;replace A7:=si A7
      have hw1:wrap64 ((l2.length:Int) - 1)=(l2.length:Int) - 1:=(by have:=L2.o;unfold wrap64;omega);have n0:0≤wrap64 ((l2.length:Int) - 1):=(by rw [hw1];omega);have n1:wrap64 ((l2.length:Int) - 1)<(l2.length:Int):=(by rw [hw1];omega);have eJ:=af.mk (show (wrap64 ((l2.length:Int) - 1)).toNat=l2.length - 1 from by rw [hw1];omega);rw [← hw1] at cq A7;clear hw1
      obtain ⟨gB,cap,eo,hbB,hlB,_,_⟩:=Kd.NN Y.o cp;injection eo with ea_ en_ ec_;subst ea_;subst ec_;clear en_;have EB:=af.mk hbB;have OKB:=af.mk ((Kd.rW Y.o).1 gB rfl)
      obtain ⟨oki,c,_,hM,hcc,_,hoki,hH⟩:=Kd.Ka Y.o z71 (wrap64 ((l2.length:Int) - 1)) n0 n1;replace hM:=(show Kd.M oP _ _ oki (bf l2 (wrap64 ((l2.length:Int) - 1))) c from hM);obtain ⟨x1,hx1⟩:∃ x,x=bf l2 (wrap64 ((l2.length:Int) - 1)):=⟨_,rfl⟩;rw [← hx1] at hM cq A7;clear hx1;have LC:=af.mk A7;have CQ:=af.mk cq;have HOK:=af.mk hoki;clear A7 cq cp hoki
      obtain ⟨vM,ec,hR⟩:=id hM;subst ec;obtain ⟨AM,cM,eM⟩:=Kd.ji hR;subst eM;have HX:=af.mk (show wc.cell? ⟨gB,(wrap64 ((l2.length:Int) - 1)).toNat * 3+2,none⟩=some (.slice AM x1.f2.length cM) from hcc 2 _ rfl);have HH:=af.mk hH;have HRM:=af.mk hR;clear hM hcc hH hR Y;have p3:=eq_true n0;have q3:=eq_true n1;have N0:=af.mk n0;have N1:=af.mk n1;clear n0 n1;have z3:=aX B3
      go_wp2
      clear z3 p3 q3;replace B1:=af.mk (bD B1.o);replace B2:=af.mk (bD B2.o);replace B3:=af.mk (bD B3.o);replace B5:=af.mk (bD B5.o);replace HX:=af.mk (show wc.drew.cell? ⟨gB,(wrap64 ((l2.length:Int) - 1)).toNat * 3+2,none⟩=_ from HX.o);replace HH:=af.mk (Kd.aig HH.o);replace HRM:=af.mk (Kd.fU HRM.o);replace T0:=af.mk (show s0≤wc.drew.heap.size from T0.o);have GBA:=af.mk (show gB<wc.drew.heap.size from hlB);replace HB:=af.mk (cZ HB.o);clear hlB hbB;refine CE 15 [14] (qJ B5 (hc HX.o)) (fun hHeld=>?_);refine fu (show fD .any (opsOf Tryz.f25 8)=aar.T from by kernel_rfl) (show jg aar.T.2 aar.B=true from by kernel_rfl) (fun HT_ HW_=>?_)
      generalize wc.drew=wA at B1 B2 B3 B5 HX HH HRM T0 GBA HB hHeld ⊢
      have TA:=af.mk T0.o;have G5A:=af.mk (pR B5.o);refine bQ 0 ?_;refine jo 1 ?_;refine ta 4 ?_;refine jU 5 ?_;refine ta 7 ?_;refine oA 8 63 HT_ (fun K hK=>?_);refine gA Tryz.func42 #[.agg #[.int .i64 (aG au i).f0,.string (aG au i).f1,.string (aG au i).f2,.int .i64 (aG au i).f3,.slice QR (aG au i).f4.length Sr,.slice QS (aG au i).f5.length Sv]] ?_;(with_reducible refine (gZ.Dr k1 ((aG au i).f0) ((aG au i).f1) ((aG au i).f2) ((aG au i).f3) _ _ ((aG au i).f4) _ _ ((aG au i).f5) b _ ?aR HL4.o ?jI HL5.o (uQ HTF (bs HB)) Ab.o).mono ?_);(case aR=>exact Kd.bi HE4.o HB.o);(case jI=>exact Kd.bi HE5.o HB.o);rintro e wB ⟨v9,rfl,zu,hb⟩;refine ⟨_,rfl,?_⟩;obtain ⟨A9,c9,e_⟩:=Kd.ji zu;subst e_;have Z9:=af.mk (Kd.mM zu HB.o.size);clear zu;have WAB:=af.mk hb.size;replace HH:=af.mk (Kd.Yf (Kd.acG HH.o) hb);replace HRM:=af.mk (Kd.l6 (Kd.eF (ok':=fun k_=>oki k_∧k_<wA.heap.size) (Kd.pQ HRM.o) (fun _ q=>⟨q.1,q.2.2.1⟩)) hb);replace HX:=af.mk (show wB.cell? ⟨gB,(wrap64 ((l2.length:Int) - 1)).toNat * 3+2,none⟩=some (.slice AM x1.f2.length cM) from (Kd.Gy HH.o N0.o N1.o).1 2 _ rfl);replace B1:=af.mk (aU (ks B1) hb);replace B2:=af.mk (aU (ks B2) hb);replace B3:=af.mk (aU (ks B3) hb);replace B5:=af.mk (aU (ks B5) hb);replace T0:=af.mk (Nat.le_trans T0.o hb.size);replace HB:=af.mk (gP (bs HB) hb);clear hb;refine hK.out _ _ (qJ B5 (hc HX.o)).o (fun hHeld=>?_);clear hK K;refine nA 63 ?_;refine bQ 9 ?_;refine oA 10 65 HT_ (fun K hK=>?_);refine F8 (w1:=?_) (v:=?_) (by rfl) rfl ?_ ?_
      rotate_left 2
      ·go_simp
       constructor
       ·rfl
       ·rfl
      refine hK.out _ _ ⟨(aA (eY B5.o _) 0).trans rfl,(aA (eY B5.o _) 1).trans rfl,(aA (eY B5.o _) 2).trans rfl,(aA (eY B5.o _) 3).trans rfl,(aA (eY B5.o _) 4).trans rfl,(aA (eY B5.o _) 5).trans rfl,(World.cell?_alloc_lt _ _ _ (World.block_lt_of_cell? _ _ HX.o)).trans HX.o⟩ (fun hHeld=>?_);clear hK K;refine nA 65 ?_;obtain ⟨mm,hmm⟩:∃ y,y=x1.f2++[(⟨wrap64 (i+1),b⟩:iG)]:=⟨_,rfl⟩;have NM:=af.mk hmm;clear hmm
      refine oA 11 66 HT_ (fun K hK=>?_);refine Kd.NL zD (w0:=w) w.heap.size (by rfl) (.tmp 59) (.tmp 65) 69 73 ((.agg #[(.int .i64 0),(.slice none 0 0)])) 32 rfl Tryz.underlying69 am1 rfl (by decide) (by omega) (.slice AM x1.f2.length cM) x1.f2 (⟨wrap64 (i+1),b⟩:iG) [.int .i64 (wrap64 (i+1)),.slice A9 b.length c9] (fun k_=>oki k_∨wA.heap.size≤k_) (fun k_=>wA.heap.size≤k_) rfl rfl ⟨_,rfl,Z9.o⟩ (fun k_ q_=>⟨.inr q_,fun e_=>by obtain ⟨_,h1,_⟩:=HRM.o;have:=(h1 k_ e_.symm).2;omega⟩) (fun k_ q_=>.inr (Nat.le_trans WAB.o q_)) (Kd.eF HRM.o (fun _ q_=>⟨.inl q_.1,Nat.not_le_of_lt q_.2⟩)) HB.o HB.o.size (by have:=CQ.o;omega) ?_;intro vx wC ho hb hg hat;rw [← NM.o] at ho;obtain ⟨Ei,EP,e_⟩:=Kd.ji ho;subst e_
      have hr:∀ k,(Value.slice AM x1.f2.length cM).ownBlock=some k→oki k:=fun k e=>(by obtain ⟨_,h1,_⟩:=HRM.o;exact (h1 k e).1);have hn:∀ q,(∀ k,oki k→k≠q)→some q≠(Value.slice AM x1.f2.length cM).ownBlock:=fun q hq e=>hq q (hr q e.symm) rfl;replace HH:=af.mk (Kd.aih HH.o hg (fun k e=>.inl (hr k e)));replace B1:=af.mk (fV (ks B1) hg (hn _ (fun k h e=>by have h1:=(HOK.o k h).1.1;have h2:=D1.o;omega)));replace B2:=af.mk (fV (ks B2) hg (hn _ (fun k h e=>by have h1:=(HOK.o k h).1.1;have h2:=D2.o;omega)));replace B3:=af.mk (fV (ks B3) hg (hn _ (fun k h e=>by have h1:=(HOK.o k h).1.1;have h2:=D3.o;omega)));replace B5:=af.mk (fV (ks B5) hg (hn _ (fun k h e=>(HOK.o k h).1.2 e)));replace T0:=af.mk (Nat.le_trans T0.o hg.size);replace HB:=af.mk hb;replace HX:=af.mk (show wC.cell? ⟨gB,(wrap64 ((l2.length:Int) - 1)).toNat * 3+2,none⟩=some (.slice AM x1.f2.length cM) from (Kd.Gy HH.o N0.o N1.o).1 2 _ rfl);have HO:=af.mk ho;clear hr hn ho hb hg hat HRM Z9
      refine hK.out _ _ (qJ B5 (hc HX.o)).o (fun hHeld=>?_);clear hK K;refine nA 66 ?_;refine jU 12 ?_;refine IB (i:=14) (N:=none) #[true,true,true,true,true,true,true,true,true,true,true,true,true,true,true] rfl rfl (xH HT_.o (by kernel_rfl)) (by decide) (fun K hK=>?_);have hs:=HX.o;have hf:wC.frozen? ⟨gB,(wrap64 ((l2.length:Int) - 1)).toNat * 3+2,none⟩=false:=(Kd.Gy HH.o N0.o N1.o).2 2;refine xJ (w1:=wC.setCell ⟨gB,(wrap64 ((l2.length:Int) - 1)).toNat * 3+2,none⟩ (.slice Ei mm.length EP)) (by rfl) rfl (by first|(go_simp;done)|(go_simp;rfl)) ?_;refine hK.out _ _ ?_;clear hK K hs hf hHeld;refine ek (fo HT_.o (by kernel_rfl)) ?_;clear HT_ HW_;obtain ⟨wl,hw⟩:∃ W,W=wC.setCell ⟨gB,(wrap64 ((l2.length:Int) - 1)).toNat * 3+2,none⟩ (.slice Ei mm.length EP):=⟨_,rfl⟩;rw [← hw];obtain ⟨hq,hg2⟩:=Kd.Yg HH.o N0.o N1.o (seg:=[.slice Ei mm.length EP]) (j:=2) (show 2+1≤3 from by decide) (fun q hq=>by rw [List.mem_singleton.1 hq];rfl);replace hq:Kd.H oP 71 wl w.heap.size (fun k_=>s0≤k_∧k_≠g5) (.slice (some ⟨gB,0,none⟩) l2.length c2) l2 (wrap64 ((l2.length:Int) - 1)) (fun k=>oki k∨(s0≤k∧k≠g5)∧wA.heap.size≤k) [.int .i64 x1.f0,.int .i64 x1.f1,.slice Ei mm.length EP]:=(by rw [hw];exact hq);replace hg2:wC.grownBy wl (some gB):=(by rw [hw];exact hg2);have ho:=Kd.ai0 HO.o hg2 (fun k_ q_ e_=>by injection e_ with e_;rcases q_ with q_|q_;exact (HOK.o k_ q_).2 e_;(have:=GBA.o;omega));have Y:=Kd.Rt hq (x':=(⟨x1.f0,x1.f1,mm⟩:dR)) (show Kd.M oP wl w.heap.size (fun k_=>oki k_∨wA.heap.size≤k_) _ _ from ⟨_,rfl,ho⟩) (fun k_ q_=>q_.elim .inl (fun h=>.inr ⟨⟨Nat.le_trans TA.o h,by have:=G5A.o;omega⟩,h⟩))
      have nB:∀ q,q<s0→some q≠some gB:=fun q h e_=>(by injection e_ with e_;have:=OKB.o.1;omega);replace B1:=af.mk (fV (ks B1) hg2 (nB _ D1.o));replace B2:=af.mk (fV (ks B2) hg2 (nB _ D2.o));replace B3:=af.mk (fV (ks B3) hg2 (nB _ D3.o));replace T0:=af.mk (Nat.le_trans T0.o hg2.size);replace HB:=af.mk (show Below w.heap.size w wl from by rw [hw];exact eX HB.o EB.o);rw [eJ.o,NM.o,LC.o] at Y;have el:l2.length=lc.length:=(by rw [← LC.o,List.length_set]);rw [el] at Y B3;replace Y:=af.mk (Kd.eF (ok':=fun k_=>s0≤k_) Y (fun _ q=>q.1));clear hw hq hg2 ho nB el
      try go_wp2
      go_roundg k1
      case measure=>have:=aQ.o;omega
      case rel=>exact ⟨_,lc,some ⟨gB,0,none⟩,c2,rfl,H',⟨by have:=aQ.o;omega⟩,Y,B1,B2,B3,T0,HB⟩
   ·intro c9 H;obtain rfl:=si H;have z2:=aX B2;have z3:=aX B3;have n23:=JK.o
    go_wp2
    refine bodyPost_ret (results_cell_row rfl _ _ g2 35 #[.string ag,.string aj,.int .i64 ak,.slice Al l.length cl] (0,0) _ rfl (kp B2) Tryz.underlying35 rfl (by kernel_rfl)) rfl ?_
    exact ⟨_,ff,Kd.eF (Kd.jv (p:=⟨g2,3,none⟩) (Kd.jv (p:=⟨g2,2,none⟩) (Kd.jv (p:=⟨g2,1,none⟩) (Kd.jv (p:=⟨g2,0,none⟩) Y.o (fun k_ q_ e_=>by have:=D2.o;have e2:k_=g2:=e_;omega) _) (fun k_ q_ e_=>by have:=D2.o;have e2:k_=g2:=e_;omega) _) (fun k_ q_ e_=>by have:=D2.o;have e2:k_=g2:=e_;omega) _) (fun k_ q_ e_=>by have:=D2.o;have e2:k_=g2:=e_;omega) _) (fun _ q=>Nat.le_trans S0.o q),eX (eX (eX (eX HB.o E2.o) E2.o) E2.o) E2.o⟩
theorem jm.calls (k:Nat)(ag aj:ByteArray)(ak:Int)(dZ:Option Addr)(dW:Nat)(au:List eT)(r1 r2:ByteArray)(r3:Int)(r4:List dR)(w:World)(jl:Kd.C jG w dZ au.length au)(jk:au.length≤dW)(hTF:uz w)(H:jm.f k ag aj ak au=some (r1,r2,r3,r4)) :
  Calls Tryz.prog 25 #[.agg #[.string ag,.string aj,.int .i64 ak,.slice dZ au.length dW]] w fun e w'=>∃ tq:Value,e=.returned (.agg #[.string r1,.string r2,.int .i64 r3,tq])∧Kd.R pX 71 w' w.heap.size (fun _=>True) tq r4∧Below w.heap.size w w':=by
 refine (jm.Dr k ag aj ak dZ dW au r1 r2 r3 r4 w jl jk hTF H).mono ?_;rintro e w' ⟨v,he,hS,hb⟩
 exact ⟨v,he,Kd.dE (DT hS) (fun _ _=>trivial),hb⟩
theorem Cu.calls (a0:Int)(r:Bool)(w:World)(H:Cu.f a0=some r) :
  Calls Tryz.prog 48 #[.int .i64 a0] w fun e w'=>e=.returned (.bool r)∧aW w w':=by
 unfold Cu.f at H;replace H:=bo H;obtain ⟨t3,A2,H⟩:=H;obtain rfl:=si H
 go_in
 go_wp2_with (first|((go_at_call 41;refine (l9.calls a0 1 999999 t3 _ A2.o).mono ?_;rintro e w' ⟨rfl,⟨nd,rfl⟩⟩)))
 go_ret
 exact ⟨fg,dr⟩
theorem Ph.calls (k:Nat)(a0:ByteArray)(r:Bool)(w:World)(H:Ph.f k a0=some r) :
  Calls Tryz.prog 161 #[.string a0] w fun e w'=>e=.returned (.bool r)∧aW w w':=by
 unfold Ph.f at H;replace H:=bo H;obtain ⟨t3,A2,H⟩:=H;obtain rfl:=si H
 go_in
 go_wp2_with (first|((go_at_call 137;refine (FL.calls k a0 t3 _ A2.o).mono ?_;rintro e w' ⟨rfl,⟨nd,rfl⟩⟩)))
 go_ret
 exact ⟨fg,dr⟩
theorem yG.calls (k:Nat)(A0:Option Addr)(c0:Nat)(l0:List ByteArray)  (r:Int) (w:World) (hr0:Kd.C Kd.string w A0 l0.length l0) (hc0:l0.length≤c0) (H:yG.f k l0=some r) :
  Calls Tryz.prog 154 #[.slice A0 l0.length c0,.func (.func 161) #[] #[]] w fun e w'=>e=.returned (.int .i64 r)∧aW w w':=by
 have bG:=am hr0;have jC:=am hc0;clear hr0 hc0;unfold yG.f at H;have H':=am H;clear H
 go_in
 go_wp2
 go_loopg [8] k (fun kq v8 w'=>∃ (aD:Int),v8=.int .i64 aD∧af (yG.l0 kq l0 (l0.length:Int) aD=some r)∧af (kq≤k)∧aW w w')
 case atStart=>exact ⟨(0),fg,H',⟨Nat.le_refl _⟩,by repeat (first|exact aW.refl _|apply aW.step)⟩
 case round =>
  clear H'
  obtain ⟨aD,rfl,HA,aQ,⟨m1,rfl⟩⟩:=hrel
  cases gk with
  | zero=>exact absurd HA.o (by simp [yG.l0])
  | succ k1 =>
   have H:=HA.o;clear HA;simp only [yG.l0] at H
   revert H;refine bK ?_ ?_
   ·intro aY H
    revert H;refine bv ?_
    intro dF H
    revert H;refine bv ?_
    intro ja H;replace H:=bo H;obtain ⟨t9,A6,H⟩:=H;obtain ⟨p7,q7,RY,e7,VY⟩:=wi (Kd.jw bG.o aD)
    cases e7
    try go_wp2_with (fail)
    go_at_call 161;refine (Ph.calls k1 (bA ByteArray.empty l0 aD) t9 _ A6.o).mono ?_;rintro e w' ⟨rfl,⟨nd,rfl⟩⟩
    obtain rfl|rfl:=bt t9
    ·replace H:=dm H;obtain rfl:=si H
     go_wp2
     go_ret
     exact ⟨fg,dr⟩
    ·replace H:=di H;have H':=am H;clear H
     go_wp2
     go_roundg k1
     case measure=>have:=aQ.o;omega
     case rel=>exact ⟨(wrap64 (aD+1)),fg,H',⟨by have:=aQ.o;omega⟩,by repeat (first|exact aW.refl _|apply aW.step)⟩
   ·intro aY H;obtain rfl:=si H
    go_wp2
    go_ret
    exact ⟨fg,dr⟩
theorem L8.calls (k:Nat)(A0:Option Addr)(c0:Nat)(l0:List ByteArray)  (r:Bool) (w:World) (hr0:Kd.C Kd.string w A0 l0.length l0) (hc0:l0.length≤c0) (H:L8.f k l0=some r) :
  Calls Tryz.prog 135 #[.slice A0 l0.length c0,.func (.func 161) #[] #[]] w fun e w'=>e=.returned (.bool r)∧aW w w':=by
 have bG:=am hr0;have jC:=am hc0;clear hr0 hc0;unfold L8.f at H;replace H:=bo H;obtain ⟨t4,A3,H⟩:=H;obtain rfl:=si H
 go_in
 go_wp2_with (first|((go_at_call 154;refine (yG.calls k _ _ l0  t4 _ ?aR jC.o A3.o).mono ?_;(case aR=>exact sd bG.o);rintro e w' ⟨rfl,⟨nd,rfl⟩⟩)))
 go_ret
 exact ⟨fg,dr⟩
theorem Lf.calls (a0:ByteArray)(r:Bool)(w:World)(H:Lf.f a0=some r) :
  Calls Tryz.prog 162 #[.string a0] w fun e w'=>e=.returned (.bool r)∧aW w w':=by
 unfold Lf.f at H
 revert H;refine bH ?_ ?_
 ·intro gQ jE H
  revert H;refine qO ?_
  intro c3 aY H;have dS:decide (0<a0.size)=true:=decide_eq_true (by omega);clear c3;replace H:=bo H;obtain ⟨t6,A5,H⟩:=H;have p4:0≤(0:Int):=(by omega);have q4:0<a0.size:=(by have:(0:Int)<(a0.size:Int):=oa;omega);have hx4:∀ h:0<a0.size,((a0[0]'h).toNat:Int)=bt a0 0:=gX a0 0;clear p4;have qi4:(0<(a0.size:Int))=True:=eq_true (oa);replace q4:=eq_true q4
  go_in
  try go_wp2_with (fail)
  go_at_call 93;refine (zA.calls (bt a0 0) t6 _ A5.o).mono ?_;rintro e w' ⟨rfl,⟨nd,rfl⟩⟩
  obtain rfl|rfl:=bt t6
  ·replace H:=dm H
   revert H;refine qO ?_
   intro c7 kH H;have zV:decide (1<a0.size)=true:=decide_eq_true (by omega);clear c7;replace H:=bo H;obtain ⟨rG,A9,H⟩:=H;have p8:0≤(1:Int):=(by omega);have q8:1<a0.size:=(by have:(1:Int)<(a0.size:Int):=oa;omega);have hx8:∀ h:1<a0.size,((a0[1]'h).toNat:Int)=bt a0 1:=gX a0 1;clear p8;have qi8:(1<(a0.size:Int))=True:=eq_true (oa);replace q8:=eq_true q8
   try go_wp2_with (fail)
   go_at_call 93;refine (zA.calls (bt a0 1) rG _ A9.o).mono ?_;rintro e w' ⟨rfl,⟨nd,rfl⟩⟩
   obtain rfl|rfl:=bt rG
   ·replace H:=dm H
    revert H;refine qO ?_
    intro c11 xh H;have EO:decide (2<a0.size)=true:=decide_eq_true (by omega);clear c11;replace H:=bo H;obtain ⟨I6,vS,H⟩:=H;obtain rfl:=si H;have iO:0≤(2:Int):=(by omega);have iK:2<a0.size:=(by have:(2:Int)<(a0.size:Int):=oa;omega);have yw:∀ h:2<a0.size,((a0[2]'h).toNat:Int)=bt a0 2:=gX a0 2;clear iO;have azt:(2<(a0.size:Int))=True:=eq_true (oa);replace iK:=eq_true iK
    go_wp2_with (first|(go_at_call 93;refine (zA.calls (bt a0 2) I6 _ vS.o).mono ?_;rintro e w' ⟨rfl,⟨nd,rfl⟩⟩))
    go_ret
    exact ⟨fg,dr⟩
   ·replace H:=di H;obtain rfl:=si H
    go_wp2
    go_ret
    exact ⟨fg,dr⟩
  ·replace H:=di H;obtain rfl:=si H
   go_wp2
   go_ret
   exact ⟨fg,dr⟩
 ·intro c2 gQ jE H;obtain rfl:=si H
  go_in
  go_wp2
  go_ret
  exact ⟨fg,dr⟩
theorem nQ.calls (k:Nat)(ag:ByteArray)(gN:Option Addr)(fZ:Nat)(aN:List bN)(r:Bool)(w:World)(lW:Kd.C jO w gN aN.length aN)(lV:aN.length≤fZ)(H:nQ.f k ag aN=some r) :
  Calls Tryz.prog 141 #[.agg #[.string ag,.slice gN aN.length fZ]] w fun e w'=>e=.returned (.bool r)∧Below w.heap.size w w':=by
 have r9:=Tryz.underlying62;have Dy:=Tryz.underlying97;have lZ:=am lW;have uu:=am lV;clear lW lV;have HB:=am (Below.refl w.heap.size w);unfold nQ.f at H;have H':=am H;clear H
 go_in
 go_wp2_with (first|((with_reducible refine aJ (N:=1) rfl ?_);(try (refine jc (by rfl) ?_;dsimp only));refine bz 1 (cs:=#[.string ag,.slice gN aN.length fZ]) (t:=62) HB ?_;clear HB;intro rZ hg w2 fA ahC hb HB;clear hb hg;have Ty:=fM fA))
 go_loopg [9] k (fun kq v9 w'=>∃ (pI:Int),v9=.int .i64 pI∧af (nQ.l0 kq aN (aN.length:Int) pI ag aN=some r)∧af (kq≤k)∧af (w'.heap[rZ]? = some (.cells #[.string ag,(.slice gN aN.length fZ)] 62 (0,0)))∧af (Below w.heap.size w w'))
 case atStart=>exact ⟨(0),fg,H',⟨Nat.le_refl _⟩,⟨ks fA⟩,⟨bs HB⟩⟩
 case round =>
  clear H'
  try clear Ty
  try clear fA
  obtain ⟨pI,rfl,HA,aQ,fA,HB⟩:=hrel
  cases gk with
  | zero=>exact absurd HA.o (by simp [nQ.l0])
  | succ k1 =>
   have H:=HA.o;clear HA;simp only [nQ.l0] at H
   revert H;refine bK ?_ ?_
   ·intro dF H
    revert H;refine bv ?_
    intro ja H
    revert H;refine bv ?_
    intro gu H;have JE:=am H;clear H;obtain ⟨p35,q35,ai7,ao1,atO,e35,O3,alp,akS⟩:=wi (lN lZ.o pI)
    cases e35
    replace O3:=cb HB O3;have Rl:=am akS;have apX:=am alp;clear akS alp
    go_upto_region 5 with (first|((with_reducible refine aJ (N:=4) rfl ?_);(try (refine jc (by rfl) ?_;dsimp only));refine bz 4 (cs:=#[.slice none 0 0]) (t:=97) HB ?_;clear HB;intro avN hg w8 Es aDG hb HB;have Ny:=na hg fA;have Nz:=nc hg fA;replace fA:=bb fA hb;clear hb hg;have UH:=Nz.o;have UL:=Ny.o;have zo:=vB Es))
    (try simp only [Act.put,List.setIfInBounds_toArray,List.set_cons_zero,List.set_cons_succ])
    go_cut [24] (fun v24 wc=>∃ (kq:Nat) (abj:Bool),v24=.bool abj∧af (nQ.j1 kq pI (((aK aN pI).f0).length:Int) aN (aN.length:Int) pI abj ag aN ((aK aN pI).f0)=some r)∧af (kq≤k1)∧af (wc.heap[rZ]? = some (.cells #[.string ag,(.slice (some ai7) aN.length fZ)] 62 (0,0)))∧af (wc.heap[avN]? = some (.cells #[(.slice ao1 ((aK aN pI).f0).length atO)] 97 (0,0)))∧af (Below w.heap.size w wc))
    case first =>
     have H:=JE.o;clear JE;replace H:=bo H;obtain ⟨t38,Js,H⟩:=H
     try go_wp2_with (fail)
     go_at_call 41;refine (l9.calls (((aK aN pI).f0).length:Int) 1 4 t38 _ Js.o).mono ?_;rintro e w' ⟨rfl,⟨nd,rfl⟩⟩
     obtain rfl|rfl:=bt t38
     ·replace H:=dm H;replace H:=bo H;obtain ⟨t39,vS,H⟩:=H;have H':=am H;clear H;have aew:=Nz.o;have aeC:=Ny.o;have KO:=vB Es
      go_wp2_with (first|(go_at_call 135;refine (L8.calls k1 _ _ ((aK aN pI).f0)  t39 _ ?aR apX.o vS.o).mono ?_;(case aR=>exact Kd.bi Rl.o (bs HB));rintro e w' ⟨rfl,⟨nd,rfl⟩⟩))
      go_meet
      case rel=>exact ⟨_,(t39),fg,H',⟨by have:=aQ.o;first|omega|exact Nat.le_refl _⟩,⟨ks fA⟩,⟨kp Es⟩,⟨bs HB⟩⟩
     ·replace H:=di H;have H':=am H;clear H
      go_wp2
      go_meet
      case rel=>exact ⟨_,(true),fg,H',⟨by have:=aQ.o;first|omega|exact Nat.le_refl _⟩,⟨ks fA⟩,⟨kp Es⟩,⟨bs HB⟩⟩
    case rest =>
     clear JE
     try clear dF
     try clear ja
     try clear gu
     try clear zo
     try clear Ty
     try clear O3
     try clear p35
     try clear q35
     obtain ⟨kq,abj,rfl,HA,Ey,fA,Es,HB⟩:=hcut
     cases kq with
     | zero=>exact absurd HA.o (by simp [nQ.j1])
     | succ DU =>
      have H:=HA.o;clear HA;simp only [nQ.j1] at H
      obtain rfl|rfl:=bt abj
      ·replace H:=dm H;obtain rfl:=si H
       go_wp2
       go_ret
       exact ⟨ff,bs HB⟩
      ·replace H:=di H;obtain ⟨Iz,Ue⟩:∃ j_:Int,(wrap64 ((((aK aN pI).f0).length:Int) - 1))=j_:=⟨_,rfl⟩
       replace H:(if 0≤(Iz) then (if (Iz)<(((aK aN pI).f0).length:Int) then (if (bA ByteArray.empty ((aK aN pI).f0) (Iz)).toList=([]:List UInt8) then (if (((aK aN pI).f0).length:Int)>1 then (some false) else (if pI=(wrap64 ((aN.length:Int) - 1)) then (some false) else (nQ.l0 DU aN (aN.length:Int) (wrap64 (pI+1)) ag aN))) else (nQ.l0 DU aN (aN.length:Int) (wrap64 (pI+1)) ag aN)) else none) else none)=some r:=by first|(rw [Ue] at H;exact H)|(simp only [Ue] at H ⊢;exact H)
       have aH2:(IntKind.i64.wrap ((((aK aN pI).f0).length:Int) - 1))=Iz:=(fC _).trans Ue
       revert H;refine bv ?_
       intro xk H
       revert H;refine bv ?_
       intro vw H
       revert H;refine Ps ?_ ?_
       ·intro vY Si atE H
        revert H;refine gT ?_ ?_
        ·intro c21 H;have zm:decide (1<(((aK aN pI).f0).length:Int))=true:=decide_eq_true c21;have EQ:decide (1<((aK aN pI).f0).length)=true:=decide_eq_true (by omega);clear c21;obtain rfl:=si H;have aex:=Nz.o;have aeD:=Ny.o;have HV:=vB Es;obtain ⟨iO,iK,GV,e12,nO⟩:=wi (Kd.jw Rl.o (Iz))
         cases e12
         replace nO:=cb HB nO
         go_wp2
         go_ret
         exact ⟨by first|rfl|(simp [qF,qG] <;> rfl)|(simp only [← Ue];first|rfl|(simp [qF,qG] <;> rfl))|(simp [*,qF,qG] <;> rfl),bs HB⟩
        ·intro c21 H;have zm:decide (1<(((aK aN pI).f0).length:Int))=false:=decide_eq_false c21;have EQ:decide (1<((aK aN pI).f0).length)=false:=decide_eq_false (by omega);clear c21
         revert H;refine bH ?_ ?_
         ·intro vZ Kr H;obtain rfl:=si H;have al4:=Nz.o;have amf:=Ny.o;have akA:=vB Es;obtain ⟨iO,iK,GV,e12,nO⟩:=wi (Kd.jw Rl.o (Iz))
          cases e12
          replace nO:=cb HB nO;have Ot:=fM fA
          go_wp2
          go_ret
          exact ⟨by first|rfl|(simp [qF,qG] <;> rfl)|(simp only [← Ue];first|rfl|(simp [qF,qG] <;> rfl))|(simp [*,qF,qG] <;> rfl),bs HB⟩
         ·intro c24 vZ Kr H;have H':=am H;clear H;have UF:=Nz.o;have UJ:=Ny.o;have KR:=vB Es;obtain ⟨iO,iK,GV,e12,nO⟩:=wi (Kd.jw Rl.o (Iz))
          cases e12
          replace nO:=cb HB nO;have akB:=fM fA
          go_wp2
          go_roundg DU
          case measure=>have:=aQ.o;have:=Ey.o;omega
          case rel=>exact ⟨(wrap64 (pI+1)),fg,H',⟨by have:=aQ.o;have:=Ey.o;omega⟩,⟨ks fA⟩,⟨bs HB⟩⟩
       ·intro c20 vY Si atE H;have H':=am H;clear H;have UG:=Nz.o;have UK:=Ny.o;have Tz:=vB Es;obtain ⟨iO,iK,GV,e12,nO⟩:=wi (Kd.jw Rl.o (Iz))
        cases e12
        replace nO:=cb HB nO
        go_wp2
        go_roundg DU
        case measure=>have:=aQ.o;have:=Ey.o;omega
        case rel=>exact ⟨(wrap64 (pI+1)),fg,H',⟨by have:=aQ.o;have:=Ey.o;omega⟩,⟨ks fA⟩,⟨bs HB⟩⟩
   ·intro dF H;replace H:=bo H;obtain ⟨t40,QO,H⟩:=H;have aeb:=fM fA
    try go_wp2_with (fail)
    go_at_call 162;refine (Lf.calls ag t40 _ QO.o).mono ?_;rintro e w' ⟨rfl,⟨nd,rfl⟩⟩
    obtain rfl|rfl:=bt t40
    ·replace H:=dm H;obtain rfl:=si H;have Ou:=fM fA
     go_wp2
     go_ret
     exact ⟨ff,bs HB⟩
    ·replace H:=di H;obtain rfl:=si H
     go_wp2
     go_ret
     exact ⟨ff,bs HB⟩
theorem Pp.calls  (r:List ByteArray) (w:World) (H:Pp.f  = some r) :
  Calls Tryz.prog 143 #[] w fun e w'=>∃ lX:Value,e=.returned (lX)∧Kd.R Kd.string 9 w' w.heap.size (fun _=>True) lX r∧Below w.heap.size w w':=by
 have HB:=am (Below.refl w.heap.size w);unfold Pp.f at H;obtain ⟨y3,hy3⟩:∃ y_:List ByteArray,y_=(([(⟨#[73,88,72]⟩:ByteArray),(⟨#[71,82,72]⟩:ByteArray),(⟨#[77,83,72]⟩:ByteArray),(⟨#[77,83,84]⟩:ByteArray),(⟨#[71,82,84]⟩:ByteArray),(⟨#[73,88,84]⟩:ByteArray)]:List ByteArray)):=⟨_,rfl⟩
 replace H:(some y3)=some r:=ye hy3 H
 have Ny3:=am hy3;clear hy3;obtain rfl:=si H
 go_in
 go_wp2_with (first|((with_reducible refine aJ (N:=1) rfl ?_);refine rl Kd.string 9 (N:=1) (xs:=([(⟨#[73,88,72]⟩:ByteArray),(⟨#[71,82,72]⟩:ByteArray),(⟨#[77,83,72]⟩:ByteArray),(⟨#[77,83,84]⟩:ByteArray),(⟨#[71,82,84]⟩:ByteArray),(⟨#[73,88,84]⟩:ByteArray)]:List ByteArray)) (inner:=[.string (⟨#[73,88,72]⟩:ByteArray),.string (⟨#[71,82,72]⟩:ByteArray),.string (⟨#[77,83,72]⟩:ByteArray),.string (⟨#[77,83,84]⟩:ByteArray),.string (⟨#[71,82,84]⟩:ByteArray),.string (⟨#[73,88,84]⟩:ByteArray)]) ?hp ?_;(case hp=>exact (aV.one (show Kd.M Kd.string _ _ _ (⟨#[73,88,72]⟩:ByteArray) [.string (⟨#[73,88,72]⟩:ByteArray)] from rfl) (aV.one (show Kd.M Kd.string _ _ _ (⟨#[71,82,72]⟩:ByteArray) [.string (⟨#[71,82,72]⟩:ByteArray)] from rfl) (aV.one (show Kd.M Kd.string _ _ _ (⟨#[77,83,72]⟩:ByteArray) [.string (⟨#[77,83,72]⟩:ByteArray)] from rfl) (aV.one (show Kd.M Kd.string _ _ _ (⟨#[77,83,84]⟩:ByteArray) [.string (⟨#[77,83,84]⟩:ByteArray)] from rfl) (aV.one (show Kd.M Kd.string _ _ _ (⟨#[71,82,84]⟩:ByteArray) [.string (⟨#[71,82,84]⟩:ByteArray)] from rfl) (aV.one (show Kd.M Kd.string _ _ _ (⟨#[73,88,84]⟩:ByteArray) [.string (⟨#[73,88,84]⟩:ByteArray)] from rfl) (aV.none _ _))))))));intro v5 w1 ho2 hb hg_ hnew_;clear hg_ hnew_;(first|rw [← Ny3.o] at ho2|(simp only [Int.reduceToNat] at ho2;rw [← Ny3.o] at ho2));have HO4:=am (Kd.ic ho2 (bJ (bs HB)));replace HB:=bq HB hb;clear hb ho2))
 go_ret
 exact ⟨_,ff,by (with_reducible repeat (first|apply Kd.kM|apply Kd.jK|apply Kd.eO));exact HO4.o,bs HB⟩
theorem xL.calls (k:Nat)(A0:Option Addr)(c0:Nat)(l0:List ByteArray)(a1:ByteArray)(r:Int)(w:World)(hr0:Kd.C Kd.string w A0 l0.length l0)(hc0:l0.length≤c0)(H:xL.f k l0 a1=some r) :
  Calls Tryz.prog 163 #[.slice A0 l0.length c0,.string a1] w fun e w'=>e=.returned (.int .i64 r)∧aW w w':=by
 have bG:=am hr0;have jC:=am hc0;clear hr0 hc0;unfold xL.f at H;have H':=am H;clear H
 go_in
 go_wp2
 go_loopg [8] k (fun kq v8 w'=>∃ (aD:Int),v8=.int .i64 aD∧af (xL.l0 kq l0 a1 (l0.length:Int) aD=some r)∧af (kq≤k)∧aW w w')
 case atStart=>exact ⟨(0),fg,H',⟨Nat.le_refl _⟩,by repeat (first|exact aW.refl _|apply aW.step)⟩
 case round =>
  clear H'
  obtain ⟨aD,rfl,HA,aQ,⟨m1,rfl⟩⟩:=hrel
  cases gk with
  | zero=>exact absurd HA.o (by simp [xL.l0])
  | succ k1 =>
   have H:=HA.o;clear HA;simp only [xL.l0] at H
   revert H;refine bK ?_ ?_
   ·intro aY H
    revert H;refine bv ?_
    intro dF H
    revert H;refine bv ?_
    intro ja H
    revert H;refine bH ?_ ?_
    ·intro gu nM H;obtain rfl:=si H;obtain ⟨p7,q7,RY,e7,VY⟩:=wi (Kd.jw bG.o aD)
     cases e7
     go_wp2
     go_ret
     exact ⟨fg,dr⟩
    ·intro c6 gu nM H;have H':=am H;clear H;obtain ⟨p7,q7,RY,e7,VY⟩:=wi (Kd.jw bG.o aD)
     cases e7
     go_wp2
     go_roundg k1
     case measure=>have:=aQ.o;omega
     case rel=>exact ⟨(wrap64 (aD+1)),fg,H',⟨by have:=aQ.o;omega⟩,by repeat (first|exact aW.refl _|apply aW.step)⟩
   ·intro aY H;obtain rfl:=si H
    go_wp2
    go_ret
    exact ⟨fg,dr⟩
theorem L9.calls (k:Nat)(A0:Option Addr)(c0:Nat)(l0:List ByteArray)(a1:ByteArray)(r:Bool)(w:World)(hr0:Kd.C Kd.string w A0 l0.length l0)(hc0:l0.length≤c0)(H:L9.f k l0 a1=some r) :
  Calls Tryz.prog 142 #[.slice A0 l0.length c0,.string a1] w fun e w'=>e=.returned (.bool r)∧aW w w':=by
 have bG:=am hr0;have jC:=am hc0;clear hr0 hc0;unfold L9.f at H;replace H:=bo H;obtain ⟨t4,A3,H⟩:=H;obtain rfl:=si H
 go_in
 go_wp2_with (first|((go_at_call 163;refine (xL.calls k _ _ l0 a1 t4 _ ?aR jC.o A3.o).mono ?_;(case aR=>exact sd bG.o);rintro e w' ⟨rfl,⟨nd,rfl⟩⟩)))
 go_ret
 exact ⟨fg,dr⟩
def uH.T1:Bool × List (List Nat × List Nat):=(true,[([],[]),([0],[0]),([1,1],[1]),([2,2],[2]),([2],[2]),([4,2],[2,4]),([3,5,3,2],[2,3,5]),([6,2],[2,6]),([2,7],[2,7]),([8,6,0,1,2,3,4,5,6,7,8],[8])])
def uH.B1:List Nat:=[0,1,3,7,7,23,63,127,255,511]
theorem uH.aod:fD .any (opsOf Tryz.f126 1)=uH.T1:=by kernel_rfl
theorem uH.ajk:jg uH.T1.2 uH.B1=true:=by kernel_rfl
theorem uH.calls (k:Nat)(ag:ByteArray)(gN:Option Addr)(fZ:Nat)(aN:List bN)(r:Bool)(w:World)(lW:Kd.C jO w gN aN.length aN)(lV:aN.length≤fZ)(H:uH.f k ag aN=some r) :
  Calls Tryz.prog 126 #[.agg #[.string ag,.slice gN aN.length fZ]] w fun e w'=>e=.returned (.bool r)∧Below w.heap.size w w':=by
 have r9:=Tryz.underlying62;have lZ:=am lW;have uu:=am lV;clear lW lV;have HB:=am (Below.refl w.heap.size w);unfold uH.f at H;replace H:=bo H;obtain ⟨t17,A2,H⟩:=H
 obtain rfl|rfl:=bt t17
 ·replace H:=dm H;replace H:=bo H;obtain ⟨qQ,A4,H⟩:=H;replace H:=bo H;obtain ⟨lK,A5,H⟩:=H;obtain rfl:=si H
  go_in
  try go_wp2_with (first|((with_reducible refine aJ (N:=1) rfl ?_);refine bz 1 (cs:=#[.string ag,.slice gN aN.length fZ]) (t:=62) HB ?_;clear HB;intro ZE hg w6 nI XQ hb HB;clear hb hg))
  replace nI:=am (bD nI.o);replace HB:=am (cZ HB.o);refine gD 10 (hb2 nI) (fun hHeld=>?_);refine fu uH.aod uH.ajk (fun HT_ HW_=>?_)
  generalize w6.drew=w7 at nI HB hHeld ⊢
  refine ta 0 ?_;refine oA 1 4 HT_ (fun K hK=>?_);refine gA Tryz.func141 #[.agg #[.string ag,.slice gN aN.length fZ]] ?_;(with_reducible refine (nQ.calls k ag _ _ aN true _ ?aR ?bg A2.o).mono ?_)
  (case aR=>exact sd (Kd.bi lZ.o HB.o))
  (case bg=>exact uu.o)
  rintro e w8 ⟨rfl,hb⟩;refine ⟨_,rfl,?_⟩;replace nI:=bb nI hb;replace HB:=bq HB hb;(try clear hb);refine hK.out _ _ (hb2 nI).o (fun hHeld=>?_);clear hK K;refine nA 4 ?_;refine bQ 2 ?_;refine bQ 4 ?_;refine ta 5 ?_;refine oA 3 6 HT_ (fun K hK=>?_);refine gA Tryz.func143 #[] ?_;(with_reducible refine (Pp.calls  qQ _ A4.o).mono ?_);rintro e w9 ⟨v19,rfl,ho0,hb⟩;refine ⟨_,rfl,?_⟩;have Ez:=am (Kd.ic ho0 (bJ (bs HB)));replace nI:=bb nI hb;replace HB:=bq HB hb;(try clear hb);(try clear ho0);obtain ⟨ahm,SC,KE⟩:=Kd.gW Ez.o
  (first|subst KE|(injection KE with fO jy fP;have jA:=fO.symm;have jB:=fP.symm;clear fO jy fP;subst jA;subst jB))
  refine hK.out _ _ (hb2 nI).o (fun hHeld=>?_);clear hK K;refine nA 6 ?_;refine oA 6 9 HT_ (fun K hK=>?_);refine gA Tryz.func142 #[.slice ahm qQ.length SC,.string ag] ?_;(with_reducible refine (L9.calls k _ _ qQ ag lK _ ?aR ?bg A5.o).mono ?_)
  (case aR=>exact sd (Kd.dH Ez.o).2.2)
  (case bg=>exact (Kd.dH Ez.o).2.1)
  rintro e w' ⟨rfl,⟨nd,rfl⟩⟩;refine ⟨_,rfl,?_⟩;refine hK.out _ _ (hb2 nI).o (fun hHeld=>?_);clear hK K;refine nA 9 ?_;refine jo 7 ?_;refine ek (fo HT_.o (by kernel_rfl)) ?_
  try go_wp2
  go_ret
  exact ⟨ff,bs HB⟩
 ·replace H:=di H;obtain rfl:=si H
  go_in
  try go_wp2_with (first|((with_reducible refine aJ (N:=1) rfl ?_);refine bz 1 (cs:=#[.string ag,.slice gN aN.length fZ]) (t:=62) HB ?_;clear HB;intro ZE hg jY nI XQ hb HB;clear hb hg))
  replace nI:=am (bD nI.o);replace HB:=am (cZ HB.o);refine gD 10 (hb2 nI) (fun hHeld=>?_);refine fu uH.aod uH.ajk (fun HT_ HW_=>?_)
  generalize jY.drew=nZ at nI HB hHeld ⊢
  refine ta 0 ?_;refine oA 1 4 HT_ (fun K hK=>?_);refine gA Tryz.func141 #[.agg #[.string ag,.slice gN aN.length fZ]] ?_;(with_reducible refine (nQ.calls k ag _ _ aN false _ ?aR ?bg A2.o).mono ?_)
  (case aR=>exact sd (Kd.bi lZ.o HB.o))
  (case bg=>exact uu.o)
  rintro e tC ⟨rfl,hb⟩;refine ⟨_,rfl,?_⟩;replace nI:=bb nI hb;replace HB:=bq HB hb;(try clear hb);refine hK.out _ _ (hb2 nI).o (fun hHeld=>?_);clear hK K;refine nA 4 ?_;refine mF 2 ?_;refine ek (fo HT_.o (by kernel_rfl)) ?_
  try go_wp2
  go_ret
  exact ⟨ff,bs HB⟩
theorem Po.calls (k:Nat)(ag:ByteArray)(gN:Option Addr)(fZ:Nat)(aN:List bN)(r:Bool)(w:World)(lW:Kd.C jO w gN aN.length aN)(lV:aN.length≤fZ)(H:Po.f k ag aN=some r) :
  Calls Tryz.prog 125 #[.agg #[.string ag,.slice gN aN.length fZ]] w fun e w'=>e=.returned (.bool r)∧Below w.heap.size w w':=by
 have r9:=Tryz.underlying62;have lZ:=am lW;have uu:=am lV;clear lW lV;have HB:=am (Below.refl w.heap.size w);unfold Po.f at H;replace H:=bo H;obtain ⟨t7,A2,H⟩:=H;obtain rfl:=si H
 go_in
 go_wp2_with (first|((with_reducible refine aJ (N:=1) rfl ?_);refine bz 1 (cs:=#[.string ag,.slice gN aN.length fZ]) (t:=62) HB ?_;clear HB;intro tQ hg w3 kL GW6 hb HB;clear hb hg;have TB:w3.cell? ⟨tQ,0,none⟩=some (.string ag):=(aA kL.o 0).trans rfl;have TC:w3.cell? ⟨tQ,1,none⟩=some (.slice gN aN.length fZ):=(aA kL.o 1).trans rfl;have TE:=bu kL.o 0;have TF:=bu kL.o 1)|((go_at_call 126;refine (uH.calls k ag _ _ aN t7 _ (Kd.bi lZ.o (bs HB)) uu.o A2.o).mono ?_;rintro e w5 ⟨rfl,hb⟩);replace kL:=bb kL hb;replace HB:=bq HB hb;(try clear hb)))
 go_ret
 exact ⟨ff,bs HB⟩
theorem xD.calls (k:Nat)(A0:Option Addr)(c0:Nat)(l0:List bn)  (r:Int) (w:World) (hr0:Kd.C kP w A0 l0.length l0) (hc0:l0.length≤c0) (H:xD.f k l0=some r) :
  Calls Tryz.prog 140 #[.slice A0 l0.length c0,.func (.func 125) #[] #[]] w fun e w'=>e=.returned (.int .i64 r)∧Below w.heap.size w w':=by
 have r9:=Tryz.underlying62;have bG:=am hr0;have jC:=am hc0;clear hr0 hc0;have HB:=am (Below.refl w.heap.size w);unfold xD.f at H;have H':=am H;clear H
 go_in
 go_wp2
 go_loopg [8] k (fun kq v8 w'=>∃ (aD:Int),v8=.int .i64 aD∧af (xD.l0 kq l0 (l0.length:Int) aD=some r)∧af (kq≤k)∧af (Below w.heap.size w w'))
 case atStart=>exact ⟨(0),fg,H',⟨Nat.le_refl _⟩,⟨bs HB⟩⟩
 case round =>
  clear H'
  obtain ⟨aD,rfl,HA,aQ,HB⟩:=hrel
  cases gk with
  | zero=>exact absurd HA.o (by simp [xD.l0])
  | succ k1 =>
   have H:=HA.o;clear HA;simp only [xD.l0] at H
   revert H;refine bK ?_ ?_
   ·intro aY H
    revert H;refine bv ?_
    intro dF H
    revert H;refine bv ?_
    intro ja H;replace H:=bo H;obtain ⟨rG,A6,H⟩:=H;obtain ⟨p9,q9,xe,abJ,adD,e9,l8,nP,Cf,Ca⟩:=wi (kN bG.o aD)
    cases e9
    replace l8:=cb HB l8;replace nP:=cb HB nP;have Rs:=am Ca;have Ra:=am Cf;clear Ca Cf
    try go_wp2_with (fail)
    go_at_call 125;refine (Po.calls k1 ((av l0 aD).f0) _ _ ((av l0 aD).f1) rG _ (Kd.bi Rs.o (bs HB)) Ra.o A6.o).mono ?_;rintro e w7 ⟨rfl,hb⟩;replace HB:=bq HB hb;(try clear hb)
    obtain rfl|rfl:=bt rG
    ·replace H:=dm H;obtain rfl:=si H
     go_wp2
     go_ret
     exact ⟨ff,bs HB⟩
    ·replace H:=di H;have H':=am H;clear H
     go_wp2
     go_roundg k1
     case measure=>have:=aQ.o;omega
     case rel=>exact ⟨(wrap64 (aD+1)),fg,H',⟨by have:=aQ.o;omega⟩,⟨bs HB⟩⟩
   ·intro aY H;obtain rfl:=si H
    go_wp2
    go_ret
    exact ⟨ff,bs HB⟩
theorem Pi.calls (k:Nat)(A0:Option Addr)(c0:Nat)(l0:List bn)  (r:Bool) (w:World) (hr0:Kd.C kP w A0 l0.length l0) (hc0:l0.length≤c0) (H:Pi.f k l0=some r) :
  Calls Tryz.prog 124 #[.slice A0 l0.length c0,.func (.func 125) #[] #[]] w fun e w'=>e=.returned (.bool r)∧Below w.heap.size w w':=by
 have bG:=am hr0;have jC:=am hc0;clear hr0 hc0;have HB:=am (Below.refl w.heap.size w);unfold Pi.f at H;replace H:=bo H;obtain ⟨t5,A3,H⟩:=H;obtain rfl:=si H
 go_in
 go_wp2_with (first|((go_at_call 140;refine (xD.calls k _ _ l0  t5 _ ?aR jC.o A3.o).mono ?_;(case aR=>exact sd bG.o);rintro e w4 ⟨rfl,hb⟩);replace HB:=bq HB hb;(try clear hb)))
 go_ret
 exact ⟨ff,bs HB⟩
theorem Lj.calls (k:Nat)(ag:Int)(gN:Option Addr)(fZ:Nat)(aN:List bn)(r:Bool)(w:World)(lW:Kd.C kP w gN aN.length aN)(lV:aN.length≤fZ)(H:Lj.f k ag aN=some r) :
  Calls Tryz.prog 98 #[.agg #[.int .i64 ag,.slice gN aN.length fZ]] w fun e w'=>e=.returned (.bool r)∧Below w.heap.size w w':=by
 have U6:=Tryz.underlying73;have lZ:=am lW;have uu:=am lV;clear lW lV;have HB:=am (Below.refl w.heap.size w);unfold Lj.f at H;replace H:=bo H;obtain ⟨sj,A2,H⟩:=H
 go_in
 try go_wp2_with (first|((with_reducible refine aJ (N:=1) rfl ?_);(try (refine jc (by rfl) ?_;dsimp only));refine bz 1 (cs:=#[.int .i64 ag,.slice gN aN.length fZ]) (t:=73) HB ?_;clear HB;intro Tm hg w3 um GW5 hb HB;clear hb hg;have ZO:=fM um))
 go_at_call 48;refine (Cu.calls ag sj _ A2.o).mono ?_;rintro e w' ⟨rfl,⟨nd,rfl⟩⟩
 obtain rfl|rfl:=bt sj
 ·replace H:=dm H
  revert H;refine Ct ?_ ?_
  ·intro c6 gu H;have nM:decide (aN.length≤40)=true:=decide_eq_true (by omega);clear c6;replace H:=bo H;obtain ⟨t12,A7,H⟩:=H;obtain rfl:=si H;have BU:=fM um
   go_wp2_with (first|(go_at_call 124;refine (Pi.calls k _ _ aN  t12 _ ?aR uu.o A7.o).mono ?_;(case aR=>repeat (first|exact (Kd.bi lZ.o (bs HB))|(with_reducible refine Kd.rO ?_ _)|(with_reducible refine Kd.rQ ?_ _)|(with_reducible refine Kd.rP ?_)));rintro e w9 ⟨rfl,hb⟩;replace um:=bb um hb;replace HB:=bq HB hb;(try clear hb)))
   go_ret
   exact ⟨ff,bs HB⟩
  ·intro c6 gu H;have nM:decide (aN.length≤40)=false:=decide_eq_false (by omega);clear c6;obtain rfl:=si H;have zo:=fM um
   go_wp2
   go_ret
   exact ⟨ff,bs HB⟩
 ·replace H:=di H;obtain rfl:=si H
  go_wp2
  go_ret
  exact ⟨ff,bs HB⟩
theorem Pj.calls (k:Nat)(ag:Int)(gN:Option Addr)(fZ:Nat)(aN:List bn)(r:Bool)(w:World)(lW:Kd.C kP w gN aN.length aN)(lV:aN.length≤fZ)(H:Pj.f k ag aN=some r) :
  Calls Tryz.prog 97 #[.agg #[.int .i64 ag,.slice gN aN.length fZ]] w fun e w'=>e=.returned (.bool r)∧Below w.heap.size w w':=by
 have U6:=Tryz.underlying73;have lZ:=am lW;have uu:=am lV;clear lW lV;have HB:=am (Below.refl w.heap.size w);unfold Pj.f at H;replace H:=bo H;obtain ⟨t7,A2,H⟩:=H;obtain rfl:=si H
 go_in
 go_wp2_with (first|((with_reducible refine aJ (N:=1) rfl ?_);refine bz 1 (cs:=#[.int .i64 ag,.slice gN aN.length fZ]) (t:=73) HB ?_;clear HB;intro tQ hg w3 kL GW6 hb HB;clear hb hg;have TB:w3.cell? ⟨tQ,0,none⟩=some (.int .i64 ag):=(aA kL.o 0).trans rfl;have TC:w3.cell? ⟨tQ,1,none⟩=some (.slice gN aN.length fZ):=(aA kL.o 1).trans rfl;have TE:=bu kL.o 0;have TF:=bu kL.o 1)|((go_at_call 98;refine (Lj.calls k ag _ _ aN t7 _ (Kd.bi lZ.o (bs HB)) uu.o A2.o).mono ?_;rintro e w5 ⟨rfl,hb⟩);replace kL:=bb kL hb;replace HB:=bq HB hb;(try clear hb)))
 go_ret
 exact ⟨ff,bs HB⟩
end Go.Proofs.YtapilmimgiaglaaGreatDoor.QX
