import Derived.Test.YtapilmimgiaglaaGreatDoorKFnExactParcelIx16
set_option maxHeartbeats 8000000
set_option maxRecDepth 100000
set_option linter.unusedSimpArgs false
set_option linter.unusedVariables false
namespace Go.Proofs.YtapilmimgiaglaaGreatDoor.QX
open Go.RowKit Go.Proofs.bB.eH Go.Proofs.bB.PrintLast Go.Proofs.bB.PrintMore
attribute [local go_sem] oU o5 oZ o8 oW o7 oV o6
def gZ.T13:Bool × List (List Nat × List Nat):=(true,[([],[]),([],[]),([1],[1]),([2],[2]),([],[]),([4],[4]),([],[]),([5,6,3],[5,6]),([3,7,7],[3,7]),([8],[8]),([0,9,8],[0,9]),([10,10,0,1,2,3,4,5,6,7,8,9,10],[0,10])])
def gZ.B13:List Nat:=[0,0,2,6,0,16,0,126,254,510,1023,2047]
theorem gZ.aCc:fD .any (opsOf Tryz.f42 13)=gZ.T13:=by kernel_rfl
theorem gZ.atg:jg gZ.T13.2 gZ.B13=true:=by kernel_rfl
theorem gZ.Dr (k:Nat)(ag:Int)(aj ak:ByteArray)(aM:Int)(dB:Option Addr)(dx:Nat)(az:List ByteArray)(dJ:Option Addr)(df:Nat)(ah:List aZ)(r:List bn)(w:World)(lm:Kd.C Kd.string w dB az.length az)(kY:az.length≤dx)(lq:Kd.C iA w dJ ah.length ah)(kZ:ah.length≤df)(hTF:uz w)(H:gZ.f k ag aj ak aM az ah=some r) :
  Calls Tryz.prog 42 #[.agg #[.int .i64 ag,.string aj,.string ak,.int .i64 aM,.slice dB az.length dx,.slice dJ ah.length df]] w fun e w'=>∃ lX:Value,e=.returned (lX)∧Kd.S oO 62 w' w.heap.size (fun k_=>(w.heap.size≤k_)) lX r∧Below w.heap.size w w':=by
 have HTF:=af.mk hTF;clear hTF
 have xq:=Tryz.underlying45;have Dx:=Tryz.underlying95;have oI:=af.mk lm;have rR:=af.mk kY;clear lm kY;have ni:=af.mk lq;have qW:=af.mk kZ;clear lq kZ;have HB:=af.mk (Below.refl w.heap.size w);unfold gZ.f at H;obtain ⟨Eg,afo⟩:∃ y_:List ByteArray,y_=(([aj]:List ByteArray)):=⟨_,rfl⟩
 replace H:((DL.f ag).bind fun P7=>(if P7=true then (if Eg.length<8796093022208 then (gZ.j0 k (Eg++[ak]) ag aj ak aM az ah) else none) else (gZ.j0 k Eg ag aj ak aM az ah)))=some r:=ye afo H
 have aiI:=af.mk afo;clear afo;replace H:=bo H;obtain ⟨P7,A2,H⟩:=H
 go_in
 try go_wp2_with (first|((with_reducible refine aJ (N:=1) rfl ?_);refine bx 1 (cs:=#[.int .i64 ag,.string aj,.string ak,.int .i64 aM,.slice dB az.length dx,.slice dJ ah.length df]) (t:=45) ?_;intro nD hg w3 hbox hb;have dG:=af.mk (hbox);have aDL:=af.mk ((gs hg (bs HB)));have aDw:=af.mk ((gs hg (bs HB)));replace HB:=af.mk (gP (bs HB) hb);clear hb hbox hg;have TB:w3.cell? ⟨nD,0,none⟩=some (.int .i64 ag):=(aA dG.o 0).trans rfl;have TC:w3.cell? ⟨nD,1,none⟩=some (.string aj):=(aA dG.o 1).trans rfl;have aef:w3.cell? ⟨nD,2,none⟩=some (.string ak):=(aA dG.o 2).trans rfl;have akF:w3.cell? ⟨nD,3,none⟩=some (.int .i64 aM):=(aA dG.o 3).trans rfl;have av2:w3.cell? ⟨nD,4,none⟩=some (.slice dB az.length dx):=(aA dG.o 4).trans rfl;have av3:w3.cell? ⟨nD,5,none⟩=some (.slice dJ ah.length df):=(aA dG.o 5).trans rfl;have TE:=bu dG.o 0;have TF:=bu dG.o 1;have aeh:=bu dG.o 2;have akI:=bu dG.o 3;have awx:=bu dG.o 4;have awy:=bu dG.o 5)|((with_reducible refine aJ (N:=11) rfl ?_);refine Kd.NG Kd.string _ 9 ?hg (N:=11) ?hd (xs:=([aj]:List ByteArray)) (inner:=[.string aj]) (ok:=fun _=>True) (okp:=fun _=>True) ?hr ?hp (fun _ hk=>hk) trivial (Below.refl _ _) (Nat.le_refl _) (by simp) ?_;(case hd=>rfl);(case hg=>rfl);(case hr=>first|(go_simp;done)|(go_simp;rfl));(case hp=>exact (aV.one (show Kd.M Kd.string _ _ _ aj [.string aj] from rfl) (aV.none _ _)));intro aCu w5 Cj hb hg_ hnew_;clear hg_ hnew_;(first|rw [← aiI.o] at Cj|(simp only [Int.reduceToNat] at Cj;rw [← aiI.o] at Cj));have Yb:=af.mk (Kd.ic (Kd.NI (M:=fun k_=>(w.heap.size≤k_)) Cj (bJ (bs HB)) (fun k_ h_=>h_)) (bJ (bs HB)));replace dG:=af.mk (aU (ks dG) hb);replace HB:=af.mk (gP (bs HB) hb);clear hb Cj;have BS:=dO dG))
 go_at_call 77;refine (DL.calls ag P7 _ A2.o).mono ?_;rintro e w' ⟨rfl,⟨nd,rfl⟩⟩;have HC8:=af.mk H;clear H
 go_upto_if 14 with (fail)
 go_cut [3] (fun v3 wc=>∃ (kq:Nat) (Xh:List ByteArray),af (gZ.j0 kq Xh ag aj ak aM az ah=some r)∧af (kq≤k)∧af (Kd.R Kd.string 9 wc w.heap.size (fun k_=>(w.heap.size≤k_)) v3 Xh)∧af (wc.heap[nD]? = some (.cells #[.int .i64 ag,.string aj,.string ak,.int .i64 aM,(.slice dB az.length dx),(.slice dJ ah.length df)] 45 (0,0)))∧af (Below w.heap.size w wc))
 case first =>
  have H:=HC8.o;clear HC8
  obtain rfl|rfl:=bt P7
  ·replace H:=dm H
   revert H;refine ku ?_
   intro c10 H;have acH:=af.mk c10;clear c10;obtain ⟨aoO,afp⟩:∃ y_:List ByteArray,y_=(Eg++[ak]):=⟨_,rfl⟩
   replace H:(gZ.j0 k aoO ag aj ak aM az ah)=some r:=ye afp H
   have asc:=af.mk afp;clear afp;have H':=af.mk H;clear H;have zq:=dO dG
   go_wp2_with (first|((with_reducible refine rY (b:=.append) (xs:=#[.tmp 15,.tmp 18]) rfl ?_);at_builtin;refine Kd.uy Kd.string (w0:=w) w.heap.size rfl (.tmp 15) (.tmp 18) 42 9 (.string ⟨#[]⟩) 16 rfl Tryz.underlying42 zC rfl (by decide) (by omega) aCu Eg ak [.string ak] (fun k_=>(w.heap.size≤k_)) (fun _=>False) rfl rfl ?aP (fun _ hk=>hk.elim) ?aF ?aO ?aB ?aS ?aL ?_;(case aP=>exact rfl);(case aB=>exact (bs HB));(case aF=>exact (fun k_ hk=>(Nat.le_trans (bJ (bs HB)) hk)));(case aO=>exact (by (with_reducible repeat (first|apply Kd.kM|apply Kd.jK|apply Kd.eO));exact Kd.dE Yb.o (fun _ hk=>hk.1)));(case aS=>exact (bJ (bs HB)));(case aL=>have:=acH.o;omega);intro aMB nZ ho hb hg hat;rw [← asc.o] at ho;have cK:=af.mk (fV (ks dG) hg (Kd.ko Yb.o dG.o (by decide)));have cO:=af.mk (hb);have dw:=af.mk (ho);clear dG;clear HB;clear Yb;have dG:=cK;have HB:=cO;have aqu:=dw;clear cK cO dw;clear ho hb hg hat))
   go_meet
   case rel=>exact ⟨_,(aoO),H',⟨fl⟩,⟨by (with_reducible repeat (first|apply Kd.kM|apply Kd.jK|apply Kd.eO));exact aqu.o⟩,⟨ks dG⟩,⟨bs HB⟩⟩
  ·replace H:=di H;have H':=af.mk H;clear H
   go_wp2
   go_meet
   case rel=>exact ⟨_,(Eg),H',⟨fl⟩,⟨by (with_reducible repeat (first|apply Kd.kM|apply Kd.jK|apply Kd.eO));exact Kd.dE Yb.o (fun _ hk=>hk.1)⟩,⟨ks dG⟩,⟨bs HB⟩⟩
 case rest =>
  clear HC8
  try clear BS
  obtain ⟨kq,Xh,HA,X0,gU,dG,HB⟩:=hcut
  cases kq with
  | zero=>exact absurd HA.o (by simp [gZ.j0])
  | succ Lr =>
   have H:=HA.o;clear HA;simp only [gZ.j0] at H;replace H:=bo H;obtain ⟨MB,vS,H⟩:=H
   revert H;refine gT ?_ ?_
   ·intro c14 H;have ark:=af.mk c14;clear c14;obtain ⟨Jq,afr⟩:∃ y_:List ByteArray,y_=(Xh++[MB]):=⟨_,rfl⟩
    replace H:((oC.f Lr (⟨#[68,79,67]⟩:ByteArray) Jq).bind fun R8=>(gZ.l0 Lr (([(⟨R8.1,R8.2⟩:bn)]:List bn)) az (az.length:Int) 0 ag aj ak aM az ah))=some r:=ye afr H
    have ase:=af.mk afr;clear afr;replace H:=bo H;obtain ⟨⟨WI,WJ⟩,XH,H⟩:=H;(try dsimp only at H);obtain ⟨aoP,aft⟩:∃ y_:List bn,y_=(([(⟨WI,WJ⟩:bn)]:List bn)):=⟨_,rfl⟩
    replace H:(gZ.l0 Lr aoP az (az.length:Int) 0 ag aj ak aM az ah)=some r:=ye aft H
    have aiL:=af.mk aft;clear aft;have H':=af.mk H;clear H;have zt:=dO dG
    go_wp2_with (first|((first|((with_reducible refine Ti (f:=79) rfl ?_);refine Tt (some 23) rfl rfl Tryz.func79 (by kernel_rfl) rfl #[.int .i64 aM] rfl (by (try simp only [List.map_toArray,List.map_cons,List.map_nil]);first|done|rfl|(simp only [List.length_drop,List.length_take];rfl)) ?_;(with_reducible refine (yC.calls aM MB _ (uQ HTF (bs HB)) vS.o).mono ?_);rintro e MN ⟨rfl,hb⟩;refine ⟨_,rfl,?_⟩)|(go_at_call 79;refine (yC.calls aM MB _ (uQ HTF (bs HB)) vS.o).mono ?_;rintro e MN ⟨rfl,hb⟩));replace gU:=af.mk (Kd.cu (rs gU) hb);replace dG:=af.mk (aU (ks dG) hb);replace HB:=af.mk (gP (bs HB) hb);(try clear hb);(try clear hb2);(try clear hk);(try clear hi))|((with_reducible refine rY (b:=.append) (xs:=#[.tmp 20,.tmp 24]) rfl ?_);at_builtin;refine Kd.uy Kd.string (w0:=w) w.heap.size rfl (.tmp 20) (.tmp 24) 42 9 (.string ⟨#[]⟩) 16 rfl Tryz.underlying42 zC rfl (by decide) (by omega) u3 Xh MB [.string MB] (fun k_=>(w.heap.size≤k_)) (fun _=>False) rfl rfl ?aP (fun _ hk=>hk.elim) ?aF ?aO ?aB ?aS ?aL ?_;(case aP=>exact rfl);(case aB=>exact (bs HB));(case aF=>exact (fun k_ hk=>(Nat.le_trans (bJ (bs HB)) hk)));(case aO=>exact (rs gU));(case aS=>exact (bJ (bs HB)));(case aL=>have:=ark.o;omega);intro aMC xR ho hb hg hat;rw [← ase.o] at ho;have cK:=af.mk (fV (ks dG) hg (Kd.ko gU.o dG.o (by decide)));have cO:=af.mk (hb);have dw:=af.mk (ho);clear dG;clear HB;clear gU;have dG:=cK;have HB:=cO;have Bn:=dw;clear cK cO dw;clear ho hb hg hat;obtain ⟨QW,SG,avb⟩:=Kd.gW Bn.o;subst avb)|((first|((with_reducible refine Ti (f:=78) rfl ?_);refine Tt (some 26) rfl rfl Tryz.func78 (by kernel_rfl) rfl #[.string (⟨#[68,79,67]⟩:ByteArray),.slice QW Jq.length SG] rfl (by (try simp only [List.map_toArray,List.map_cons,List.map_nil]);first|done|rfl|(simp only [List.length_drop,List.length_take];rfl)) ?_;(with_reducible refine (oC.calls Lr (⟨#[68,79,67]⟩:ByteArray) _ _ Jq WI WJ _ ?aR ?bg XH.o).mono ?_);(case aR=>repeat (first|exact (Kd.dH Bn.o).2.2|(with_reducible refine Kd.rO ?_ _)|(with_reducible refine Kd.rQ ?_ _)|(with_reducible refine Kd.rP ?_)));(case bg=>exact (Kd.dH Bn.o).2.1);rintro e uj ⟨aCv,rfl,ho0,hb⟩;refine ⟨_,rfl,?_⟩)|(go_at_call 78;refine (oC.calls Lr (⟨#[68,79,67]⟩:ByteArray) _ _ Jq WI WJ _ ?aR ?bg XH.o).mono ?_;(case aR=>repeat (first|exact (Kd.dH Bn.o).2.2|(with_reducible refine Kd.rO ?_ _)|(with_reducible refine Kd.rQ ?_ _)|(with_reducible refine Kd.rP ?_)));(case bg=>exact (Kd.dH Bn.o).2.1);rintro e uj ⟨aCv,rfl,ho0,hb⟩));have ack:=af.mk (Kd.mM (Kd.eF (ok':=fun k_=>(w.heap.size≤k_)∧some k_≠(.slice QW Jq.length SG:Value).ownBlock∧k_≠nD) (Kd.pQ ho0) (fun k_ hk_=>⟨(Nat.le_trans (bJ (bs HB)) hk_.2.1),(Kd.fresh' (Kd.kU (rs Bn)) k_ hk_.2.1),(Kd.vC (g:=nD) (o:=.cells #[.int .i64 ag,.string aj,.string ak,.int .i64 aM,.slice dB az.length dx,.slice dJ ah.length df] 45 (0,0)) (ks dG) k_ hk_.2.1)⟩)) (bJ (bs HB)));replace Bn:=af.mk (Kd.cu (rs Bn) hb);replace dG:=af.mk (aU (ks dG) hb);replace HB:=af.mk (gP (bs HB) hb);(try clear hb);(try clear hb2);(try clear hk);(try clear hi);(try clear ho0);obtain ⟨XI,Zm,Zw⟩:=Kd.ji ack.o;subst Zw)|((with_reducible refine aJ (N:=27) rfl ?_);refine Kd.ai1 oO (w0:=w) w.heap.size 62 ?hg (N:=27) ?hd (xs:=([(⟨WI,WJ⟩:bn)]:List bn)) (inner:=[.string WI,.slice XI WJ.length Zm]) (ok:=(fun k_=>(w.heap.size≤k_)∧some k_≠(.slice QW Jq.length SG:Value).ownBlock∧k_≠nD)) (fun j_ k_=>j_=0∧(fun k_=>(w.heap.size≤k_)∧some k_≠(.slice QW Jq.length SG:Value).ownBlock∧k_≠nD) k_) ?hr rfl ?hp (fun _ _ _ h1 h2=>h1.1.trans h2.1.symm) (fun _ _ h=>h.2) ((show ∀ k_,uj.heap.size≤k_→(fun k_=>(w.heap.size≤k_)∧some k_≠(.slice QW Jq.length SG:Value).ownBlock∧k_≠nD) k_ from fun k_ hk=>⟨(Nat.le_trans (bJ (bs HB)) hk),Kd.fresh' (Kd.kU (rs Bn)) k_ hk,Kd.vC (g:=nD) (o:=.cells #[.int .i64 ag,.string aj,.string ak,.int .i64 aM,.slice dB az.length dx,.slice dJ ah.length df] 45 (0,0)) (ks dG) k_ hk⟩) _ (Nat.le_refl _)) (bs HB) (bJ (bs HB)) (by simp) ?_;(case hd=>rfl);(case hg=>rfl);(case hr=>first|(go_simp;done)|(go_simp;rfl));(case hp=>intro j_ x_ hx_;rcases j_ with _|j_;(obtain rfl:=Option.some.inj hx_;exact ⟨_,rfl,Kd.eF ack.o (fun k_ hk=>⟨rfl,⟨hk.1,⟨hk.2.1,hk.2.2⟩⟩⟩)⟩);exact absurd hx_ (by simp));intro aMD CK Cg hb hg_ hnew_;clear hnew_;(first|rw [← aiL.o] at Cg|(simp only [Int.reduceToNat] at Cg;rw [← aiL.o] at Cg));have cK:=True.intro;have cO:=af.mk Cg;have dw:=af.mk (fV (ks dG) hg_ (fun e_=>nomatch e_));have iB:=af.mk hb;clear Bn;clear dG;clear HB;clear ack;have Bn:=cK;have aqv:=cO;have dG:=dw;have HB:=iB;clear cK cO dw iB;clear hb Cg hg_;have Oq:=dO dG))
    go_loopg [4,31] Lr (fun kq v4 v31 w'=>∃ (mX:List bn) (yM:Int),v31=.int .i64 yM∧af (gZ.l0 kq mX az (az.length:Int) yM ag aj ak aM az ah=some r)∧af (kq≤Lr)∧af (Kd.S oO 62 w' w.heap.size (fun k_=>(w.heap.size≤k_)∧k_≠nD) v4 mX)∧af (w'.heap[nD]? = some (.cells #[.int .i64 ag,.string aj,.string ak,.int .i64 aM,(.slice dB az.length dx),(.slice dJ ah.length df)] 45 (0,0)))∧af (Below w.heap.size w w'))
    case atStart=>exact ⟨(aoP),(0),fg,H',⟨Nat.le_refl _⟩,⟨by (with_reducible repeat (first|apply Kd.iH|apply Kd.iJ|apply Kd.fU));exact Kd.eF aqv.o (fun _ hk=>⟨hk.1,hk.2.2⟩)⟩,⟨ks dG⟩,⟨bs HB⟩⟩
    case round =>
     clear H'
     try clear c2
     try clear c14
     try clear zt
     try clear Oq
     try clear BS
     try clear dG
     obtain ⟨mX,yM,rfl,HA,dD,gH,dG,HB⟩:=hrel
     cases gk with
     | zero=>exact absurd HA.o (by simp [gZ.l0])
     | succ k2 =>
      have H:=HA.o;clear HA;simp only [gZ.l0] at H
      revert H;refine bK ?_ ?_
      ·intro Dq H
       revert H;refine bv ?_
       intro Sk H
       revert H;refine bv ?_
       intro Kt H;obtain ⟨M7,afu⟩:∃ y_:List ByteArray,y_=(([bA ByteArray.empty az yM]:List ByteArray)):=⟨_,rfl⟩
       replace H:((oC.f k2 (⟨#[78,79,84]⟩:ByteArray) M7).bind fun R9=>(if mX.length<3518437208883 then (gZ.l0 k2 (mX++[(⟨R9.1,R9.2⟩:bn)]) az (az.length:Int) (wrap64 (yM+1)) ag aj ak aM az ah) else none))=some r:=ye afu H
       have aiM:=af.mk afu;clear afu;replace H:=bo H;obtain ⟨⟨WK,WL⟩,CW,H⟩:=H;(try dsimp only at H)
       revert H;refine ku ?_
       intro vz H;have aru:=af.mk vz;clear vz;obtain ⟨aoQ,afw⟩:∃ y_:List bn,y_=(mX++[(⟨WK,WL⟩:bn)]):=⟨_,rfl⟩
       replace H:(gZ.l0 k2 aoQ az (az.length:Int) (wrap64 (yM+1)) ag aj ak aM az ah)=some r:=ye afw H
       have asg:=af.mk afw;clear afw;have H':=af.mk H;clear H;have af6:0≤(yM:Int):=oa;have agi:yM<(az.length:Int):=oa;obtain ⟨ai9,auQ,amH⟩:=Kd.jw oI.o yM af6 agi
       cases auQ
       replace amH:=cb HB amH;replace af6:=eq_true af6;replace agi:=eq_true agi
       go_wp2_with (first|((with_reducible refine aJ (N:=37) rfl ?_);refine Kd.NG Kd.string _ 9 ?hg (N:=37) ?hd (xs:=([bA ByteArray.empty az yM]:List ByteArray)) (inner:=[.string (bA ByteArray.empty az yM)]) (ok:=fun _=>True) (okp:=fun _=>True) ?hr ?hp (fun _ hk=>hk) trivial (Below.refl _ _) (Nat.le_refl _) (by simp) ?_;(case hd=>rfl);(case hg=>rfl);(case hr=>first|(go_simp;done)|(go_simp;rfl));(case hp=>exact (aV.one (show Kd.M Kd.string _ _ _ (bA ByteArray.empty az yM) [.string (bA ByteArray.empty az yM)] from rfl) (aV.none _ _)));intro aME uk oL hb hg_ hnew_;clear hg_ hnew_;(first|rw [← aiM.o] at oL|(simp only [Int.reduceToNat] at oL;rw [← aiM.o] at oL));have cK:=af.mk (Kd.RJ (by (with_reducible repeat (first|apply Kd.iH|apply Kd.iJ|apply Kd.fU));exact gH.o) (Kd.qZ oL) hb);have cO:=af.mk (Kd.ic (Kd.NI (M:=fun k_=>(w.heap.size≤k_)) oL (bJ (bs HB)) (fun k_ h_=>h_)) (bJ (bs HB)));have dw:=af.mk (aU (ks dG) hb);have iB:=af.mk (gP (bs HB) hb);clear gH;clear dG;clear HB;have gH:=cK;have y7:=cO;have dG:=dw;have HB:=iB;clear cK cO dw iB;clear hb oL;obtain ⟨Nc,Oe,Zx⟩:=Kd.gW y7.o;subst Zx)|((first|((with_reducible refine Ti (f:=78) rfl ?_);refine Tt (some 38) rfl rfl Tryz.func78 (by kernel_rfl) rfl #[.string (⟨#[78,79,84]⟩:ByteArray),.slice Nc M7.length Oe] rfl (by (try simp only [List.map_toArray,List.map_cons,List.map_nil]);first|done|rfl|(simp only [List.length_drop,List.length_take];rfl)) ?_;(with_reducible refine (oC.calls k2 (⟨#[78,79,84]⟩:ByteArray) _ _ M7 WK WL _ ?aR ?bg CW.o).mono ?_);(case aR=>repeat (first|exact (Kd.dH y7.o).2.2|(with_reducible refine Kd.rO ?_ _)|(with_reducible refine Kd.rQ ?_ _)|(with_reducible refine Kd.rP ?_)));(case bg=>exact (Kd.dH y7.o).2.1);rintro e Jf ⟨aCw,rfl,ho0,hb⟩;refine ⟨_,rfl,?_⟩)|(go_at_call 78;refine (oC.calls k2 (⟨#[78,79,84]⟩:ByteArray) _ _ M7 WK WL _ ?aR ?bg CW.o).mono ?_;(case aR=>repeat (first|exact (Kd.dH y7.o).2.2|(with_reducible refine Kd.rO ?_ _)|(with_reducible refine Kd.rQ ?_ _)|(with_reducible refine Kd.rP ?_)));(case bg=>exact (Kd.dH y7.o).2.1);rintro e Jf ⟨aCw,rfl,ho0,hb⟩));have cK:=af.mk (Yx (by (with_reducible repeat (first|apply Kd.iH|apply Kd.iJ|apply Kd.fU));exact gH.o) (Kd.Yw ho0) hb);have cO:=af.mk (Kd.cu (rs y7) hb);have dw:=af.mk (Kd.mM (Kd.eF (ok':=fun k_=>((w.heap.size≤k_)∧some k_≠(u4:Value).ownBlock∧some k_≠(.slice Nc M7.length Oe:Value).ownBlock∧k_≠nD)∧uk.heap.size≤k_) (Kd.pQ ho0) (fun k_ hk_=>⟨⟨(Nat.le_trans (bJ (bs HB)) hk_.2.1),(Kd.fresh' (Kd.Yy (by (with_reducible repeat (first|apply Kd.iH|apply Kd.iJ|apply Kd.fU));exact gH.o)) k_ hk_.2.1),(Kd.fresh' (Kd.kU (rs y7)) k_ hk_.2.1),(Kd.vC (g:=nD) (o:=.cells #[.int .i64 ag,.string aj,.string ak,.int .i64 aM,.slice (some ai9) az.length dx,.slice dJ ah.length df] 45 (0,0)) (ks dG) k_ hk_.2.1)⟩,hk_.2.1⟩)) (bJ (bs HB)));have iB:=af.mk (aU (ks dG) hb);have nG:=af.mk (gP (bs HB) hb);clear gH;clear y7;clear dG;clear HB;have gH:=cK;have y7:=cO;have acl:=dw;have dG:=iB;have HB:=nG;clear cK cO dw iB nG;(try clear hb);(try clear hb2);(try clear hk);(try clear hi);(try clear ho0);obtain ⟨apj,auu,avh⟩:=Kd.ji acl.o;subst avh)|((with_reducible refine rY (b:=.append) (xs:=#[.tmp 35,.tmp 39]) rfl ?_);at_builtin;refine Kd.Yv oO (w0:=w) w.heap.size rfl (.tmp 35) (.tmp 39) 57 62 (.agg #[(.string ⟨#[]⟩),(.slice none 0 0)]) 40 rfl Tryz.underlying57 V7 rfl (by decide) (by omega) u4 mX (⟨WK,WL⟩:bn) [.string WK,.slice apj WL.length auu] (fun k_=>(w.heap.size≤k_)∧some k_≠(.slice Nc M7.length Oe:Value).ownBlock∧k_≠nD) (fun k_=>(fun k_=>((fun k_=>(w.heap.size≤k_)∧some k_≠(.slice Nc M7.length Oe:Value).ownBlock∧k_≠nD)) k_∧some k_≠(u4:Value).ownBlock) k_∧uk.heap.size≤k_) rfl rfl ?aP (fun _ hk=>hk.1) ?aF ?aO ?aB ?aS ?aL ?_;(case aP=>exact ⟨_,rfl,Kd.eF acl.o (fun k_ hk=>⟨⟨⟨hk.1.1,⟨hk.1.2.2.1,hk.1.2.2.2⟩⟩,hk.1.2.1⟩,hk.2⟩)⟩);(case aB=>exact (bs HB));(case aF=>exact (fun k_ hk=>⟨(Nat.le_trans (bJ (bs HB)) hk),Kd.fresh' (Kd.kU (rs y7)) k_ hk,Kd.vC (g:=nD) (o:=.cells #[.int .i64 ag,.string aj,.string ak,.int .i64 aM,.slice (some ai9) az.length dx,.slice dJ ah.length df] 45 (0,0)) (ks dG) k_ hk⟩));(case aO=>exact (by (with_reducible repeat (first|apply Kd.iH|apply Kd.iJ|apply Kd.fU));exact Kd.eF gH.o (fun _ hk=>⟨⟨hk.1.1.1.1,⟨hk.1.1.2,hk.1.1.1.2⟩⟩,fun hT_=>Nat.not_le_of_lt hk.2 hT_.2⟩)));(case aS=>exact (bJ (bs HB)));(case aL=>have:=aru.o;omega);intro aMF CO ho hb hg hat;rw [← asg.o] at ho;have cK:=af.mk (fV (ks dG) hg (Kd.EJ gH.o dG.o (by decide)));have cO:=af.mk (Kd.GM (rs y7) (Kd.Bv (by (with_reducible repeat (first|apply Kd.iH|apply Kd.iJ|apply Kd.fU));exact gH.o)) (by decide) hg);have dw:=af.mk (hb);have iB:=af.mk (ho);clear dG;clear y7;clear HB;clear gH;clear acl;have dG:=cK;have y7:=cO;have HB:=dw;have aqw:=iB;clear cK cO dw iB;clear ho hb hg hat))
       go_roundg k2
       case measure=>have:=X0.o;have:=dD.o;omega
       case rel=>exact ⟨(aoQ),(wrap64 (yM+1)),fg,H',⟨by have:=X0.o;have:=dD.o;omega⟩,⟨by (with_reducible repeat (first|apply Kd.iH|apply Kd.iJ|apply Kd.fU));exact Kd.eF aqw.o (fun _ hk=>⟨hk.1,hk.2.2⟩)⟩,⟨ks dG⟩,⟨bs HB⟩⟩
      ·intro Dq H;have H':=af.mk H;clear H;have Ou:=dO dG
       go_wp2
       go_loopg [4,45] k2 (fun kq v4 v45 w'=>∃ (Bd:List bn) (gL:Int),v45=.int .i64 gL∧af (gZ.l1 kq Bd ah (ah.length:Int) gL ag aj ak aM az ah=some r)∧af (kq≤k2)∧af (Kd.S oO 62 w' w.heap.size (fun k_=>(w.heap.size≤k_)∧k_≠nD) v4 Bd)∧af (w'.heap[nD]? = some (.cells #[.int .i64 ag,.string aj,.string ak,.int .i64 aM,(.slice dB az.length dx),(.slice dJ ah.length df)] 45 (0,0)))∧af (Below w.heap.size w w'))
       case atStart=>exact ⟨(mX),(0),fg,H',⟨Nat.le_refl _⟩,⟨by (with_reducible repeat (first|apply Kd.iH|apply Kd.iJ|apply Kd.fU));exact gH.o⟩,⟨ks dG⟩,⟨bs HB⟩⟩
       case round =>
        clear H'
        try clear c2
        try clear c14
        try clear Dq
        try clear zt
        try clear Oq
        try clear Ou
        try clear BS
        try clear dG
        obtain ⟨Bd,gL,rfl,HA,rU,gH,dG,HB⟩:=hrel
        cases gk with
        | zero=>exact absurd HA.o (by simp [gZ.l1])
        | succ k3 =>
         have H:=HA.o;clear HA;simp only [gZ.l1] at H
         revert H;refine bK ?_ ?_
         ·intro ET H
          revert H;refine bv ?_
          intro Hf H
          revert H;refine bv ?_
          intro Sm H;replace H:=bo H;obtain ⟨WM,A40,H⟩:=H;replace H:=bo H;obtain ⟨I7,QQ,H⟩:=H;replace H:=bo H;obtain ⟨⟨aaZ,aa0⟩,A42,H⟩:=H;(try dsimp only at H)
          revert H;refine ku ?_
          intro c43 H;have arz:=af.mk c43;clear c43;obtain ⟨aoR,afy⟩:∃ y_:List bn,y_=(Bd++[(⟨aaZ,aa0⟩:bn)]):=⟨_,rfl⟩
          replace H:(gZ.l1 k3 aoR ah (ah.length:Int) (wrap64 (gL+1)) ag aj ak aM az ah)=some r:=ye afy H
          have asi:=af.mk afy;clear afy;have H':=af.mk H;clear H;have af7:0≤(gL:Int):=oa;have agj:gL<(ah.length:Int):=oa;obtain ⟨aja,auR,amI,amJ,amK,amL,amM⟩:=uA ni.o gL af7 agj
          cases auR
          replace amI:=cb HB amI;replace amJ:=cb HB amJ;replace amK:=cb HB amK;replace amL:=cb HB amL;replace amM:=cb HB amM;replace af7:=eq_true af7;replace agj:=eq_true agj
          try go_wp2_with (first|((with_reducible refine aJ (N:=8) rfl ?_);refine bx 8 (cs:=#[.int .i64 0,.string (⟨#[]⟩:ByteArray),.int .i64 0,.int .i64 0,.string (⟨#[]⟩:ByteArray)]) (t:=95) ?_;intro ky hg F9 hbox hb;have cK:=af.mk (Kd.l6 (Kd.asA (by (with_reducible repeat (first|apply Kd.iH|apply Kd.iJ|apply Kd.fU));exact gH.o) ky (Nat.le_of_eq hg.symm)) hb);have cO:=af.mk (aU (ks dG) hb);have dw:=af.mk (gP (bs HB) hb);have iB:=af.mk (hbox);have nG:=af.mk ((gs hg (bs HB)));have wR:=af.mk ((gs hg (bs HB)));have zG:=af.mk ((gn hg (ks dG)));have Wh:=af.mk ((gm hg (ks dG)));clear gH;clear dG;clear HB;have gH:=cK;have dG:=cO;have HB:=dw;have lT:=iB;have aDN:=nG;have aDx:=wR;have arU:=zG;have arV:=Wh;clear cK cO dw iB nG wR zG Wh;clear hb hbox hg;have awU:=arV.o;have axg:=arU.o;have akD:=kW lT))
          have cK:af (Kd.S oO 62 (((((F9.setCell ⟨ky,0,none⟩ (.int .i64 ((ai ah gL).f0))).setCell ⟨ky,1,none⟩ (.string ((ai ah gL).f1))).setCell ⟨ky,2,none⟩ (.int .i64 ((ai ah gL).f2))).setCell ⟨ky,3,none⟩ (.int .i64 ((ai ah gL).f3))).setCell ⟨ky,4,none⟩ (.string ((ai ah gL).f4))) w.heap.size (fun k_=>(w.heap.size≤k_)∧k_≠nD∧k_≠ky) u4 Bd):=⟨by (with_reducible repeat (first|apply Kd.iH|apply Kd.iJ|apply Kd.fU));exact Kd.eF (Kd.jv (p:=⟨ky,4,none⟩) (Kd.jv (p:=⟨ky,3,none⟩) (Kd.jv (p:=⟨ky,2,none⟩) (Kd.jv (p:=⟨ky,1,none⟩) (Kd.jv (p:=⟨ky,0,none⟩) (Kd.eF gH.o (fun k_ hk=>(⟨hk,hk.2⟩:_∧k_≠ky))) (fun _ hk=>hk.2) (.int .i64 ((ai ah gL).f0))) (fun _ hk=>hk.2) (.string ((ai ah gL).f1))) (fun _ hk=>hk.2) (.int .i64 ((ai ah gL).f2))) (fun _ hk=>hk.2) (.int .i64 ((ai ah gL).f3))) (fun _ hk=>hk.2) (.string ((ai ah gL).f4))) (fun _ hk=>⟨hk.1.1.1,⟨hk.1.1.2,hk.1.2⟩⟩)⟩;have cO:=kz (((((F9.setCell ⟨ky,0,none⟩ (.int .i64 ((ai ah gL).f0))).setCell ⟨ky,1,none⟩ (.string ((ai ah gL).f1))).setCell ⟨ky,2,none⟩ (.int .i64 ((ai ah gL).f2))).setCell ⟨ky,3,none⟩ (.int .i64 ((ai ah gL).f3))).setCell ⟨ky,4,none⟩ (.string ((ai ah gL).f4))) dG;have dw:af ((((((F9.setCell ⟨ky,0,none⟩ (.int .i64 ((ai ah gL).f0))).setCell ⟨ky,1,none⟩ (.string ((ai ah gL).f1))).setCell ⟨ky,2,none⟩ (.int .i64 ((ai ah gL).f2))).setCell ⟨ky,3,none⟩ (.int .i64 ((ai ah gL).f3))).setCell ⟨ky,4,none⟩ (.string ((ai ah gL).f4))).heap[ky]? = some (.cells #[.int .i64 ((ai ah gL).f0),.string ((ai ah gL).f1),.int .i64 ((ai ah gL).f2),.int .i64 ((ai ah gL).f3),.string ((ai ah gL).f4)] 95 (0,0))):=⟨kp lT⟩;have iB:af (Below w.heap.size w (((((F9.setCell ⟨ky,0,none⟩ (.int .i64 ((ai ah gL).f0))).setCell ⟨ky,1,none⟩ (.string ((ai ah gL).f1))).setCell ⟨ky,2,none⟩ (.int .i64 ((ai ah gL).f2))).setCell ⟨ky,3,none⟩ (.int .i64 ((ai ah gL).f3))).setCell ⟨ky,4,none⟩ (.string ((ai ah gL).f4)))):=⟨bs HB⟩;(try clear gH);(try clear dG);(try clear lT);(try clear HB)
          generalize (((((F9.setCell ⟨ky,0,none⟩ (.int .i64 ((ai ah gL).f0))).setCell ⟨ky,1,none⟩ (.string ((ai ah gL).f1))).setCell ⟨ky,2,none⟩ (.int .i64 ((ai ah gL).f2))).setCell ⟨ky,3,none⟩ (.int .i64 ((ai ah gL).f3))).setCell ⟨ky,4,none⟩ (.string ((ai ah gL).f4)))=WW at cK cO dw iB ⊢
          have gH:=cK;have dG:=cO;have lT:=dw;have HB:=iB;clear cK cO dw iB;replace gH:=af.mk (Kd.fU gH.o);replace dG:=af.mk (bD dG.o);replace lT:=af.mk (bD lT.o);replace HB:=af.mk (cZ HB.o);refine gD 12 (qJ dG (hb5 lT)) (fun hHeld=>?_);refine fu gZ.aCc gZ.atg (fun HT_ HW_=>?_)
          generalize WW.drew=WX at gH dG lT HB hHeld ⊢
          refine pA 0 49 HT_ ?_;refine pA 1 50 HT_ ?_;refine pA 4 53 HT_ ?_;refine tA 2 51 HT_ HW_ hHeld ?_;refine tA 5 54 HT_ HW_ hHeld ?_;refine tA 6 55 HT_ HW_ hHeld ?_;refine oA 3 52 HT_ (fun K hK=>?_);refine gA Tryz.func80 #[.int .i64 ag] ?_;(with_reducible refine (Li.calls k3 ag WM _ A40.o).mono ?_);rintro e Qf ⟨rfl,hb⟩;refine ⟨_,rfl,?_⟩;have cK:=af.mk (Kd.l6 (by (with_reducible repeat (first|apply Kd.iH|apply Kd.iJ|apply Kd.fU));exact gH.o) hb);have cO:=af.mk (aU (ks dG) hb);have dw:=af.mk (aU (ks lT) hb);have iB:=af.mk (gP (bs HB) hb);clear gH;clear dG;clear lT;clear HB;have gH:=cK;have dG:=cO;have lT:=dw;have HB:=iB;clear cK cO dw iB;(try clear hb);(try clear hb2);(try clear hk);(try clear hi);refine hK.out _ _ (qJ dG (hb5 lT)).o (fun hHeld=>?_);clear hK K;refine nA 52 ?_;refine oA 7 56 HT_ (fun K hK=>?_);refine gA Tryz.func81 #[.int .i64 ag,.agg #[.int .i64 ((ai ah gL).f0),.string ((ai ah gL).f1),.int .i64 ((ai ah gL).f2),.int .i64 ((ai ah gL).f3),.string ((ai ah gL).f4)]] ?_;(with_reducible refine (oM.calls k3 ag ((ai ah gL).f0) ((ai ah gL).f1) ((ai ah gL).f2) ((ai ah gL).f3) ((ai ah gL).f4) I7 _ (uQ HTF (bs HB)) QQ.o).mono ?_);rintro e WY ⟨aMG,rfl,ho0,hb⟩;refine ⟨_,rfl,?_⟩;have cK:=af.mk (Kd.RJ (by (with_reducible repeat (first|apply Kd.iH|apply Kd.iJ|apply Kd.fU));exact gH.o) (Kd.qZ ho0) hb);have cO:=af.mk (Kd.ic (Kd.NI (M:=fun k_=>(w.heap.size≤k_)) ho0 (bJ (bs HB)) (fun k_ h_=>h_)) (bJ (bs HB)));have dw:=af.mk (aU (ks dG) hb);have iB:=af.mk (aU (ks lT) hb);have nG:=af.mk (gP (bs HB) hb);clear gH;clear dG;clear lT;clear HB;have gH:=cK;have Bo:=cO;have dG:=dw;have lT:=iB;have HB:=nG;clear cK cO dw iB nG;(try clear hb);(try clear hb2);(try clear hk);(try clear hi);(try clear ho0);obtain ⟨QZ,SI,Tc⟩:=Kd.gW Bo.o
          (first|subst Tc|(injection Tc with fO jy fP;have jA:=fO.symm;have jB:=fP.symm;clear fO jy fP;subst jA;subst jB))
          refine hK.out _ _ (qJ dG (hb5 lT)).o (fun hHeld=>?_);clear hK K;refine nA 56 ?_;refine oA 8 57 HT_ (fun K hK=>?_);refine gA Tryz.func78 #[.string WM,.slice QZ I7.length SI] ?_;(with_reducible refine (oC.calls k3 WM _ _ I7 aaZ aa0 _ ?aR ?bg A42.o).mono ?_)
          (case aR=>repeat (first|exact (Kd.dH Bo.o).2.2|(with_reducible refine Kd.rO ?_ _)|(with_reducible refine Kd.rQ ?_ _)|(with_reducible refine Kd.rP ?_)))
          (case bg=>exact (Kd.dH Bo.o).2.1)
          rintro e w52 ⟨aMH,rfl,ho0,hb⟩;refine ⟨_,rfl,?_⟩;have cK:=af.mk (Yx (by (with_reducible repeat (first|apply Kd.iH|apply Kd.iJ|apply Kd.fU));exact gH.o) (Kd.Yw ho0) hb);have cO:=af.mk (Kd.cu (rs Bo) hb);have dw:=af.mk (Kd.mM (Kd.eF (ok':=fun k_=>((w.heap.size≤k_)∧some k_≠(u4:Value).ownBlock∧some k_≠(.slice QZ I7.length SI:Value).ownBlock∧k_≠nD∧k_≠ky)∧WY.heap.size≤k_) (Kd.pQ ho0) (fun k_ hk_=>⟨⟨(Nat.le_trans (bJ (bs HB)) hk_.2.1),(Kd.fresh' (Kd.Yy (by (with_reducible repeat (first|apply Kd.iH|apply Kd.iJ|apply Kd.fU));exact gH.o)) k_ hk_.2.1),(Kd.fresh' (Kd.kU (rs Bo)) k_ hk_.2.1),(Kd.vC (g:=nD) (o:=.cells #[.int .i64 ag,.string aj,.string ak,.int .i64 aM,.slice dB az.length dx,.slice (some aja) ah.length df] 45 (0,0)) (ks dG) k_ hk_.2.1),(Kd.vC (g:=ky) (o:=.cells #[.int .i64 ((ai ah gL).f0),.string ((ai ah gL).f1),.int .i64 ((ai ah gL).f2),.int .i64 ((ai ah gL).f3),.string ((ai ah gL).f4)] 95 (0,0)) (ks lT) k_ hk_.2.1)⟩,hk_.2.1⟩)) (bJ (bs HB)));have iB:=af.mk (aU (ks dG) hb);have nG:=af.mk (aU (ks lT) hb);have wR:=af.mk (gP (bs HB) hb);clear gH;clear Bo;clear dG;clear lT;clear HB;have gH:=cK;have Bo:=cO;have acm:=dw;have dG:=iB;have lT:=nG;have HB:=wR;clear cK cO dw iB nG wR;(try clear hb);(try clear hb2);(try clear hk);(try clear hi);(try clear ho0);obtain ⟨ahy,ajZ,Td⟩:=Kd.ji acm.o
          (first|subst Td|(injection Td with fO jy fP;have jA:=fO.symm;have jB:=fP.symm;clear fO jy fP;subst jA;subst jB))
          refine hK.out _ _ (qJ dG (hb5 lT)).o (fun hHeld=>?_);clear hK K;refine nA 57 ?_;refine oA 9 58 HT_ (fun K hK=>?_);refine F8 (w1:=?_) (v:=?_) (by rfl) rfl ?_ ?_
          rotate_left 2
          ·go_simp
           constructor
           ·rfl
           ·rfl
          refine hK.out _ _ ⟨(aA (eY dG.o _) 0).trans rfl,(aA (eY dG.o _) 1).trans rfl,(aA (eY dG.o _) 2).trans rfl,(aA (eY dG.o _) 3).trans rfl,(aA (eY dG.o _) 4).trans rfl,(aA (eY dG.o _) 5).trans rfl,(aA (eY lT.o _) 0).trans rfl,(aA (eY lT.o _) 1).trans rfl,(aA (eY lT.o _) 2).trans rfl,(aA (eY lT.o _) 3).trans rfl,(aA (eY lT.o _) 4).trans rfl⟩ (fun hHeld=>?_);clear hK K;refine nA 58 ?_;refine oA 10 59 HT_ (fun K hK=>?_);refine Kd.NL oO (w0:=w) w.heap.size (by rfl) (.tmp 49) (.tmp 58) 57 62 (.agg #[(.string ⟨#[]⟩),(.slice none 0 0)]) 40 rfl Tryz.underlying57 V7 rfl (by decide) (by omega) u4 Bd (⟨aaZ,aa0⟩:bn) [.string aaZ,.slice ahy aa0.length ajZ] (fun k_=>(w.heap.size≤k_)∧some k_≠(.slice QZ I7.length SI:Value).ownBlock∧k_≠nD∧k_≠ky) (fun k_=>(fun k_=>((fun k_=>(w.heap.size≤k_)∧some k_≠(.slice QZ I7.length SI:Value).ownBlock∧k_≠nD∧k_≠ky)) k_∧some k_≠(u4:Value).ownBlock) k_∧WY.heap.size≤k_) rfl rfl ?aP (fun _ hk=>hk.1) ?aF ?aO ?aB ?aS ?aL ?_
          (case aP=>exact ⟨_,rfl,Kd.eF acm.o (fun k_ hk=>⟨⟨⟨hk.1.1,⟨hk.1.2.2.1,⟨hk.1.2.2.2.1,hk.1.2.2.2.2⟩⟩⟩,hk.1.2.1⟩,hk.2⟩)⟩)
          (case aB=>exact (bs HB))
          (case aF=>exact (fun k_ hk=>⟨(Nat.le_trans (bJ (bs HB)) hk),Kd.fresh' (Kd.kU (rs Bo)) k_ hk,Kd.vC (g:=nD) (o:=.cells #[.int .i64 ag,.string aj,.string ak,.int .i64 aM,.slice dB az.length dx,.slice (some aja) ah.length df] 45 (0,0)) (ks dG) k_ hk,Kd.vC (g:=ky) (o:=.cells #[.int .i64 ((ai ah gL).f0),.string ((ai ah gL).f1),.int .i64 ((ai ah gL).f2),.int .i64 ((ai ah gL).f3),.string ((ai ah gL).f4)] 95 (0,0)) (ks lT) k_ hk⟩))
          (case aO=>exact (by (with_reducible repeat (first|apply Kd.iH|apply Kd.iJ|apply Kd.fU));exact Kd.eF gH.o (fun _ hk=>⟨⟨hk.1.1.1.1,⟨hk.1.1.2,⟨hk.1.1.1.2.1,hk.1.1.1.2.2⟩⟩⟩,fun hT_=>Nat.not_le_of_lt hk.2 hT_.2⟩)))
          (case aS=>exact (bJ (bs HB)))
          (case aL=>have:=arz.o;omega)
          intro aMI w53 ho hb hg hat
          rw [← asi.o] at ho
          have cK:=af.mk (fV (ks dG) hg (Kd.EJ gH.o dG.o (by decide)));have cO:=af.mk (fV (ks lT) hg (Kd.EJ gH.o lT.o (by decide)));have dw:=af.mk (Kd.GM (rs Bo) (Kd.Bv (by (with_reducible repeat (first|apply Kd.iH|apply Kd.iJ|apply Kd.fU));exact gH.o)) (by decide) hg);have iB:=af.mk (hb);have nG:=af.mk (ho);clear dG;clear lT;clear Bo;clear HB;clear gH;clear acm;have dG:=cK;have lT:=cO;have Bo:=dw;have HB:=iB;have aqx:=nG;clear cK cO dw iB nG;clear ho hb hg hat;refine hK.out _ _ (qJ dG (hb5 lT)).o (fun hHeld=>?_);clear hK K;refine nA 59 ?_;refine pA 11 4 HT_ ?_;refine ek (fo HT_.o (by kernel_rfl)) ?_
          try go_wp2
          go_roundg k3
          case measure=>have:=X0.o;have:=dD.o;have:=rU.o;omega
          case rel=>exact ⟨(aoR),(wrap64 (gL+1)),fg,H',⟨by have:=X0.o;have:=dD.o;have:=rU.o;omega⟩,⟨by (with_reducible repeat (first|apply Kd.iH|apply Kd.iJ|apply Kd.fU));exact Kd.eF aqx.o (fun _ hk=>⟨hk.1,hk.2.2.1⟩)⟩,⟨ks dG⟩,⟨bs HB⟩⟩
         ·intro ET H;obtain rfl:=si H
          go_wp2
          go_ret
          exact ⟨_,ff,by (with_reducible repeat (first|apply Kd.iH|apply Kd.iJ|apply Kd.fU));exact Kd.eF gH.o (fun _ hk=>hk.1),bs HB⟩
   ·intro c14 H
    exact absurd H (by simp)
theorem gZ.calls (k:Nat)(ag:Int)(aj ak:ByteArray)(aM:Int)(dB:Option Addr)(dx:Nat)(az:List ByteArray)(dJ:Option Addr)(df:Nat)(ah:List aZ)(r:List bn)(w:World)(lm:Kd.C Kd.string w dB az.length az)(kY:az.length≤dx)(lq:Kd.C iA w dJ ah.length ah)(kZ:ah.length≤df)(hTF:uz w)(H:gZ.f k ag aj ak aM az ah=some r) :
  Calls Tryz.prog 42 #[.agg #[.int .i64 ag,.string aj,.string ak,.int .i64 aM,.slice dB az.length dx,.slice dJ ah.length df]] w fun e w'=>∃ lX:Value,e=.returned (lX)∧Kd.N kP 62 w' w.heap.size (fun k_=>(w.heap.size≤k_)) lX r∧Below w.heap.size w w':=by
 refine (gZ.Dr k ag aj ak aM dB dx az dJ df ah r w lm kY lq kZ hTF H).mono ?_
 rintro e w' ⟨v,he,hS,hb⟩
 exact ⟨v,he,am6 hS,hb⟩
theorem qP.calls (k:Nat)(a0:ByteArray)(r:Bool)(w:World)(H:qP.f k a0=some r) :
  Calls Tryz.prog 47 #[.string a0] w fun e w'=>e=.returned (.bool r)∧aW w w':=by
 unfold qP.f at H;have H':=am H;clear H
 go_in
 go_wp2
 go_loopg [6] k (fun kq v6 w'=>∃ (dP:Int),v6=.int .i64 dP∧af (qP.l0 kq a0 (a0.size:Int) dP=some r)∧af (kq≤k)∧aW w w')
 case atStart=>exact ⟨(0),fg,H',⟨Nat.le_refl _⟩,by repeat (first|exact aW.refl _|apply aW.step)⟩
 case round =>
  clear H';obtain ⟨dP,rfl,HA,aQ,⟨m1,rfl⟩⟩:=hrel
  cases gk with
  | zero=>exact absurd HA.o (by simp [qP.l0])
  | succ k1 =>
   have H:=HA.o;clear HA;simp only [qP.l0] at H
   revert H;refine bK ?_ ?_
   ·intro gQ H
    revert H;refine bv ?_
    intro aY H
    revert H;refine bv ?_
    intro dF H;replace H:=bo H;obtain ⟨t7,A6,H⟩:=H;have p5:0≤(dP:Int):=oa;have q5:dP<(a0.size:Int):=oa;have hx5:=gX a0 dP;replace p5:=eq_true p5;replace q5:=eq_true q5
    try go_wp2_with (fail)
    go_at_call 93;refine (zA.calls (bt a0 dP) t7 _ A6.o).mono ?_;rintro e w' ⟨rfl,⟨nd,rfl⟩⟩
    obtain rfl|rfl:=bt t7
    ·replace H:=dm H;have H':=am H;clear H
     go_wp2
     go_roundg k1
     case measure=>have:=aQ.o;omega
     case rel=>exact ⟨(wrap64 (dP+1)),fg,H',⟨by have:=aQ.o;omega⟩,by repeat (first|exact aW.refl _|apply aW.step)⟩
    ·replace H:=di H
     revert H;refine bH ?_ ?_
     ·intro kr wo H;obtain rfl:=si H
      go_wp2
      go_ret
      exact ⟨fg,dr⟩
     ·intro c8 kr wo H;replace H:=bo H;obtain ⟨sj,ul,H⟩:=H;have p9:0≤(dP:Int):=oa;have q9:dP<(a0.size:Int):=oa;have hx9:=gX a0 dP;replace p9:=eq_true p9;replace q9:=eq_true q9
      try go_wp2_with (fail)
      go_at_call 94;refine (FJ.calls (bt a0 dP) sj _ ul.o).mono ?_;rintro e w' ⟨rfl,⟨nd,rfl⟩⟩
      obtain rfl|rfl:=bt sj
      ·replace H:=dm H;have H':=am H;clear H
       go_wp2
       go_roundg k1
       case measure=>have:=aQ.o;omega
       case rel=>exact ⟨(wrap64 (dP+1)),fg,H',⟨by have:=aQ.o;omega⟩,by repeat (first|exact aW.refl _|apply aW.step)⟩
      ·replace H:=di H
       revert H;refine bH ?_ ?_
       ·intro mq BG H;have H':=am H;clear H;have iO:0≤(dP:Int):=oa;have iK:dP<(a0.size:Int):=oa;have yw:=gX a0 dP;replace iO:=eq_true iO;replace iK:=eq_true iK
        go_wp2
        go_roundg k1
        case measure=>have:=aQ.o;omega
        case rel=>exact ⟨(wrap64 (dP+1)),fg,H',⟨by have:=aQ.o;omega⟩,by repeat (first|exact aW.refl _|apply aW.step)⟩
       ·intro c13 mq BG H;obtain rfl:=si H;have iO:0≤(dP:Int):=oa;have iK:dP<(a0.size:Int):=oa;have yw:=gX a0 dP;replace iO:=eq_true iO;replace iK:=eq_true iK
        go_wp2
        go_ret
        exact ⟨fg,dr⟩
   ·intro gQ H;replace H:=bo H;obtain ⟨qQ,Be,H⟩:=H;obtain rfl:=si H
    go_wp2_with (first|((go_at_call 41;refine (l9.calls (a0.size:Int) 1 12 qQ _ Be.o).mono ?_;rintro e w' ⟨rfl,⟨nd,rfl⟩⟩)))
    go_ret
    exact ⟨fg,dr⟩
theorem sP.calls (k:Nat)(a0:Int)(a1:ByteArray)(r:Bool)(w:World)(hTP:vW w)(H:sP.f k a0 a1=some r) :
  Calls Tryz.prog 119 #[.int .u8 a0,.string a1] w fun e w'=>e=.returned (.bool r)∧Below w.heap.size w w':=by
 have HTP:=am hTP;clear hTP
 have HB:=am (Below.refl w.heap.size w);unfold sP.f at H
 revert H;refine bH ?_ ?_
 ·intro aY dS H;replace H:=bo H;obtain ⟨I6,A4,H⟩:=H;obtain rfl:=si H
  go_in
  go_wp2_with (first|((go_at_call 47;refine (qP.calls k a1 I6 _ A4.o).mono ?_;rintro e w' ⟨rfl,⟨nd,rfl⟩⟩)))
  go_ret
  exact ⟨ff,bs HB⟩
 ·intro c3 aY dS H
  revert H;refine bH ?_ ?_
  ·intro ja sJ H;replace H:=bo H;obtain ⟨⟨t21,t23⟩,A6,H⟩:=H;(try dsimp only at H);obtain rfl:=si H
   go_in
   go_wp2_with (first|((go_at_call 87;refine (oz.calls k a1 0 1000000000 t21 t23 _ (pq HTP (bs HB)) A6.o).mono ?_;rintro e w7 ⟨rfl,hb⟩);replace HB:=bq HB hb;(try clear hb)))
   go_ret
   exact ⟨ff,bs HB⟩
  ·intro c5 ja sJ H
   revert H;refine bH ?_ ?_
   ·intro kr wo H;replace H:=bo H;obtain ⟨⟨t24,t25⟩,A9,H⟩:=H;(try dsimp only at H);obtain rfl:=si H
    go_in
    go_wp2_with (first|((go_at_call 87;refine (oz.calls k a1 1 1000000 t24 t25 _ (pq HTP (bs HB)) A9.o).mono ?_;rintro e qo ⟨rfl,hb⟩);replace HB:=bq HB hb;(try clear hb)))
    go_ret
    exact ⟨ff,bs HB⟩
   ·intro c8 kr wo H
    revert H;refine bH ?_ ?_
    ·intro xh EO H;replace H:=bo H;obtain ⟨⟨t29,t26⟩,xU,H⟩:=H;(try dsimp only at H)
     go_in
     try go_wp2_with (fail)
     go_at_call 87;refine (oz.calls k a1 (-1000000) 1000000 t29 t26 _ (pq HTP (bs HB)) xU.o).mono ?_;rintro e tC ⟨rfl,hb⟩;replace HB:=bq HB hb;(try clear hb)
     obtain rfl|rfl:=bt t26
     ·replace H:=dm H;obtain rfl:=si H
      go_wp2
      go_ret
      exact ⟨ff,bs HB⟩
     ·replace H:=di H;obtain rfl:=si H
      go_wp2
      go_ret
      exact ⟨ff,bs HB⟩
    ·intro c11 xh EO H
     revert H;refine bH ?_ ?_
     ·intro vX Kq H;replace H:=bo H;obtain ⟨⟨t27,t28⟩,M9,H⟩:=H;(try dsimp only at H);obtain rfl:=si H
      go_in
      go_wp2_with (first|((go_at_call 87;refine (oz.calls k a1 0 100000 t27 t28 _ (pq HTP (bs HB)) M9.o).mono ?_;rintro e MN ⟨rfl,hb⟩);replace HB:=bq HB hb;(try clear hb)))
      go_ret
      exact ⟨ff,bs HB⟩
     ·intro c15 vX Kq H
      revert H;refine bH ?_ ?_
      ·intro xk Sd H
       revert H;refine Ps ?_ ?_
       ·intro vw atB atC H;obtain rfl:=si H
        go_in
        go_wp2
        go_ret
        exact ⟨ff,bs HB⟩
       ·intro c19 vw atB atC H;replace H:=bo H;obtain ⟨t30,A20,H⟩:=H;obtain rfl:=si H
        go_in
        go_wp2_with (first|(go_at_call 137;refine (FL.calls k a1 t30 _ A20.o).mono ?_;rintro e w' ⟨rfl,⟨nd,rfl⟩⟩))
        go_ret
        exact ⟨ff,bs HB⟩
      ·intro c18 xk Sd H;obtain rfl:=si H
       go_in
       go_wp2
       go_ret
       exact ⟨ff,bs HB⟩
def fG.T14:Bool × List (List Nat × List Nat):=(true,[([],[]),([],[]),([1],[1]),([0,2],[0,2]),([3],[3]),([4],[4]),([5,4],[4,5]),([6,4],[4,6]),([7,4],[4,7]),([4,8],[4,8]),([9,4],[9]),([10],[10]),([10],[10]),([11,12,10],[10,11,12]),([10],[10]),([14,10],[10,14]),([15,10],[10,15]),([16,10],[10,16]),([13,17,10,10],[10,13,17]),([18,10],[10,18]),([10,19],[10,19])])
def fG.B14:List Nat:=[0,0,2,7,15,31,63,127,255,511,1023,2047,2047,8191,2047,18431,51199,116735,262143,524287,1048575]
theorem fG.aa2:fD .any (opsOf Tryz.f84 14)=fG.T14:=by kernel_rfl
theorem fG.YK:jg fG.T14.2 fG.B14=true:=by kernel_rfl
theorem fG.calls (k:Nat)(a0 aI:ByteArray)(iD:Option Addr)(iy:Nat)(aT:List bN)(r:Int)(w:World)(vG:Kd.C jO w iD aT.length aT)(vF:aT.length≤iy)(hTC:zS w)(hTP:vW w)(H:fG.f k a0 aI aT=some r) :
  Calls Tryz.prog 84 #[.string a0,.agg #[.string aI,.slice iD aT.length iy]] w fun e w'=>e=.returned (.int .i64 r)∧Below w.heap.size w w':=by
 have HTC:=am hTC;clear hTC;have HTP:=am hTP;clear hTP
 have r9:=Tryz.underlying62;have Dy:=Tryz.underlying97;have lU:=am vG;have qX:=am vF;clear vG vF;have HB:=am (Below.refl w.heap.size w);unfold fG.f at H;replace H:=bo H;obtain ⟨⟨t69,t70,t74⟩,A3,H⟩:=H;(try dsimp only at H)
 revert H;refine gT ?_ ?_
 ·intro c4 H;have dF:=eq_true c4;have kV:decide (t69.size+t70.size≤9223372036854775807)=true:=decide_eq_true c4
  try have adx:(9223372036854775807<t69.size+t70.size)=False:=eq_false (Nat.not_lt.2 c4)
  have H':=am H;clear H
  go_in
  go_wp2_with (first|((with_reducible refine aJ (N:=3) rfl ?_);(try (refine jc (by rfl) ?_;dsimp only));refine bz 3 (cs:=#[.string aI,.slice iD aT.length iy]) (t:=62) HB ?_;clear HB;intro ym hg w5 bT ahJ hb HB;clear hb hg)|((go_at_call 116;refine (strings_Cut.calls a0 (⟨#[63]⟩:ByteArray) t69 t70 t74 _ (zM HTC (bs HB)) A3.o).mono ?_;rintro e w6 ⟨rfl,hb⟩);replace bT:=bb bT hb;replace HB:=bq HB hb;(try clear hb)))
  go_loopg [23] k (fun kq v23 w'=>∃ (kJ:Int),v23=.int .i64 kJ∧af (fG.l0 kq a0 t69 (t69++t70) ((t69++t70).size:Int) kJ aI aT=some r)∧af (kq≤k)∧af (w'.heap[ym]? = some (.cells #[.string aI,(.slice iD aT.length iy)] 62 (0,0)))∧af (Below w.heap.size w w'))
  case atStart=>exact ⟨(0),fg,H',⟨Nat.le_refl _⟩,⟨ks bT⟩,⟨bs HB⟩⟩
  case round =>
   clear H'
   try clear c4
   try clear dF
   try clear kV
   try clear adx
   try clear bT
   obtain ⟨kJ,rfl,HA,aQ,bT,HB⟩:=hrel
   cases gk with
   | zero=>exact absurd HA.o (by simp [fG.l0])
   | succ k1 =>
    have H:=HA.o;clear HA;simp only [fG.l0] at H
    revert H;refine Ct ?_ ?_
    ·intro c7 kH H;(try (have adC:=kH;simp only [ByteArray.size_append,Cv,List.size_toArray,List.length_cons,List.length_nil,Nat.zero_add,Nat.reduceAdd,Int.natCast_add,Int.cast_ofNat_Int] at adC));clear c7
     revert H;refine bv ?_
     intro kr H
     revert H;refine qO ?_
     intro c9 nN H;(try (have auh:=nN;simp only [ByteArray.size_append,Cv,List.size_toArray,List.length_cons,List.length_nil,Nat.zero_add,Nat.reduceAdd,Int.natCast_add,Int.cast_ofNat_Int] at auh));clear c9;replace H:=bo H;obtain ⟨t75,Js,H⟩:=H;have jT:0≤(kJ:Int):=oa;have jP:kJ<((t69++t70).size:Int):=oa;have Ff:=gX (t69++t70) kJ;replace jT:=eq_true jT;replace jP:=eq_true jP;(try (have azo:=jP;simp only [ByteArray.size_append,Cv,List.size_toArray,List.length_cons,List.length_nil,Nat.zero_add,Nat.reduceAdd,Int.natCast_add,Int.cast_ofNat_Int] at azo))
     try go_wp2_with (fail)
     go_at_call 117;refine (strings_IndexByte.calls (⟨#[114,110,113,122,100,116]⟩:ByteArray) (bt (t69++t70) kJ) t75 _ Js.o).mono ?_;rintro e w' ⟨rfl,⟨nd,rfl⟩⟩
     revert H;refine bK ?_ ?_
     ·intro zk H;obtain rfl:=si H
      go_wp2
      go_ret
      exact ⟨ff,bs HB⟩
     ·intro zk H;have H':=am H;clear H
      go_wp2
      go_roundg k1
      case measure=>have:=aQ.o;omega
      case rel=>exact ⟨(wrap64 (kJ+1)),fg,H',⟨by have:=aQ.o;omega⟩,⟨ks bT⟩,⟨bs HB⟩⟩
    ·intro c7 kH H;(try (have adC:=kH;simp only [ByteArray.size_append,Cv,List.size_toArray,List.length_cons,List.length_nil,Nat.zero_add,Nat.reduceAdd,Int.natCast_add,Int.cast_ofNat_Int] at adC));clear c7;obtain ⟨y71,La⟩:∃ y_:List ByteArray,y_=(([a0]:List ByteArray)):=⟨_,rfl⟩
     replace H:((FM.f k1 y71).bind fun t72=>(if t72=true then (some 0) else (fG.l1 k1 t69 (t69++t70) aT (aT.length:Int) 0 aI aT)))=some r:=ye La H
     have RH:=am La;clear La;replace H:=bo H;obtain ⟨t72,vS,H⟩:=H
     try go_wp2_with (first|((with_reducible refine aJ (N:=33) rfl ?_);(try (refine jc (by rfl) ?_;dsimp only));refine rl Kd.string 9 (N:=33) (xs:=([a0]:List ByteArray)) (inner:=[.string a0]) ?hp ?_;(case hp=>exact (aV.one (show Kd.M Kd.string _ _ _ a0 [.string a0] from rfl) (aV.none _ _)));intro v77 tF UN hb hg_ hnew_;clear hg_ hnew_;(first|rw [← RH.o] at UN|(simp only [Int.reduceToNat] at UN;rw [← RH.o] at UN));have acn:=am (Kd.ic UN (bJ (bs HB)));replace bT:=bb bT hb;replace HB:=bq HB hb;clear hb UN;obtain ⟨aDs,aE5,ava⟩:=Kd.gW acn.o;subst ava))
     go_at_call 118;refine (FM.calls k1 _ _ y71 t72 _ ?aR ?bg vS.o).mono ?_;(case aR=>exact sd (Kd.dH acn.o).2.2);(case bg=>exact (Kd.dH acn.o).2.1);rintro e w' ⟨rfl,⟨nd,rfl⟩⟩
     obtain rfl|rfl:=bt t72
     ·replace H:=dm H;obtain rfl:=si H
      go_wp2
      go_ret
      exact ⟨ff,bs HB⟩
     ·replace H:=di H;have H':=am H;clear H;have KQ:=fM bT
      go_wp2
      go_loopg [38] k1 (fun kq v38 w'=>∃ (iU:Int),v38=.int .i64 iU∧af (fG.l1 kq t69 (t69++t70) aT (aT.length:Int) iU aI aT=some r)∧af (kq≤k1)∧af (w'.heap[ym]? = some (.cells #[.string aI,(.slice iD aT.length iy)] 62 (0,0)))∧af (Below w.heap.size w w'))
      case atStart=>exact ⟨(0),fg,H',⟨Nat.le_refl _⟩,⟨ks bT⟩,⟨bs HB⟩⟩
      case round =>
       clear H'
       try clear c4
       try clear dF
       try clear kV
       try clear adx
       try clear c7
       try clear kH
       try clear KQ
       try clear bT
       obtain ⟨iU,rfl,HA,dD,bT,HB⟩:=hrel
       cases gk with
       | zero=>exact absurd HA.o (by simp [fG.l1])
       | succ k2 =>
        have H:=HA.o;clear HA;simp only [fG.l1] at H
        revert H;refine bK ?_ ?_
        ·intro vw H
         revert H;refine bv ?_
         intro vY H
         revert H;refine bv ?_
         intro zm H
         by_cases G8:iU=((t69++t70).size:Int)
         ·rw [if_pos G8] at H;have N9:(iU == ((t69++t70).size:Int))=true:=beq_iff_eq.mpr G8;(try (have adn:=N9;simp only [ByteArray.size_append,Cv,List.size_toArray,List.length_cons,List.length_nil,Nat.zero_add,Nat.reduceAdd,Int.natCast_add,Int.cast_ofNat_Int] at adn));have Sj:(iU != ((t69++t70).size:Int))=false:=bne_eq_false_iff_eq.mpr G8;(try (have ado:=Sj;simp only [ByteArray.size_append,Cv,List.size_toArray,List.length_cons,List.length_nil,Nat.zero_add,Nat.reduceAdd,Int.natCast_add,Int.cast_ofNat_Int] at ado));clear G8;obtain rfl:=si H;obtain ⟨p65,PL,Kb,qp,qE,e65,pW,Ce,BZ⟩:=wi (lN lU.o iU)
          cases e65
          replace pW:=cb HB pW;have Rq:=am BZ;have ab9:=am Ce;clear BZ Ce
          try go_wp2_with (first|((with_reducible refine aJ (N:=11) rfl ?_);(try (refine jc (by rfl) ?_;dsimp only));refine bz 11 (cs:=#[.slice none 0 0]) (t:=97) HB ?_;clear HB;intro qH hg tH jZ abM hb HB;have J6:=na hg bT;have JZ:=nc hg bT;replace bT:=bb bT hb;clear hb hg;have awP:=JZ.o;have axb:=J6.o;have ad5:=vB jZ))
          have cK:=kz (tH.setCell ⟨qH,0,none⟩ (.slice qp ((aK aT iU).f0).length qE)) bT;have cO:af ((tH.setCell ⟨qH,0,none⟩ (.slice qp ((aK aT iU).f0).length qE)).heap[qH]? = some (.cells #[.slice qp ((aK aT iU).f0).length qE] 97 (0,0))):=⟨kp jZ⟩;have dw:af (Below w.heap.size w (tH.setCell ⟨qH,0,none⟩ (.slice qp ((aK aT iU).f0).length qE))):=⟨bs HB⟩;(try clear bT);(try clear jZ);(try clear HB)
          generalize (tH.setCell ⟨qH,0,none⟩ (.slice qp ((aK aT iU).f0).length qE))=Qc at cK cO dw ⊢
          have bT:=cK;have jZ:=cO;have HB:=dw;clear cK cO dw;replace bT:=am (bD bT.o);replace jZ:=am (bD jZ.o);replace HB:=am (cZ HB.o);refine PW (n:=21) (S:=fun w'=>True) (ds:=[]) _ (by kernel_rfl) rfl rfl trivial (fun hHeld=>?_);refine fu fG.aa2 fG.YK (fun HT_ HW_=>?_)
          generalize Qc.drew=Ec at bT jZ HB hHeld ⊢
          refine mF 0 ?_;refine mF 8 ?_;refine jV 16 ?_;refine bQ 20 ?_;refine ek (fo HT_.o (by kernel_rfl)) ?_
          try go_wp2
          go_ret
          exact ⟨ff,bs HB⟩
         ·rw [if_neg G8] at H;have N9:(iU == ((t69++t70).size:Int))=false:=beq_eq_false_iff_ne.mpr G8;(try (have adn:=N9;simp only [ByteArray.size_append,Cv,List.size_toArray,List.length_cons,List.length_nil,Nat.zero_add,Nat.reduceAdd,Int.natCast_add,Int.cast_ofNat_Int] at adn));have Sj:(iU != ((t69++t70).size:Int))=true:=bne_iff_ne.mpr G8;(try (have ado:=Sj;simp only [ByteArray.size_append,Cv,List.size_toArray,List.length_cons,List.length_nil,Nat.zero_add,Nat.reduceAdd,Int.natCast_add,Int.cast_ofNat_Int] at ado))
          revert H;refine bH ?_ ?_
          ·intro ajF atI H
           revert H;refine qO ?_
           intro vz Ku H;(try (have atJ:=Ku;simp only [ByteArray.size_append,Cv,List.size_toArray,List.length_cons,List.length_nil,Nat.zero_add,Nat.reduceAdd,Int.natCast_add,Int.cast_ofNat_Int] at atJ));clear vz
           revert H;refine qO ?_
           intro c31 ajH H;have atL:decide (0<((aK aT iU).f0).length)=true:=decide_eq_true (by omega);clear c31;replace H:=bo H;obtain ⟨t76,A32,H⟩:=H
           obtain rfl|rfl:=bt t76
           ·replace H:=dm H;have H':=am H;clear H;obtain ⟨p65,PL,Kb,qp,qE,e65,pW,Ce,BZ⟩:=wi (lN lU.o iU)
            cases e65
            replace pW:=cb HB pW;have Rq:=am BZ;have ab9:=am Ce;clear BZ Ce
            try go_wp2_with (first|((with_reducible refine aJ (N:=11) rfl ?_);(try (refine jc (by rfl) ?_;dsimp only));refine bz 11 (cs:=#[.slice none 0 0]) (t:=97) HB ?_;clear HB;intro qH hg CO jZ abM hb HB;have J6:=na hg bT;have JZ:=nc hg bT;replace bT:=bb bT hb;clear hb hg;have al7:=JZ.o;have ami:=J6.o;have Ou:=vB jZ))
            have cK:=kz (CO.setCell ⟨qH,0,none⟩ (.slice qp ((aK aT iU).f0).length qE)) bT;have cO:af ((CO.setCell ⟨qH,0,none⟩ (.slice qp ((aK aT iU).f0).length qE)).heap[qH]? = some (.cells #[.slice qp ((aK aT iU).f0).length qE] 97 (0,0))):=⟨kp jZ⟩;have dw:af (Below w.heap.size w (CO.setCell ⟨qH,0,none⟩ (.slice qp ((aK aT iU).f0).length qE))):=⟨bs HB⟩;(try clear bT);(try clear jZ);(try clear HB)
            generalize (CO.setCell ⟨qH,0,none⟩ (.slice qp ((aK aT iU).f0).length qE))=Qd at cK cO dw ⊢
            have bT:=cK;have jZ:=cO;have HB:=dw;clear cK cO dw;replace bT:=am (bD bT.o);replace jZ:=am (bD jZ.o);replace HB:=am (cZ HB.o);have p30:0≤(iU:Int):=oa;have LP:iU<((t69++t70).size:Int):=oa;have axE:=gX (t69++t70) iU;replace p30:=eq_true p30;replace LP:=eq_true LP;(try (have age:=LP;simp only [ByteArray.size_append,Cv,List.size_toArray,List.length_cons,List.length_nil,Nat.zero_add,Nat.reduceAdd,Int.natCast_add,Int.cast_ofNat_Int] at age));have p68:0≤(0:Int):=(by omega);have LQ:0<(((aK aT iU).f0).length:Int):=oa;obtain ⟨as1,e68,zy⟩:=Kd.jw Rq.o 0 p68 LQ;have Cn:=zy
            (try rw [show ((0:Int)).toNat=0 from rfl] at Cn)
            (try rw [show 0 * 1=0 from rfl] at Cn)
            (try rw [Addr.add_zero'] at Cn)
            cases e68
            have azv:(0<((aK aT iU).f0).length)=True:=eq_true (by omega)
            (try rw [show ((0:Int)).toNat=0 from rfl] at zy)
            (try rw [Addr.add_zero'] at zy)
            replace zy:=cb HB zy;replace p68:=eq_true p68;replace LQ:=eq_true LQ;refine gD 21 (ZL jZ (hc (cb HB Cn))) (fun hHeld=>?_);refine fu fG.aa2 fG.YK (fun HT_ HW_=>?_)
            generalize Qd.drew=w38 at bT jZ HB zy hHeld ⊢
            refine jV 0 ?_;refine jU 4 ?_;refine ta 6 ?_;refine jV 7 ?_;refine jU 11 ?_;refine bQ 14 ?_;refine ta 13 ?_;refine ta 15 ?_;refine bQ 16 ?_;refine ta 17 ?_;refine oA 18 61 HT_ (fun K hK=>?_);refine gA Tryz.func119 #[.int .u8 (bt (t69++t70) iU),.string (bA ByteArray.empty ((aK aT iU).f0) 0)] ?_;(with_reducible refine (sP.calls k2 (bt (t69++t70) iU) (bA ByteArray.empty ((aK aT iU).f0) 0) true _ (pq HTP (bs HB)) A32.o).mono ?_);rintro e w39 ⟨rfl,hb⟩;refine ⟨_,rfl,?_⟩;replace bT:=bb bT hb;replace jZ:=bb jZ hb;replace HB:=bq HB hb;(try clear hb);refine hK.out _ _ (ZL jZ (hc (cb HB Cn))).o (fun hHeld=>?_);clear hK K;refine nA 61 ?_;refine jU 19 ?_;refine ek (fo HT_.o (by kernel_rfl)) ?_
            try go_wp2
            go_roundg k2
            case measure=>have:=aQ.o;have:=dD.o;omega
            case rel=>exact ⟨(wrap64 (iU+1)),fg,H',⟨by have:=aQ.o;have:=dD.o;omega⟩,⟨ks bT⟩,⟨bs HB⟩⟩
           ·replace H:=di H;obtain rfl:=si H;obtain ⟨p65,PL,Kb,qp,qE,e65,pW,Ce,BZ⟩:=wi (lN lU.o iU)
            cases e65
            replace pW:=cb HB pW;have Rq:=am BZ;have ab9:=am Ce;clear BZ Ce
            try go_wp2_with (first|((with_reducible refine aJ (N:=11) rfl ?_);(try (refine jc (by rfl) ?_;dsimp only));refine bz 11 (cs:=#[.slice none 0 0]) (t:=97) HB ?_;clear HB;intro qH hg Jg jZ abM hb HB;have J6:=na hg bT;have JZ:=nc hg bT;replace bT:=bb bT hb;clear hb hg;have awS:=JZ.o;have axe:=J6.o;have aF7:=vB jZ))
            have cK:=kz (Jg.setCell ⟨qH,0,none⟩ (.slice qp ((aK aT iU).f0).length qE)) bT;have cO:af ((Jg.setCell ⟨qH,0,none⟩ (.slice qp ((aK aT iU).f0).length qE)).heap[qH]? = some (.cells #[.slice qp ((aK aT iU).f0).length qE] 97 (0,0))):=⟨kp jZ⟩;have dw:af (Below w.heap.size w (Jg.setCell ⟨qH,0,none⟩ (.slice qp ((aK aT iU).f0).length qE))):=⟨bs HB⟩;(try clear bT);(try clear jZ);(try clear HB)
            generalize (Jg.setCell ⟨qH,0,none⟩ (.slice qp ((aK aT iU).f0).length qE))=Qe at cK cO dw ⊢
            have bT:=cK;have jZ:=cO;have HB:=dw;clear cK cO dw;replace bT:=am (bD bT.o);replace jZ:=am (bD jZ.o);replace HB:=am (cZ HB.o);have p30:0≤(iU:Int):=oa;have LP:iU<((t69++t70).size:Int):=oa;have axE:=gX (t69++t70) iU;replace p30:=eq_true p30;replace LP:=eq_true LP;(try (have age:=LP;simp only [ByteArray.size_append,Cv,List.size_toArray,List.length_cons,List.length_nil,Nat.zero_add,Nat.reduceAdd,Int.natCast_add,Int.cast_ofNat_Int] at age));have p68:0≤(0:Int):=(by omega);have LQ:0<(((aK aT iU).f0).length:Int):=oa;obtain ⟨as1,e68,zy⟩:=Kd.jw Rq.o 0 p68 LQ;have Cn:=zy
            (try rw [show ((0:Int)).toNat=0 from rfl] at Cn)
            (try rw [show 0 * 1=0 from rfl] at Cn)
            (try rw [Addr.add_zero'] at Cn)
            cases e68
            have azv:(0<((aK aT iU).f0).length)=True:=eq_true (by omega)
            (try rw [show ((0:Int)).toNat=0 from rfl] at zy)
            (try rw [Addr.add_zero'] at zy)
            replace zy:=cb HB zy;replace p68:=eq_true p68;replace LQ:=eq_true LQ;refine gD 21 (ZL jZ (hc (cb HB Cn))) (fun hHeld=>?_);refine fu fG.aa2 fG.YK (fun HT_ HW_=>?_)
            generalize Qe.drew=F9 at bT jZ HB zy hHeld ⊢
            refine jV 0 ?_;refine jU 4 ?_;refine ta 6 ?_;refine jV 7 ?_;refine jU 11 ?_;refine bQ 14 ?_;refine ta 13 ?_;refine ta 15 ?_;refine bQ 16 ?_;refine ta 17 ?_;refine oA 18 61 HT_ (fun K hK=>?_);refine gA Tryz.func119 #[.int .u8 (bt (t69++t70) iU),.string (bA ByteArray.empty ((aK aT iU).f0) 0)] ?_;(with_reducible refine (sP.calls k2 (bt (t69++t70) iU) (bA ByteArray.empty ((aK aT iU).f0) 0) false _ (pq HTP (bs HB)) A32.o).mono ?_);rintro e w45 ⟨rfl,hb⟩;refine ⟨_,rfl,?_⟩;replace bT:=bb bT hb;replace jZ:=bb jZ hb;replace HB:=bq HB hb;(try clear hb);refine hK.out _ _ (ZL jZ (hc (cb HB Cn))).o (fun hHeld=>?_);clear hK K;refine nA 61 ?_;refine jU 19 ?_;refine ek (fo HT_.o (by kernel_rfl)) ?_
            try go_wp2
            go_ret
            exact ⟨ff,bs HB⟩
          ·intro c28 ajF atI H;obtain rfl:=si H;obtain ⟨p65,PL,Kb,qp,qE,e65,pW,Ce,BZ⟩:=wi (lN lU.o iU)
           cases e65
           replace pW:=cb HB pW;have Rq:=am BZ;have ab9:=am Ce;clear BZ Ce
           try go_wp2_with (first|((with_reducible refine aJ (N:=11) rfl ?_);(try (refine jc (by rfl) ?_;dsimp only));refine bz 11 (cs:=#[.slice none 0 0]) (t:=97) HB ?_;clear HB;intro qH hg w46 jZ abM hb HB;have J6:=na hg bT;have JZ:=nc hg bT;replace bT:=bb bT hb;clear hb hg;have al8:=JZ.o;have amj:=J6.o;have Ov:=vB jZ))
           have cK:=kz (w46.setCell ⟨qH,0,none⟩ (.slice qp ((aK aT iU).f0).length qE)) bT;have cO:af ((w46.setCell ⟨qH,0,none⟩ (.slice qp ((aK aT iU).f0).length qE)).heap[qH]? = some (.cells #[.slice qp ((aK aT iU).f0).length qE] 97 (0,0))):=⟨kp jZ⟩;have dw:af (Below w.heap.size w (w46.setCell ⟨qH,0,none⟩ (.slice qp ((aK aT iU).f0).length qE))):=⟨bs HB⟩;(try clear bT);(try clear jZ);(try clear HB)
           generalize (w46.setCell ⟨qH,0,none⟩ (.slice qp ((aK aT iU).f0).length qE))=Qf at cK cO dw ⊢
           have bT:=cK;have jZ:=cO;have HB:=dw;clear cK cO dw;replace bT:=am (bD bT.o);replace jZ:=am (bD jZ.o);replace HB:=am (cZ HB.o);refine gD 21 (hb1 jZ) (fun hHeld=>?_);refine fu fG.aa2 fG.YK (fun HT_ HW_=>?_)
           generalize Qf.drew=WY at bT jZ HB hHeld ⊢
           refine jV 0 ?_;refine jU 4 ?_;refine F7 (i:=6) (N:=some 49) (v:=?_) (a':=?_) #[true,true,true,true,true,true,true,false,false,false,false,false,false,false,false,false,false,false,false,false,false] rfl rfl (aoi HT_.o HW_.o (by kernel_rfl)) (fun _ _ _ h=>h) (Or.inl ⟨by rfl,?_⟩) hHeld ?_ ?_
           rotate_left
           ·intro w' s0
            go_simp
            (with_reducible rfl)
           rotate_left
           ·simp only [Act.put,List.setIfInBounds_toArray,List.set_cons_zero,List.set_cons_succ,fC,gK]
            rfl
           refine mF 7 ?_;refine jV 15 ?_;refine jU 19 ?_;refine ek (fo HT_.o (by kernel_rfl)) ?_
           try go_wp2
           go_ret
           exact ⟨ff,bs HB⟩
        ·intro vw H
         revert H;refine Ct ?_ ?_
         ·intro c51 at5 H;have at6:decide (aT.length<t69.size)=true:=decide_eq_true (Int.ofNat_lt.mp c51);clear c51;obtain rfl:=si H;have av4:=fM bT
          go_wp2
          go_ret
          exact ⟨ff,bs HB⟩
         ·intro c51 at5 H;have at6:decide (aT.length<t69.size)=false:=decide_eq_false (fun h=>c51 (Int.ofNat_lt.mpr h));clear c51;obtain rfl:=si H;have Ow:=fM bT
          go_wp2
          go_ret
          exact ⟨ff,bs HB⟩
 ·intro c4 H
  exact absurd H (by simp)
end Go.Proofs.YtapilmimgiaglaaGreatDoor.QX
