import Derived.Test.YtapilmimgiaglaaGreatDoorKFnExactParcelIx7
set_option maxHeartbeats 8000000
set_option maxRecDepth 100000
set_option linter.unusedSimpArgs false
set_option linter.unusedVariables false
namespace Go.Proofs.YtapilmimgiaglaaGreatDoor.QX
open Go.RowKit Go.Proofs.bB.eH Go.Proofs.bB.PrintLast Go.Proofs.bB.PrintMore
attribute [local go_sem] oU o5 oZ o8 oW o7 oV o6
def fq.T3:Bool × List (List Nat × List Nat):=(true,[([],[]),([0],[0]),([1],[1]),([],[]),([3],[3]),([4,2],[4]),([2,5],[2,5]),([6,5,0,1,2,3,4,5,6],[6])])
def fq.B3:List Nat:=[0,1,3,0,8,31,63,127]
theorem fq.WT:fD .any (opsOf Tryz.f64 3)=fq.T3:=by kernel_rfl
theorem fq.R6:jg fq.T3.2 fq.B3=true:=by kernel_rfl
def fq.T5:Bool × List (List Nat × List Nat):=(true,[([],[]),([0],[0]),([1],[1]),([],[]),([3],[3]),([],[]),([5],[5]),([6,2],[6]),([2,4,7],[2,4,7]),([8,7,0,1,2,3,4,5,6,7,8],[8])])
def fq.B5:List Nat:=[0,1,3,0,8,0,32,103,255,511]
theorem fq.aa3:fD .any (opsOf Tryz.f64 5)=fq.T5:=by kernel_rfl
theorem fq.YL:jg fq.T5.2 fq.B5=true:=by kernel_rfl
def fq.GU:Bool × List (List Nat × List Nat):=(true,[([],[]),([0],[0]),([],[]),([2],[2]),([3],[3]),([1,4],[1,4]),([5,4],[5]),([6,6,0,1,2,3,4,5,6],[6])])
def fq.B10:List Nat:=[0,1,0,4,12,31,63,127]
theorem fq.MJ:fD .any (opsOf Tryz.f64 10)=fq.GU:=by kernel_rfl
theorem fq.Ke:jg fq.GU.2 fq.B10=true:=by kernel_rfl
def fq.u7:Bool × List (List Nat × List Nat):=(true,[([],[]),([0],[0]),([1],[1]),([],[]),([3],[3]),([4,2],[4]),([2,5],[2,5]),([6,5,0,1,2,3,4,5,6],[6])])
def fq.Bf:List Nat:=[0,1,3,0,8,31,63,127]
theorem fq.yI:fD .any (opsOf Tryz.f64 12)=fq.u7:=by kernel_rfl
theorem fq.yf:jg fq.u7.2 fq.Bf=true:=by kernel_rfl
theorem fq.calls (k:Nat)(a0 aI:Int)(bX:ByteArray)(dA eU:Int)(ru r1:ByteArray)(r2:List bN)(w:World)(H:fq.f k a0 aI bX dA eU ru=some (r1,r2)) :
  Calls Tryz.prog 64 #[.int .i64 a0,.agg #[.int .i64 aI,.string bX,.int .i64 dA,.int .i64 eU,.string ru]] w fun e w'=>∃ Ja:Value,e=.returned (.agg #[.string r1,Ja])∧Kd.S jO 97 w' w.heap.size (fun _=>True) Ja r2∧Below w.heap.size w w':=by
 have Dx:=Tryz.underlying95;have r9:=Tryz.underlying62;have HB:=am (Below.refl w.heap.size w);unfold fq.f at H;obtain ⟨y167,hy167⟩:∃ y_:List ByteArray,y_=(([]:List ByteArray)):=⟨_,rfl⟩
 replace H:(if a0=1 then ((fK.f k aI).bind fun xM=>((fK.f k dA).bind fun t171=>((some (([xM,bX,t171]:List ByteArray):List ByteArray)).bind fun yO=>(if eU=0 then ((ib.f k (⟨#[76,73,78]⟩:ByteArray) yO).bind fun GY=>(some (GY.1,GY.2))) else ((fK.f k eU).bind fun DY=>(if yO.length<8796093022208 then ((ib.f k (⟨#[76,73,78]⟩:ByteArray) (yO++[DY])).bind fun BB=>(some (BB.1,BB.2))) else none)))))) else (if a0=5 then ((fK.f k dA).bind fun DZ=>((ib.f k (⟨#[73,84,77]⟩:ByteArray) (([bX,DZ]:List ByteArray))).bind fun GZ=>(some (GZ.1,GZ.2)))) else (if a0=7 then ((fK.f k aI).bind fun xN=>((fK.f k dA).bind fun t196=>((some (([xN,t196]:List ByteArray):List ByteArray)).bind fun yP=>(if eU=0 then ((ib.f k (⟨#[65,67,75]⟩:ByteArray) yP).bind fun G5=>(some (G5.1,G5.2))) else ((fK.f k eU).bind fun D5=>(if yP.length<8796093022208 then ((ib.f k (⟨#[65,67,75]⟩:ByteArray) (yP++[D5])).bind fun BC=>(some (BC.1,BC.2))) else none)))))) else (if a0=6 then ((fK.f k dA).bind fun t212=>(fq.j0 k a0 (([bX,t212]:List ByteArray)) aI bX dA eU ru)) else ((fK.f k aI).bind fun D6=>((fK.f k dA).bind fun D7=>(fq.j0 k a0 (([D6,D7]:List ByteArray)) aI bX dA eU ru)))))))=some (r1,r2):=ye hy167 H
 have ais:=am hy167;clear hy167;have rT:=am H;clear H
 go_in
 go_upto_block 0 with (first|((with_reducible refine aJ (N:=3) rfl ?_);refine bz 3 (cs:=#[.int .i64 aI,.string bX,.int .i64 dA,.int .i64 eU,.string ru]) (t:=95) HB ?_;clear HB;intro akn hg w4 bE aDA hb HB;clear hb hg)|((with_reducible refine aJ (N:=4) rfl ?_);refine bz 4 (cs:=#[.string (⟨#[]⟩:ByteArray),.slice none 0 0]) (t:=62) HB ?_;clear HB;intro lw hg w5 bL aDB hb HB;have sF:=na hg bE;have Db:=nc hg bE;replace bE:=bb bE hb;clear hb hg)|((with_reducible refine aJ (N:=6) rfl ?_);refine rl Kd.string 9 (N:=6) (xs:=([]:List ByteArray)) (inner:=[]) ?hp ?_;(case hp=>exact (aV.none _ _));intro v168 w6 yt hb hg_ hnew_;clear hg_ hnew_;(first|rw [← ais.o] at yt|(simp only [Int.reduceToNat] at yt;rw [← ais.o] at yt));have dN:=am (Kd.ic yt (bJ (bs HB)));replace bE:=bb bE hb;replace bL:=bb bL hb;replace HB:=bq HB hb;clear hb yt))
 (try simp only [Act.put,List.setIfInBounds_toArray,List.set_cons_zero,List.set_cons_succ])
 go_cut [5] (fun v5 wc=>∃ (kq:Nat) (fw:List ByteArray) (agO:ByteArray),af (fq.j0 kq a0 fw aI bX dA eU ru=some (r1,r2))∧af (kq≤k)∧af (Kd.R Kd.string 9 wc w.heap.size (fun _=>True) v5 fw)∧af (wc.heap[akn]? = some (.cells #[.int .i64 aI,.string bX,.int .i64 dA,.int .i64 eU,.string ru] 95 (0,0)))∧af (wc.heap[lw]? = some (.cells #[.string agO,(.slice none 0 0)] 62 (0,0)))∧af (Below w.heap.size w wc))
 case first =>
  have H:=rT.o;clear rT
  revert H;refine bH ?_ ?_
  ·intro kr wo H
   (first|rw [kr]|(simp only [fC,gK];rw [kr])|rw [wo]|skip)
   replace H:=bo H;obtain ⟨xM,A9,H⟩:=H;replace H:=bo H;obtain ⟨t171,ul,H⟩:=H;obtain ⟨yO,aeZ⟩:∃ y_:List ByteArray,y_=(([xM,bX,t171]:List ByteArray)):=⟨_,rfl⟩
   replace H:(if eU=0 then ((ib.f k (⟨#[76,73,78]⟩:ByteArray) yO).bind fun GY=>(some (GY.1,GY.2))) else ((fK.f k eU).bind fun DY=>(if yO.length<8796093022208 then ((ib.f k (⟨#[76,73,78]⟩:ByteArray) (yO++[DY])).bind fun BB=>(some (BB.1,BB.2))) else none)))=some (r1,r2):=ye aeZ H
   have Ym:=am aeZ;clear aeZ
   revert H;refine bH ?_ ?_
   ·intro xh EO H;replace H:=bo H;obtain ⟨⟨t175,agx⟩,xU,H⟩:=H;(try dsimp only at H);replace H:=xI H;obtain ⟨rfl,rfl⟩:=H
    try go_wp2
    replace dN:=am (Kd.eO dN.o);replace bE:=am (bD bE.o);replace bL:=am (bD bL.o);replace HB:=am (cZ HB.o);refine gD 10 (hb5 bE) (fun hHeld=>?_);refine fu fq.aa3 fq.YL (fun HT_ HW_=>?_)
    generalize w6.drew=tC at dN bE bL HB hHeld ⊢
    refine bQ 0 ?_;refine bQ 3 ?_;refine bQ 5 ?_;refine ta 1 ?_;refine ta 4 ?_;refine ta 6 ?_;refine oA 2 19 HT_ (fun K hK=>?_);refine gA Tryz.func61 #[.int .i64 aI] ?_;(with_reducible refine (fK.calls k aI xM _ A9.o).mono ?_);rintro e tF ⟨rfl,hb⟩;refine ⟨_,rfl,?_⟩;replace dN:=am (Kd.cu (rs dN) hb);replace bE:=bb bE hb;replace bL:=bb bL hb;replace HB:=bq HB hb;(try clear hb);refine hK.out _ _ (hb5 bE).o (fun hHeld=>?_);clear hK K;refine nA 19 ?_;refine oA 7 24 HT_ (fun K hK=>?_);refine gA Tryz.func61 #[.int .i64 dA] ?_;(with_reducible refine (fK.calls k dA t171 _ ul.o).mono ?_);rintro e CG ⟨rfl,hb⟩;refine ⟨_,rfl,?_⟩;replace dN:=am (Kd.cu (rs dN) hb);replace bE:=bb bE hb;replace bL:=bb bL hb;replace HB:=bq HB hb;(try clear hb);refine hK.out _ _ (hb5 bE).o (fun hHeld=>?_);clear hK K;refine nA 24 ?_;refine oA 8 25 HT_ (fun K hK=>?_);refine Kd.zR Kd.string _ 9 ?hg (N:=25) ?hd (xs:=([xM,bX,t171]:List ByteArray)) (inner:=[.string xM,.string bX,.string t171]) (ok:=fun _=>True) (okp:=fun _=>True) ?hr ?hp (fun _ hk=>hk) trivial (Below.refl _ _) (Nat.le_refl _) (by simp) ?_;(case hd=>rfl);(case hg=>rfl);(case hr=>first|(go_simp;done)|(go_simp;rfl));(case hp=>exact (aV.one (show Kd.M Kd.string _ _ _ xM [.string xM] from rfl) (aV.one (show Kd.M Kd.string _ _ _ bX [.string bX] from rfl) (aV.one (show Kd.M Kd.string _ _ _ t171 [.string t171] from rfl) (aV.none _ _)))));intro v173 w16 OI hb hg_ hnew_;clear hg_ hnew_
    (first|rw [← Ym.o] at OI|(simp only [Int.reduceToNat] at OI;rw [← Ym.o] at OI))
    have yU:=am (Kd.ic (Kd.EI OI (Kd.kU (rs dN))) (bJ (bs HB)));replace dN:=am (Kd.EF (rs dN) (Kd.qZ OI) hb);replace bE:=bb bE hb;replace bL:=bb bL hb;replace HB:=bq HB hb;clear hb OI;refine hK.out _ _ (hb5 bE).o (fun hHeld=>?_);clear hK K;refine nA 25 ?_;refine bQ 9 ?_;refine ek (fo HT_.o (by kernel_rfl)) ?_;have awL:=sF.o;have aw7:=Db.o;have Oo:=kW bE;obtain ⟨QY,SH,SY⟩:=Kd.gW yU.o;subst SY
    try go_wp2_with (first|((go_at_call 63;refine (ib.calls k (⟨#[76,73,78]⟩:ByteArray) _ _ yO t175 agx _ ?aR ?bg xU.o).mono ?_;(case aR=>exact sd (Kd.dH yU.o).2.2);(case bg=>exact (Kd.dH yU.o).2.1);rintro e CJ ⟨aL8,rfl,ho0,hb⟩);have ahU:=am (Kd.mM (Kd.yc (Kd.yc ho0 (Kd.kU (rs dN))) (Kd.kU (rs yU))) (bJ (bs HB)));replace dN:=am (Kd.cu (rs dN) hb);replace yU:=am (Kd.cu (rs yU) hb);replace bE:=bb bE hb;replace bL:=bb bL hb;replace HB:=bq HB hb;(try clear hb);(try clear ho0);have Tx:=fM bL;obtain ⟨ahr,ajU,avd⟩:=Kd.ji ahU.o;subst avd))
    refine bodyPost_ret (results_cell_row rfl _ _ lw 62 #[.string t175,.slice ahr agx.length ajU] (0,0) _ rfl (kp bL) Tryz.underlying62 rfl (by kernel_rfl)) rfl ?_
    exact ⟨_,ff,by (with_reducible repeat (first|apply Kd.iH|apply Kd.iJ|apply Kd.fU));exact Kd.eF (Kd.jv (p:=⟨lw,1,none⟩) (Kd.jv (p:=⟨lw,0,none⟩) (Kd.ze ahU.o bL.o (by decide)) (fun _ hk=>hk.2) (.string t175)) (fun _ hk=>hk.2) (.slice ahr agx.length ajU)) (fun _ hk=>trivial),bs HB⟩
   ·intro c11 xh EO H;replace H:=bo H;obtain ⟨DY,A24,H⟩:=H
    revert H;refine ku ?_
    intro c25 H;have arq:=am c25;clear c25;obtain ⟨aoF,ae0⟩:∃ y_:List ByteArray,y_=(yO++[DY]):=⟨_,rfl⟩
    replace H:((ib.f k (⟨#[76,73,78]⟩:ByteArray) aoF).bind fun BB=>(some (BB.1,BB.2)))=some (r1,r2):=ye ae0 H
    have ar3:=am ae0;clear ae0;replace H:=bo H;obtain ⟨⟨t183,agy⟩,A26,H⟩:=H;(try dsimp only at H);replace H:=xI H;obtain ⟨rfl,rfl⟩:=H
    try go_wp2
    replace dN:=am (Kd.eO dN.o);replace bE:=am (bD bE.o);replace bL:=am (bD bL.o);replace HB:=am (cZ HB.o);refine gD 10 (hb5 bE) (fun hHeld=>?_);refine fu fq.aa3 fq.YL (fun HT_ HW_=>?_)
    generalize w6.drew=Ec at dN bE bL HB hHeld ⊢
    refine bQ 0 ?_;refine bQ 3 ?_;refine bQ 5 ?_;refine ta 1 ?_;refine ta 4 ?_;refine ta 6 ?_;refine oA 2 19 HT_ (fun K hK=>?_);refine gA Tryz.func61 #[.int .i64 aI] ?_;(with_reducible refine (fK.calls k aI xM _ A9.o).mono ?_);rintro e MO ⟨rfl,hb⟩;refine ⟨_,rfl,?_⟩;replace dN:=am (Kd.cu (rs dN) hb);replace bE:=bb bE hb;replace bL:=bb bL hb;replace HB:=bq HB hb;(try clear hb);refine hK.out _ _ (hb5 bE).o (fun hHeld=>?_);clear hK K;refine nA 19 ?_;refine oA 7 24 HT_ (fun K hK=>?_);refine gA Tryz.func61 #[.int .i64 dA] ?_;(with_reducible refine (fK.calls k dA t171 _ ul.o).mono ?_);rintro e w29 ⟨rfl,hb⟩;refine ⟨_,rfl,?_⟩;replace dN:=am (Kd.cu (rs dN) hb);replace bE:=bb bE hb;replace bL:=bb bL hb;replace HB:=bq HB hb;(try clear hb);refine hK.out _ _ (hb5 bE).o (fun hHeld=>?_);clear hK K;refine nA 24 ?_;refine oA 8 25 HT_ (fun K hK=>?_);refine Kd.zR Kd.string _ 9 ?hg (N:=25) ?hd (xs:=([xM,bX,t171]:List ByteArray)) (inner:=[.string xM,.string bX,.string t171]) (ok:=fun _=>True) (okp:=fun _=>True) ?hr ?hp (fun _ hk=>hk) trivial (Below.refl _ _) (Nat.le_refl _) (by simp) ?_;(case hd=>rfl);(case hg=>rfl);(case hr=>first|(go_simp;done)|(go_simp;rfl));(case hp=>exact (aV.one (show Kd.M Kd.string _ _ _ xM [.string xM] from rfl) (aV.one (show Kd.M Kd.string _ _ _ bX [.string bX] from rfl) (aV.one (show Kd.M Kd.string _ _ _ t171 [.string t171] from rfl) (aV.none _ _)))));intro v173 uk oL hb hg_ hnew_;clear hg_ hnew_
    (first|rw [← Ym.o] at oL|(simp only [Int.reduceToNat] at oL;rw [← Ym.o] at oL))
    have yU:=am (Kd.ic (Kd.EI oL (Kd.kU (rs dN))) (bJ (bs HB)));replace dN:=am (Kd.EF (rs dN) (Kd.qZ oL) hb);replace bE:=bb bE hb;replace bL:=bb bL hb;replace HB:=bq HB hb;clear hb oL;refine hK.out _ _ (hb5 bE).o (fun hHeld=>?_);clear hK K;refine nA 25 ?_;refine bQ 9 ?_;refine ek (fo HT_.o (by kernel_rfl)) ?_;have aey:=sF.o;have aeE:=Db.o;have ZM:=kW bE
    try go_wp2_with (first|((go_at_call 61;refine (fK.calls k eU DY _ A24.o).mono ?_;rintro e CO ⟨rfl,hb⟩);replace dN:=am (Kd.cu (rs dN) hb);replace yU:=am (Kd.cu (rs yU) hb);replace bE:=bb bE hb;replace bL:=bb bL hb;replace HB:=bq HB hb;(try clear hb))|((with_reducible refine rY (b:=.append) (xs:=#[.tmp 29,.tmp 33]) rfl ?_);at_builtin;refine Kd.uy Kd.string (w0:=w) w.heap.size rfl (.tmp 29) (.tmp 33) 42 9 (.string ⟨#[]⟩) 16 rfl Tryz.underlying42 zC rfl (by decide) (by omega) v173 yO DY [.string DY] (fun k_=>some k_≠(v168:Value).ownBlock) (fun _=>False) rfl rfl ?aP (fun _ hk=>hk.elim) ?aF ?aO ?aB ?aS ?aL ?_;(case aP=>exact rfl);(case aB=>exact (bs HB));(case aF=>exact (fun k_ hk=>Kd.fresh' (Kd.kU (rs dN)) k_ hk));(case aO=>exact (by (with_reducible repeat (first|apply Kd.kM|apply Kd.jK|apply Kd.eO));exact Kd.dE yU.o (fun _ hk=>hk.2)));(case aS=>exact (bJ (bs HB)));(case aL=>have:=arq.o;omega);intro aL9 w35 ho hb hg hat;rw [← ar3.o] at ho;replace bE:=am (fV (ks bE) hg (Kd.ko yU.o bE.o (by decide)));replace bL:=am (fV (ks bL) hg (Kd.ko yU.o bL.o (by decide)));replace dN:=am (Kd.aiU (ok:=(fun _=>True)) (rs dN) hg hat);replace HB:=am (hb);have Nq:=am (ho);clear yU;clear ho hb hg hat;obtain ⟨ahv,ajW,Zy⟩:=Kd.gW Nq.o;subst Zy)|((go_at_call 63;refine (ib.calls k (⟨#[76,73,78]⟩:ByteArray) _ _ aoF t183 agy _ ?aR ?bg A26.o).mono ?_;(case aR=>exact sd (Kd.dH Nq.o).2.2);(case bg=>exact (Kd.dH Nq.o).2.1);rintro e Qd ⟨aMa,rfl,ho0,hb⟩);have ahV:=am (Kd.mM (Kd.yc (Kd.yc ho0 (Kd.kU (rs dN))) (Kd.kU (rs Nq))) (bJ (bs HB)));replace dN:=am (Kd.cu (rs dN) hb);replace Nq:=am (Kd.cu (rs Nq) hb);replace bE:=bb bE hb;replace bL:=bb bL hb;replace HB:=bq HB hb;(try clear hb);(try clear ho0);have KS:=fM bL;obtain ⟨ahw,ajX,avi⟩:=Kd.ji ahV.o;subst avi))
    refine bodyPost_ret (results_cell_row rfl _ _ lw 62 #[.string t183,.slice ahw agy.length ajX] (0,0) _ rfl (kp bL) Tryz.underlying62 rfl (by kernel_rfl)) rfl ?_
    exact ⟨_,ff,by (with_reducible repeat (first|apply Kd.iH|apply Kd.iJ|apply Kd.fU));exact Kd.eF (Kd.jv (p:=⟨lw,1,none⟩) (Kd.jv (p:=⟨lw,0,none⟩) (Kd.ze ahV.o bL.o (by decide)) (fun _ hk=>hk.2) (.string t183)) (fun _ hk=>hk.2) (.slice ahw agy.length ajX)) (fun _ hk=>trivial),bs HB⟩
  ·intro c8 kr wo H
   (first|rw [kr]|(simp only [fC,gK];rw [kr])|rw [wo]|skip)
   revert H;refine bH ?_ ?_
   ·intro BH Ze H;replace H:=bo H;obtain ⟨DZ,QQ,H⟩:=H;obtain ⟨ag8,ae1⟩:∃ y_:List ByteArray,y_=(([bX,DZ]:List ByteArray)):=⟨_,rfl⟩
    replace H:((ib.f k (⟨#[73,84,77]⟩:ByteArray) ag8).bind fun GZ=>(some (GZ.1,GZ.2)))=some (r1,r2):=ye ae1 H
    have ait:=am ae1;clear ae1;replace H:=bo H;obtain ⟨⟨agz,agA⟩,A42,H⟩:=H;(try dsimp only at H);replace H:=xI H;obtain ⟨rfl,rfl⟩:=H
    try go_wp2
    replace dN:=am (Kd.eO dN.o);replace bE:=am (bD bE.o);replace bL:=am (bD bL.o);replace HB:=am (cZ HB.o);refine gD 8 (hb5 bE) (fun hHeld=>?_);refine fu fq.MJ fq.Ke (fun HT_ HW_=>?_)
    generalize w6.drew=Qe at dN bE bL HB hHeld ⊢
    refine bQ 0 ?_;refine bQ 2 ?_;refine ta 1 ?_;refine ta 3 ?_;refine oA 4 43 HT_ (fun K hK=>?_);refine gA Tryz.func61 #[.int .i64 dA] ?_;(with_reducible refine (fK.calls k dA DZ _ QQ.o).mono ?_);rintro e F9 ⟨rfl,hb⟩;refine ⟨_,rfl,?_⟩;replace dN:=am (Kd.cu (rs dN) hb);replace bE:=bb bE hb;replace bL:=bb bL hb;replace HB:=bq HB hb;(try clear hb);refine hK.out _ _ (hb5 bE).o (fun hHeld=>?_);clear hK K;refine nA 43 ?_;refine oA 5 44 HT_ (fun K hK=>?_);refine Kd.zR Kd.string _ 9 ?hg (N:=44) ?hd (xs:=([bX,DZ]:List ByteArray)) (inner:=[.string bX,.string DZ]) (ok:=fun _=>True) (okp:=fun _=>True) ?hr ?hp (fun _ hk=>hk) trivial (Below.refl _ _) (Nat.le_refl _) (by simp) ?_;(case hd=>rfl);(case hg=>rfl);(case hr=>first|(go_simp;done)|(go_simp;rfl));(case hp=>exact (aV.one (show Kd.M Kd.string _ _ _ bX [.string bX] from rfl) (aV.one (show Kd.M Kd.string _ _ _ DZ [.string DZ] from rfl) (aV.none _ _))));intro aMb w45 OM hb hg_ hnew_;clear hg_ hnew_
    (first|rw [← ait.o] at OM|(simp only [Int.reduceToNat] at OM;rw [← ait.o] at OM))
    have Nr:=am (Kd.ic (Kd.EI OM (Kd.kU (rs dN))) (bJ (bs HB)));replace dN:=am (Kd.EF (rs dN) (Kd.qZ OM) hb);replace bE:=bb bE hb;replace bL:=bb bL hb;replace HB:=bq HB hb;clear hb OM;obtain ⟨apl,auw,akc⟩:=Kd.gW Nr.o
    (first|subst akc|(injection akc with fO jy fP;have jA:=fO.symm;have jB:=fP.symm;clear fO jy fP;subst jA;subst jB))
    refine hK.out _ _ (hb5 bE).o (fun hHeld=>?_);clear hK K;refine nA 44 ?_;refine oA 6 45 HT_ (fun K hK=>?_);refine gA Tryz.func63 #[.string (⟨#[73,84,77]⟩:ByteArray),.slice apl ag8.length auw] ?_;(with_reducible refine (ib.calls k (⟨#[73,84,77]⟩:ByteArray) _ _ ag8 agz agA _ ?aR ?bg A42.o).mono ?_)
    (case aR=>exact sd (Kd.dH Nr.o).2.2)
    (case bg=>exact (Kd.dH Nr.o).2.1)
    rintro e WX ⟨v193,rfl,ho0,hb⟩;refine ⟨_,rfl,?_⟩;have ahW:=am (Kd.mM (Kd.yc (Kd.yc ho0 (Kd.kU (rs dN))) (Kd.kU (rs Nr))) (bJ (bs HB)));replace dN:=am (Kd.cu (rs dN) hb);replace Nr:=am (Kd.cu (rs Nr) hb);replace bE:=bb bE hb;replace bL:=bb bL hb;replace HB:=bq HB hb;(try clear hb);(try clear ho0);obtain ⟨XM,Zp,Ta⟩:=Kd.ji ahW.o
    (first|subst Ta|(injection Ta with fO jy fP;have jA:=fO.symm;have jB:=fP.symm;clear fO jy fP;subst jA;subst jB))
    refine hK.out _ _ (hb5 bE).o (fun hHeld=>?_);clear hK K;refine nA 45 ?_;refine o9 (i:=7) (N:=none) #[true,true,true,true,true,true,true,true] rfl rfl (xH HT_.o (by kernel_rfl)) (by decide) (fun K hK=>?_);have aLn:WX.cell? ⟨lw,0,none⟩=some (.string (⟨#[]⟩:ByteArray)):=(aA bL.o 0).trans rfl;have aGY:=bu bL.o 0;have aKN:=sF.o;have aIB:=Db.o;have axw:WX.cell? ⟨lw,1,none⟩=some (.slice none 0 0):=(aA bL.o 1).trans rfl;have aww:=bu bL.o 1;have axs:=sF.o;have awH:=Db.o;refine xJ (w1:=?_) (by rfl) rfl ?_ ?_
    rotate_left
    ·go_simp
     rfl
    refine hK.out _ _ ⟨((cell_far (p:=⟨lw,_,none⟩) sF.o _).trans (((cell_far (p:=⟨lw,_,none⟩) sF.o _).trans (hHeld.1)))),((cell_far (p:=⟨lw,_,none⟩) sF.o _).trans (((cell_far (p:=⟨lw,_,none⟩) sF.o _).trans (hHeld.2.1)))),((cell_far (p:=⟨lw,_,none⟩) sF.o _).trans (((cell_far (p:=⟨lw,_,none⟩) sF.o _).trans (hHeld.2.2.1)))),((cell_far (p:=⟨lw,_,none⟩) sF.o _).trans (((cell_far (p:=⟨lw,_,none⟩) sF.o _).trans (hHeld.2.2.2.1)))),((cell_far (p:=⟨lw,_,none⟩) sF.o _).trans (((cell_far (p:=⟨lw,_,none⟩) sF.o _).trans (hHeld.2.2.2.2))))⟩ (fun hHeld=>?_);clear hK K;refine ek (fo HT_.o (by kernel_rfl)) ?_
    try go_wp2
    refine bodyPost_ret (results_cell_row rfl _ _ lw 62 #[.string agz,.slice XM agA.length Zp] (0,0) _ rfl (kp bL) Tryz.underlying62 rfl (by kernel_rfl)) rfl ?_
    exact ⟨_,ff,by (with_reducible repeat (first|apply Kd.iH|apply Kd.iJ|apply Kd.fU));exact Kd.eF (Kd.jv (p:=⟨lw,1,none⟩) (Kd.jv (p:=⟨lw,0,none⟩) (Kd.ze ahW.o bL.o (by decide)) (fun _ hk=>hk.2) (.string agz)) (fun _ hk=>hk.2) (.slice XM agA.length Zp)) (fun _ hk=>trivial),bs HB⟩
   ·intro c40 BH Ze H
    revert H;refine bH ?_ ?_
    ·intro ady adz H;replace H:=bo H;obtain ⟨xN,A53,H⟩:=H;replace H:=bo H;obtain ⟨t196,A54,H⟩:=H;obtain ⟨yP,ae2⟩:∃ y_:List ByteArray,y_=(([xN,t196]:List ByteArray)):=⟨_,rfl⟩
     replace H:(if eU=0 then ((ib.f k (⟨#[65,67,75]⟩:ByteArray) yP).bind fun G5=>(some (G5.1,G5.2))) else ((fK.f k eU).bind fun D5=>(if yP.length<8796093022208 then ((ib.f k (⟨#[65,67,75]⟩:ByteArray) (yP++[D5])).bind fun BC=>(some (BC.1,BC.2))) else none)))=some (r1,r2):=ye ae2 H
     have Yn:=am ae2;clear ae2
     revert H;refine bH ?_ ?_
     ·intro at7 aua H;replace H:=bo H;obtain ⟨⟨agB,t201⟩,A56,H⟩:=H;(try dsimp only at H);replace H:=xI H;obtain ⟨rfl,rfl⟩:=H
      try go_wp2
      replace dN:=am (Kd.eO dN.o);replace bE:=am (bD bE.o);replace bL:=am (bD bL.o);replace HB:=am (cZ HB.o);refine gD 8 (hb5 bE) (fun hHeld=>?_);refine fu fq.yI fq.yf (fun HT_ HW_=>?_)
      generalize w6.drew=Qg at dN bE bL HB hHeld ⊢
      refine bQ 0 ?_;refine bQ 3 ?_;refine ta 1 ?_;refine ta 4 ?_;refine oA 2 50 HT_ (fun K hK=>?_);refine gA Tryz.func61 #[.int .i64 aI] ?_;(with_reducible refine (fK.calls k aI xN _ A53.o).mono ?_);rintro e w58 ⟨rfl,hb⟩;refine ⟨_,rfl,?_⟩;replace dN:=am (Kd.cu (rs dN) hb);replace bE:=bb bE hb;replace bL:=bb bL hb;replace HB:=bq HB hb;(try clear hb);refine hK.out _ _ (hb5 bE).o (fun hHeld=>?_);clear hK K;refine nA 50 ?_;refine oA 5 53 HT_ (fun K hK=>?_);refine gA Tryz.func61 #[.int .i64 dA] ?_;(with_reducible refine (fK.calls k dA t196 _ A54.o).mono ?_);rintro e w59 ⟨rfl,hb⟩;refine ⟨_,rfl,?_⟩;replace dN:=am (Kd.cu (rs dN) hb);replace bE:=bb bE hb;replace bL:=bb bL hb;replace HB:=bq HB hb;(try clear hb);refine hK.out _ _ (hb5 bE).o (fun hHeld=>?_);clear hK K;refine nA 53 ?_;refine oA 6 54 HT_ (fun K hK=>?_);refine Kd.zR Kd.string _ 9 ?hg (N:=54) ?hd (xs:=([xN,t196]:List ByteArray)) (inner:=[.string xN,.string t196]) (ok:=fun _=>True) (okp:=fun _=>True) ?hr ?hp (fun _ hk=>hk) trivial (Below.refl _ _) (Nat.le_refl _) (by simp) ?_;(case hd=>rfl);(case hg=>rfl);(case hr=>first|(go_simp;done)|(go_simp;rfl));(case hp=>exact (aV.one (show Kd.M Kd.string _ _ _ xN [.string xN] from rfl) (aV.one (show Kd.M Kd.string _ _ _ t196 [.string t196] from rfl) (aV.none _ _))));intro v198 w60 OO hb hg_ hnew_;clear hg_ hnew_
      (first|rw [← Yn.o] at OO|(simp only [Int.reduceToNat] at OO;rw [← Yn.o] at OO))
      have yV:=am (Kd.ic (Kd.EI OO (Kd.kU (rs dN))) (bJ (bs HB)));replace dN:=am (Kd.EF (rs dN) (Kd.qZ OO) hb);replace bE:=bb bE hb;replace bL:=bb bL hb;replace HB:=bq HB hb;clear hb OO;refine hK.out _ _ (hb5 bE).o (fun hHeld=>?_);clear hK K;refine nA 54 ?_;refine bQ 7 ?_;refine ek (fo HT_.o (by kernel_rfl)) ?_;have amb:=sF.o;have amm:=Db.o;have av5:=kW bE;obtain ⟨aDt,aE6,avk⟩:=Kd.gW yV.o;subst avk
      try go_wp2_with (first|((go_at_call 63;refine (ib.calls k (⟨#[65,67,75]⟩:ByteArray) _ _ yP agB t201 _ ?aR ?bg A56.o).mono ?_;(case aR=>exact sd (Kd.dH yV.o).2.2);(case bg=>exact (Kd.dH yV.o).2.1);rintro e w65 ⟨aMc,rfl,ho0,hb⟩);have ahX:=am (Kd.mM (Kd.yc (Kd.yc ho0 (Kd.kU (rs dN))) (Kd.kU (rs yV))) (bJ (bs HB)));replace dN:=am (Kd.cu (rs dN) hb);replace yV:=am (Kd.cu (rs yV) hb);replace bE:=bb bE hb;replace bL:=bb bL hb;replace HB:=bq HB hb;(try clear hb);(try clear ho0);have aGd:=fM bL;obtain ⟨ahz,aj0,avl⟩:=Kd.ji ahX.o;subst avl))
      refine bodyPost_ret (results_cell_row rfl _ _ lw 62 #[.string agB,.slice ahz t201.length aj0] (0,0) _ rfl (kp bL) Tryz.underlying62 rfl (by kernel_rfl)) rfl ?_
      exact ⟨_,ff,by (with_reducible repeat (first|apply Kd.iH|apply Kd.iJ|apply Kd.fU));exact Kd.eF (Kd.jv (p:=⟨lw,1,none⟩) (Kd.jv (p:=⟨lw,0,none⟩) (Kd.ze ahX.o bL.o (by decide)) (fun _ hk=>hk.2) (.string agB)) (fun _ hk=>hk.2) (.slice ahz t201.length aj0)) (fun _ hk=>trivial),bs HB⟩
     ·intro c55 at7 aua H;replace H:=bo H;obtain ⟨D5,A68,H⟩:=H
      revert H;refine ku ?_
      intro c69 H;have arB:=am c69;clear c69;obtain ⟨aoG,ae3⟩:∃ y_:List ByteArray,y_=(yP++[D5]):=⟨_,rfl⟩
      replace H:((ib.f k (⟨#[65,67,75]⟩:ByteArray) aoG).bind fun BC=>(some (BC.1,BC.2)))=some (r1,r2):=ye ae3 H
      have ar4:=am ae3;clear ae3;replace H:=bo H;obtain ⟨⟨t208,agC⟩,A70,H⟩:=H;(try dsimp only at H);replace H:=xI H;obtain ⟨rfl,rfl⟩:=H
      try go_wp2
      replace dN:=am (Kd.eO dN.o);replace bE:=am (bD bE.o);replace bL:=am (bD bL.o);replace HB:=am (cZ HB.o);refine gD 8 (hb5 bE) (fun hHeld=>?_);refine fu fq.yI fq.yf (fun HT_ HW_=>?_)
      generalize w6.drew=Qh at dN bE bL HB hHeld ⊢
      refine bQ 0 ?_;refine bQ 3 ?_;refine ta 1 ?_;refine ta 4 ?_;refine oA 2 50 HT_ (fun K hK=>?_);refine gA Tryz.func61 #[.int .i64 aI] ?_;(with_reducible refine (fK.calls k aI xN _ A53.o).mono ?_);rintro e w72 ⟨rfl,hb⟩;refine ⟨_,rfl,?_⟩;replace dN:=am (Kd.cu (rs dN) hb);replace bE:=bb bE hb;replace bL:=bb bL hb;replace HB:=bq HB hb;(try clear hb);refine hK.out _ _ (hb5 bE).o (fun hHeld=>?_);clear hK K;refine nA 50 ?_;refine oA 5 53 HT_ (fun K hK=>?_);refine gA Tryz.func61 #[.int .i64 dA] ?_;(with_reducible refine (fK.calls k dA t196 _ A54.o).mono ?_);rintro e w73 ⟨rfl,hb⟩;refine ⟨_,rfl,?_⟩;replace dN:=am (Kd.cu (rs dN) hb);replace bE:=bb bE hb;replace bL:=bb bL hb;replace HB:=bq HB hb;(try clear hb);refine hK.out _ _ (hb5 bE).o (fun hHeld=>?_);clear hK K;refine nA 53 ?_;refine oA 6 54 HT_ (fun K hK=>?_);refine Kd.zR Kd.string _ 9 ?hg (N:=54) ?hd (xs:=([xN,t196]:List ByteArray)) (inner:=[.string xN,.string t196]) (ok:=fun _=>True) (okp:=fun _=>True) ?hr ?hp (fun _ hk=>hk) trivial (Below.refl _ _) (Nat.le_refl _) (by simp) ?_;(case hd=>rfl);(case hg=>rfl);(case hr=>first|(go_simp;done)|(go_simp;rfl));(case hp=>exact (aV.one (show Kd.M Kd.string _ _ _ xN [.string xN] from rfl) (aV.one (show Kd.M Kd.string _ _ _ t196 [.string t196] from rfl) (aV.none _ _))));intro v198 w74 OP hb hg_ hnew_;clear hg_ hnew_
      (first|rw [← Yn.o] at OP|(simp only [Int.reduceToNat] at OP;rw [← Yn.o] at OP))
      have yV:=am (Kd.ic (Kd.EI OP (Kd.kU (rs dN))) (bJ (bs HB)));replace dN:=am (Kd.EF (rs dN) (Kd.qZ OP) hb);replace bE:=bb bE hb;replace bL:=bb bL hb;replace HB:=bq HB hb;clear hb OP;refine hK.out _ _ (hb5 bE).o (fun hHeld=>?_);clear hK K;refine nA 54 ?_;refine bQ 7 ?_;refine ek (fo HT_.o (by kernel_rfl)) ?_;have aw3:=sF.o;have axp:=Db.o;have awc:=kW bE
      try go_wp2_with (first|((go_at_call 61;refine (fK.calls k eU D5 _ A68.o).mono ?_;rintro e w78 ⟨rfl,hb⟩);replace dN:=am (Kd.cu (rs dN) hb);replace yV:=am (Kd.cu (rs yV) hb);replace bE:=bb bE hb;replace bL:=bb bL hb;replace HB:=bq HB hb;(try clear hb))|((with_reducible refine rY (b:=.append) (xs:=#[.tmp 58,.tmp 62]) rfl ?_);at_builtin;refine Kd.uy Kd.string (w0:=w) w.heap.size rfl (.tmp 58) (.tmp 62) 42 9 (.string ⟨#[]⟩) 16 rfl Tryz.underlying42 zC rfl (by decide) (by omega) v198 yP D5 [.string D5] (fun k_=>some k_≠(v168:Value).ownBlock) (fun _=>False) rfl rfl ?aP (fun _ hk=>hk.elim) ?aF ?aO ?aB ?aS ?aL ?_;(case aP=>exact rfl);(case aB=>exact (bs HB));(case aF=>exact (fun k_ hk=>Kd.fresh' (Kd.kU (rs dN)) k_ hk));(case aO=>exact (by (with_reducible repeat (first|apply Kd.kM|apply Kd.jK|apply Kd.eO));exact Kd.dE yV.o (fun _ hk=>hk.2)));(case aS=>exact (bJ (bs HB)));(case aL=>have:=arB.o;omega);intro v206 w79 ho hb hg hat;rw [← ar4.o] at ho;replace bE:=am (fV (ks bE) hg (Kd.ko yV.o bE.o (by decide)));replace bL:=am (fV (ks bL) hg (Kd.ko yV.o bL.o (by decide)));replace dN:=am (Kd.aiU (ok:=(fun _=>True)) (rs dN) hg hat);replace HB:=am (hb);have Ns:=am (ho);clear yV;clear ho hb hg hat;obtain ⟨aDu,aE7,avo⟩:=Kd.gW Ns.o;subst avo)|((go_at_call 63;refine (ib.calls k (⟨#[65,67,75]⟩:ByteArray) _ _ aoG t208 agC _ ?aR ?bg A70.o).mono ?_;(case aR=>exact sd (Kd.dH Ns.o).2.2);(case bg=>exact (Kd.dH Ns.o).2.1);rintro e w81 ⟨v210,rfl,ho0,hb⟩);have ahY:=am (Kd.mM (Kd.yc (Kd.yc ho0 (Kd.kU (rs dN))) (Kd.kU (rs Ns))) (bJ (bs HB)));replace dN:=am (Kd.cu (rs dN) hb);replace Ns:=am (Kd.cu (rs Ns) hb);replace bE:=bb bE hb;replace bL:=bb bL hb;replace HB:=bq HB hb;(try clear hb);(try clear ho0);have awd:=fM bL;obtain ⟨ahA,aj1,avp⟩:=Kd.ji ahY.o;subst avp))
      refine bodyPost_ret (results_cell_row rfl _ _ lw 62 #[.string t208,.slice ahA agC.length aj1] (0,0) _ rfl (kp bL) Tryz.underlying62 rfl (by kernel_rfl)) rfl ?_
      exact ⟨_,ff,by (with_reducible repeat (first|apply Kd.iH|apply Kd.iJ|apply Kd.fU));exact Kd.eF (Kd.jv (p:=⟨lw,1,none⟩) (Kd.jv (p:=⟨lw,0,none⟩) (Kd.ze ahY.o bL.o (by decide)) (fun _ hk=>hk.2) (.string t208)) (fun _ hk=>hk.2) (.slice ahA agC.length aj1)) (fun _ hk=>trivial),bs HB⟩
    ·intro c52 ady adz H
     revert H;refine bH ?_ ?_
     ·intro KA auc H;replace H:=bo H;obtain ⟨t212,A85,H⟩:=H;obtain ⟨aoH,ae4⟩:∃ y_:List ByteArray,y_=(([bX,t212]:List ByteArray)):=⟨_,rfl⟩
      replace H:(fq.j0 k a0 aoH aI bX dA eU ru)=some (r1,r2):=ye ae4 H
      have aiu:=am ae4;clear ae4;have H':=am H;clear H
      try go_wp2
      replace dN:=am (Kd.eO dN.o);replace bE:=am (bD bE.o);replace bL:=am (bD bL.o);replace HB:=am (cZ HB.o);refine gD 7 (hb5 bE) (fun hHeld=>?_)
      generalize w6.drew=w86 at dN bE bL HB hHeld ⊢
      refine pu 0 68 #[true,false,false,false,false,false,false] ?_
      refine pu 2 70 #[true,false,true,false,false,false,false] ?_
      refine tu 1 69 #[true,true,true,false,false,false,false] ?_
      refine tu 3 71 #[true,true,true,true,false,false,false] ?_
      refine o9 (i:=4) (N:=some 72) #[true,true,true,true,true,false,false] rfl rfl (by kernel_rfl) (by decide) (fun K hK=>?_);refine gA Tryz.func61 #[.int .i64 dA] ?_;(with_reducible refine (fK.calls k dA t212 _ A85.o).mono ?_);rintro e w87 ⟨rfl,hb⟩;refine ⟨_,rfl,?_⟩;replace dN:=am (Kd.cu (rs dN) hb);replace bE:=bb bE hb;replace bL:=bb bL hb;replace HB:=bq HB hb;(try clear hb);refine hK.out _ _ (hb5 bE).o (fun hHeld=>?_);clear hK K;refine nA 72 ?_;refine o9 (i:=5) (N:=some 73) #[true,true,true,true,true,true,false] rfl rfl (by kernel_rfl) (by decide) (fun K hK=>?_);refine Kd.zR Kd.string _ 9 ?hg (N:=73) ?hd (xs:=([bX,t212]:List ByteArray)) (inner:=[.string bX,.string t212]) (ok:=fun _=>True) (okp:=fun _=>True) ?hr ?hp (fun _ hk=>hk) trivial (Below.refl _ _) (Nat.le_refl _) (by simp) ?_;(case hd=>rfl);(case hg=>rfl);(case hr=>first|(go_simp;done)|(go_simp;rfl));(case hp=>exact (aV.one (show Kd.M Kd.string _ _ _ bX [.string bX] from rfl) (aV.one (show Kd.M Kd.string _ _ _ t212 [.string t212] from rfl) (aV.none _ _))));intro aMd w88 OQ hb hg_ hnew_;clear hg_ hnew_
      (first|rw [← aiu.o] at OQ|(simp only [Int.reduceToNat] at OQ;rw [← aiu.o] at OQ))
      have aqf:=am (Kd.ic (Kd.EI OQ (Kd.kU (rs dN))) (bJ (bs HB)));replace dN:=am (Kd.EF (rs dN) (Kd.qZ OQ) hb);replace bE:=bb bE hb;replace bL:=bb bL hb;replace HB:=bq HB hb;clear hb OQ;refine hK.out _ _ (hb5 bE).o (fun hHeld=>?_);clear hK K;refine nA 73 ?_;refine pu 6 5 #[true,true,true,true,true,true,true] ?_
      refine ek (by kernel_rfl) ?_
      try go_wp2
      go_meet
      case rel=>exact ⟨_,(aoH),((⟨#[]⟩:ByteArray)),H',⟨fl⟩,⟨by (with_reducible repeat (first|apply Kd.kM|apply Kd.jK|apply Kd.eO));exact Kd.dE aqf.o (fun _ hk=>trivial)⟩,⟨ks bE⟩,⟨ks bL⟩,⟨bs HB⟩⟩
     ·intro Kz KA auc H;replace H:=bo H;obtain ⟨D6,Jw,H⟩:=H;replace H:=bo H;obtain ⟨D7,A91,H⟩:=H;obtain ⟨aoI,ae5⟩:∃ y_:List ByteArray,y_=(([D6,D7]:List ByteArray)):=⟨_,rfl⟩
      replace H:(fq.j0 k a0 aoI aI bX dA eU ru)=some (r1,r2):=ye ae5 H
      have aiv:=am ae5;clear ae5;have H':=am H;clear H
      try go_wp2
      replace dN:=am (Kd.eO dN.o);replace bE:=am (bD bE.o);replace bL:=am (bD bL.o);replace HB:=am (cZ HB.o);refine gD 8 (hb5 bE) (fun hHeld=>?_);refine fu fq.WT fq.R6 (fun HT_ HW_=>?_)
      generalize w6.drew=w92 at dN bE bL HB hHeld ⊢
      refine bQ 0 ?_;refine bQ 3 ?_;refine ta 1 ?_;refine ta 4 ?_;refine oA 2 10 HT_ (fun K hK=>?_);refine gA Tryz.func61 #[.int .i64 aI] ?_;(with_reducible refine (fK.calls k aI D6 _ Jw.o).mono ?_);rintro e w93 ⟨rfl,hb⟩;refine ⟨_,rfl,?_⟩;replace dN:=am (Kd.cu (rs dN) hb);replace bE:=bb bE hb;replace bL:=bb bL hb;replace HB:=bq HB hb;(try clear hb);refine hK.out _ _ (hb5 bE).o (fun hHeld=>?_);clear hK K;refine nA 10 ?_;refine oA 5 13 HT_ (fun K hK=>?_);refine gA Tryz.func61 #[.int .i64 dA] ?_;(with_reducible refine (fK.calls k dA D7 _ A91.o).mono ?_);rintro e w94 ⟨rfl,hb⟩;refine ⟨_,rfl,?_⟩;replace dN:=am (Kd.cu (rs dN) hb);replace bE:=bb bE hb;replace bL:=bb bL hb;replace HB:=bq HB hb;(try clear hb);refine hK.out _ _ (hb5 bE).o (fun hHeld=>?_);clear hK K;refine nA 13 ?_;refine oA 6 14 HT_ (fun K hK=>?_);refine Kd.zR Kd.string _ 9 ?hg (N:=14) ?hd (xs:=([D6,D7]:List ByteArray)) (inner:=[.string D6,.string D7]) (ok:=fun _=>True) (okp:=fun _=>True) ?hr ?hp (fun _ hk=>hk) trivial (Below.refl _ _) (Nat.le_refl _) (by simp) ?_;(case hd=>rfl);(case hg=>rfl);(case hr=>first|(go_simp;done)|(go_simp;rfl));(case hp=>exact (aV.one (show Kd.M Kd.string _ _ _ D6 [.string D6] from rfl) (aV.one (show Kd.M Kd.string _ _ _ D7 [.string D7] from rfl) (aV.none _ _))));intro aMe w95 OT hb hg_ hnew_;clear hg_ hnew_
      (first|rw [← aiv.o] at OT|(simp only [Int.reduceToNat] at OT;rw [← aiv.o] at OT))
      have aqg:=am (Kd.ic (Kd.EI OT (Kd.kU (rs dN))) (bJ (bs HB)));replace dN:=am (Kd.EF (rs dN) (Kd.qZ OT) hb);replace bE:=bb bE hb;replace bL:=bb bL hb;replace HB:=bq HB hb;clear hb OT;refine hK.out _ _ (hb5 bE).o (fun hHeld=>?_);clear hK K;refine nA 14 ?_;refine bQ 7 ?_;refine ek (fo HT_.o (by kernel_rfl)) ?_
      try go_wp2
      go_meet
      case rel=>exact ⟨_,(aoI),((⟨#[]⟩:ByteArray)),H',⟨fl⟩,⟨by (with_reducible repeat (first|apply Kd.kM|apply Kd.jK|apply Kd.eO));exact Kd.dE aqg.o (fun _ hk=>trivial)⟩,⟨ks bE⟩,⟨ks bL⟩,⟨bs HB⟩⟩
 case rest =>
  clear rT
  obtain ⟨kq,fw,agO,HA,HJ2,bU,bE,bL,HB⟩:=hcut
  cases kq with
  | zero=>exact absurd HA.o (by simp [fq.j0])
  | succ FO =>
   have H:=HA.o;clear HA;simp only [fq.j0] at H;have acd:=am H;clear H;have aJz:=sF.o;have aKj:=Db.o;have awe:=kW bE
   go_upto_if 76 with (fail)
   go_cut [5] (fun v5 wc=>∃ (kq:Nat) (Xn:List ByteArray),af (fq.j1 kq a0 Xn=some (r1,r2))∧af (kq≤FO)∧af (Kd.R Kd.string 9 wc w.heap.size (fun _=>True) v5 Xn)∧af (wc.heap[akn]? = some (.cells #[.int .i64 aI,.string bX,.int .i64 dA,.int .i64 eU,.string ru] 95 (0,0)))∧af (wc.heap[lw]? = some (.cells #[.string agO,(.slice none 0 0)] 62 (0,0)))∧af (Below w.heap.size w wc))
   case first =>
    have H:=acd.o;clear acd
    revert H;refine Ps ?_ ?_
    ·intro adf adg adh H
     (first|rw [adf]|simp only [adh,Bool.not_true,Bool.not_false]|rw [adg]|skip)
     have H':=am H;clear H
     go_wp2
     go_meet
     case rel=>exact ⟨_,(fw),H',⟨by have:=HJ2.o;first|omega|exact Nat.le_refl _⟩,⟨rz bU.o⟩,⟨ks bE⟩,⟨ks bL⟩,⟨bs HB⟩⟩
    ·intro aEo adf adg adh H
     (first|rw [adf]|simp only [adh,Bool.not_true,Bool.not_false]|rw [adg]|skip)
     revert H;refine ku ?_
     intro ajA H;have ari:=am ajA;clear ajA;obtain ⟨aoJ,ae6⟩:∃ y_:List ByteArray,y_=(fw++[ru]):=⟨_,rfl⟩
     replace H:(fq.j1 FO a0 aoJ)=some (r1,r2):=ye ae6 H
     have ar5:=am ae6;clear ae6;have H':=am H;clear H;have aIT:=sF.o;have aJD:=Db.o;have aFg:=kW bE
     go_wp2_with (first|((with_reducible refine rY (b:=.append) (xs:=#[.tmp 77,.tmp 80]) rfl ?_);at_builtin;refine Kd.uy Kd.string (w0:=w) w.heap.size rfl (.tmp 77) (.tmp 80) 42 9 (.string ⟨#[]⟩) 16 rfl Tryz.underlying42 zC rfl (by decide) (by omega) u5 fw ru [.string ru] (fun _=>True) (fun _=>False) rfl rfl ?aP (fun _ hk=>hk.elim) ?aF ?aO ?aB ?aS ?aL ?_;(case aP=>exact rfl);(case aB=>exact (bs HB));(case aF=>exact (fun _ _=>trivial));(case aO=>exact (rs bU));(case aS=>exact (bJ (bs HB)));(case aL=>have:=ari.o;omega);intro v222 aMT ho hb hg hat;rw [← ar5.o] at ho;replace bE:=am (fV (ks bE) hg (Kd.ko bU.o bE.o (by decide)));replace bL:=am (fV (ks bL) hg (Kd.ko bU.o bL.o (by decide)));replace HB:=am (hb);have aqh:=am (ho);clear bU;clear ho hb hg hat))
     go_meet
     case rel=>exact ⟨_,(aoJ),H',⟨by have:=HJ2.o;first|omega|exact Nat.le_refl _⟩,⟨rz aqh.o⟩,⟨ks bE⟩,⟨ks bL⟩,⟨bs HB⟩⟩
   case rest =>
    clear acd
    try clear awe
    obtain ⟨kq,Xn,HA,aD6,bU,bE,bL,HB⟩:=hcut
    cases kq with
    | zero=>exact absurd HA.o (by simp [fq.j1])
    | succ ane =>
     have H:=HA.o;clear HA;simp only [fq.j1] at H
     revert H;refine bH ?_ ?_
     ·intro ajB atx H;replace H:=bo H;obtain ⟨⟨agD,agE⟩,aoW,H⟩:=H;(try dsimp only at H);replace H:=xI H;obtain ⟨rfl,rfl⟩:=H;obtain ⟨aDq,aE3,au3⟩:=Kd.gW bU.o;subst au3
      go_wp2_with (first|((go_at_call 63;refine (ib.calls ane (⟨#[73,84,77]⟩:ByteArray) _ _ Xn agD agE _ ?aR ?bg aoW.o).mono ?_;(case aR=>exact sd (Kd.dH bU.o).2.2);(case bg=>exact (Kd.dH bU.o).2.1);rintro e aMU ⟨v226,rfl,ho0,hb⟩);have ahZ:=am (Kd.mM (Kd.yc ho0 (Kd.kU (rs bU))) (bJ (bs HB)));replace bU:=am (Kd.cu (rs bU) hb);replace bE:=bb bE hb;replace bL:=bb bL hb;replace HB:=bq HB hb;(try clear hb);(try clear ho0);have aIU:=Db.o;have aJE:=sF.o;have aFl:=fM bL;obtain ⟨aho,ajR,au4⟩:=Kd.ji ahZ.o;subst au4))
      refine bodyPost_ret (results_cell_row rfl _ _ lw 62 #[.string agD,.slice aho agE.length ajR] (0,0) _ rfl (kp bL) Tryz.underlying62 rfl (by kernel_rfl)) rfl ?_
      exact ⟨_,ff,by (with_reducible repeat (first|apply Kd.iH|apply Kd.iJ|apply Kd.fU));exact Kd.eF (Kd.jv (p:=⟨lw,1,none⟩) (Kd.jv (p:=⟨lw,0,none⟩) (Kd.ze ahZ.o bL.o (by decide)) (fun _ hk=>hk.2) (.string agD)) (fun _ hk=>hk.2) (.slice aho agE.length ajR)) (fun _ hk=>trivial),bs HB⟩
     ·intro c105 ajB atx H;replace H:=bo H;obtain ⟨⟨t228,t229⟩,aoX,H⟩:=H;(try dsimp only at H);replace H:=xI H;obtain ⟨rfl,rfl⟩:=H;obtain ⟨aDr,aE4,au5⟩:=Kd.gW bU.o;subst au5
      go_wp2_with (first|((go_at_call 63;refine (ib.calls ane (⟨#[76,73,78]⟩:ByteArray) _ _ Xn t228 t229 _ ?aR ?bg aoX.o).mono ?_;(case aR=>exact sd (Kd.dH bU.o).2.2);(case bg=>exact (Kd.dH bU.o).2.1);rintro e aMY ⟨aMf,rfl,ho0,hb⟩);have ah0:=am (Kd.mM (Kd.yc ho0 (Kd.kU (rs bU))) (bJ (bs HB)));replace bU:=am (Kd.cu (rs bU) hb);replace bE:=bb bE hb;replace bL:=bb bL hb;replace HB:=bq HB hb;(try clear hb);(try clear ho0);have awJ:=Db.o;have aw5:=sF.o;have aFm:=fM bL;obtain ⟨ahp,ajS,au6⟩:=Kd.ji ah0.o;subst au6))
      refine bodyPost_ret (results_cell_row rfl _ _ lw 62 #[.string t228,.slice ahp t229.length ajS] (0,0) _ rfl (kp bL) Tryz.underlying62 rfl (by kernel_rfl)) rfl ?_
      exact ⟨_,ff,by (with_reducible repeat (first|apply Kd.iH|apply Kd.iJ|apply Kd.fU));exact Kd.eF (Kd.jv (p:=⟨lw,1,none⟩) (Kd.jv (p:=⟨lw,0,none⟩) (Kd.ze ah0.o bL.o (by decide)) (fun _ hk=>hk.2) (.string t228)) (fun _ hk=>hk.2) (.slice ahp t229.length ajS)) (fun _ hk=>trivial),bs HB⟩
end Go.Proofs.YtapilmimgiaglaaGreatDoor.QX
