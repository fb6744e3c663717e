-- Merged by a program of this session (wip/tool/pack.py) out of its own texts for this claim.
import Derived.Test.YtapilmimgiaglaaGreatDoorKFnExactParcelRight7
set_option maxHeartbeats 8000000
set_option maxRecDepth 100000
set_option linter.unusedSimpArgs false
set_option linter.unusedVariables false
namespace Go.Proofs.YtapilmimgiaglaaGreatDoor.QA
open Go.RowKit Go.Proofs.bB.fA Go.Proofs.bB.PrintLast Go.Proofs.bB.PrintMore
attribute [local go_sem] o6 pg o9 pE o8 pz o7 pq   -- for this text's walks alone
def eF.T3:Bool × List (List Nat × List Nat):=(true,[([],[]),([0],[0]),([1],[1]),([],[]),([3],[3]),([4,2],[4]),([2,5],[2,5]),([6,5,0,1,2,3,4,5,6],[6])])
def eF.B3:List Nat:=[0,1,3,0,8,31,63,127]
theorem eF.Tv:fJ .any (opsOf Tryz.f64 3)=eF.T3:=by kernel_rfl
theorem eF.OZ:iY eF.T3.2 eF.B3=true:=by kernel_rfl
def eF.T5:Bool × List (List Nat × List Nat):=(true,[([],[]),([0],[0]),([1],[1]),([],[]),([3],[3]),([],[]),([5],[5]),([6,2],[6]),([2,4,7],[2,4,7]),([8,7,0,1,2,3,4,5,6,7,8],[8])])
def eF.B5:List Nat:=[0,1,3,0,8,0,32,103,255,511]
theorem eF.XY:fJ .any (opsOf Tryz.f64 5)=eF.T5:=by kernel_rfl
theorem eF.Vj:iY eF.T5.2 eF.B5=true:=by kernel_rfl
def eF.Et:Bool × List (List Nat × List Nat):=(true,[([],[]),([0],[0]),([],[]),([2],[2]),([3],[3]),([1,4],[1,4]),([5,4],[5]),([6,6,0,1,2,3,4,5,6],[6])])
def eF.B10:List Nat:=[0,1,0,4,12,31,63,127]
theorem eF.JI:fJ .any (opsOf Tryz.f64 10)=eF.Et:=by kernel_rfl
theorem eF.G7:iY eF.Et.2 eF.B10=true:=by kernel_rfl
def eF.sK:Bool × List (List Nat × List Nat):=(true,[([],[]),([0],[0]),([1],[1]),([],[]),([3],[3]),([4,2],[4]),([2,5],[2,5]),([6,5,0,1,2,3,4,5,6],[6])])
def eF.zh:List Nat:=[0,1,3,0,8,31,63,127]
theorem eF.wP:fJ .any (opsOf Tryz.f64 12)=eF.sK:=by kernel_rfl
theorem eF.vY:iY eF.sK.2 eF.zh=true:=by kernel_rfl
theorem eF.calls (k:Nat) (a0:Int) (aM:Int) (dh:ByteArray) (dx:Int) (ek:Int) (oQ:ByteArray) (r1:ByteArray) (r2:List (dw)) (w:World) (H:eF.f k a0 aM dh dx ek oQ=some (r1,r2)) :
  Calls Tryz.prog 64 #[.int .i64 a0,.agg #[.int .i64 aM,.string dh,.int .i64 dx,.int .i64 ek,.string oQ]] w fun e w'=>∃ F3:Value,e=.returned (.agg #[.string r1,F3])∧Kd.S lG 97 w' w.heap.size (fun _=>True) F3 r2∧Below w.heap.size w w':=by
 have Bh:=Tryz.underlying95;have qR:=Tryz.underlying62;have HB:=am (Below.refl w.heap.size w);unfold eF.f at H;obtain ⟨y167,hy167⟩:∃ y_:List ByteArray,y_=(([]:List ByteArray)):=⟨_,rfl⟩
 replace H:(if a0=1 then ((fw.f k aM).bind fun vI=>((fw.f k dx).bind fun t171=>((some (([vI,dh,t171]:List ByteArray):List ByteArray)).bind fun wX=>(if ek=0 then ((gI.f k (⟨#[76,73,78]⟩:ByteArray) wX).bind fun Ew=>(some (Ew.1,Ew.2))) else ((fw.f k ek).bind fun BA=>(if wX.length<8796093022208 then ((gI.f k (⟨#[76,73,78]⟩:ByteArray) (wX++[BA])).bind fun zw=>(some (zw.1,zw.2))) else (none))))))) else (if a0=5 then ((fw.f k dx).bind fun BB=>((gI.f k (⟨#[73,84,77]⟩:ByteArray) (([dh,BB]:List ByteArray))).bind fun Ex=>(some (Ex.1,Ex.2)))) else (if a0=7 then ((fw.f k aM).bind fun vJ=>((fw.f k dx).bind fun t196=>((some (([vJ,t196]:List ByteArray):List ByteArray)).bind fun wY=>(if ek=0 then ((gI.f k (⟨#[65,67,75]⟩:ByteArray) wY).bind fun Ey=>(some (Ey.1,Ey.2))) else ((fw.f k ek).bind fun BC=>(if wY.length<8796093022208 then ((gI.f k (⟨#[65,67,75]⟩:ByteArray) (wY++[BC])).bind fun zx=>(some (zx.1,zx.2))) else (none))))))) else (if a0=6 then ((fw.f k dx).bind fun t212=>(eF.j0 k a0 (([dh,t212]:List ByteArray)) aM dh dx ek oQ)) else ((fw.f k aM).bind fun BD=>((fw.f k dx).bind fun BF=>(eF.j0 k a0 (([BD,BF]:List ByteArray)) aM dh dx ek oQ)))))))=some (r1,r2):=ye hy167 H
 have afx:=am hy167;clear hy167;have uK:=am H;clear H
 go_in
 go_upto_block 0 with (first|((with_reducible refine aN (N:=3) rfl ?_);refine bz 3 (cs:=#[.int .i64 aM,.string dh,.int .i64 dx,.int .i64 ek,.string oQ]) (t:=95) HB ?_;clear HB;intro ahB hg w4 bn az2 hb HB;clear hb hg)|((with_reducible refine aN (N:=4) rfl ?_);refine bz 4 (cs:=#[.string (⟨#[]⟩:ByteArray),.slice none 0 0]) (t:=62) HB ?_;clear HB;intro ky hg w5 bD az3 hb HB;have qf:=na hg bn;have AA:=nc hg bn;replace bn:=bb bn hb;clear hb hg)|((with_reducible refine aN (N:=6) rfl ?_);refine rl Kd.string 9 (N:=6) (xs:=([]:List ByteArray)) (inner:=[]) ?hp ?_;(case hp=>exact (aQ.none _ _));intro v168 w6 wy hb hg_ hnew_;clear hg_ hnew_;(first|rw [← afx.out] at wy|(simp only [Int.reduceToNat] at wy;rw [← afx.out] at wy));have dB:=am (Kd.gU wy (bC (bs HB)));replace bn:=bb bn hb;replace bD:=bb bD hb;replace HB:=bq HB hb;clear hb wy))
 (try simp only [Act.put,List.setIfInBounds_toArray,List.set_cons_zero,List.set_cons_succ])
 go_cut [5] (fun v5 wc=>∃ (kq:Nat) (eG:List ByteArray) (adR:ByteArray),af (eF.j0 kq a0 eG aM dh dx ek oQ=some (r1,r2))∧af (kq≤k)∧af (Kd.R Kd.string 9 wc w.heap.size (fun _=>True) v5 eG)∧af (wc.heap[ahB]? = some (.cells #[.int .i64 aM,.string dh,.int .i64 dx,.int .i64 ek,.string oQ] 95 (0,0)))∧af (wc.heap[ky]? = some (.cells #[.string adR,(.slice none 0 0)] 62 (0,0)))∧af (Below w.heap.size w wc))
 case first =>
  have H:=uK.out;clear uK
  revert H;refine bL ?_ ?_
  ·intro jR uU H
   (first|rw [jR]|(simp only [fu,gy];rw [jR])|rw [uU]|skip)
   replace H:=bo H;obtain ⟨vI,A9,H⟩:=H;replace H:=bo H;obtain ⟨t171,qb,H⟩:=H;obtain ⟨wX,ab2⟩:∃ y_:List ByteArray,y_=(([vI,dh,t171]:List ByteArray)):=⟨_,rfl⟩
   replace H:(if ek=0 then ((gI.f k (⟨#[76,73,78]⟩:ByteArray) wX).bind fun Ew=>(some (Ew.1,Ew.2))) else ((fw.f k ek).bind fun BA=>(if wX.length<8796093022208 then ((gI.f k (⟨#[76,73,78]⟩:ByteArray) (wX++[BA])).bind fun zw=>(some (zw.1,zw.2))) else (none))))=some (r1,r2):=ye ab2 H
   have UY:=am ab2;clear ab2
   revert H;refine bL ?_ ?_
   ·intro xE Cv H;replace H:=bo H;obtain ⟨⟨t175,adA⟩,vQ,H⟩:=H;(try dsimp only at H);replace H:=wL H;obtain ⟨rfl,rfl⟩:=H
    try go_wp2
    replace dB:=am (Kd.dY dB.out);replace bn:=am (bg bn.out);replace bD:=am (bg bD.out);replace HB:=am (cO HB.out);refine il 10 (hb5 bn) (fun hHeld=>?_);refine gq eF.XY eF.Vj (fun HT_ HW_=>?_)
    generalize w6.drew=vO at dB bn bD HB hHeld ⊢
    refine bV 0 ?_;refine bV 3 ?_;refine bV 5 ?_;refine ta 1 ?_;refine ta 4 ?_;refine ta 6 ?_;refine oA 2 19 HT_ (fun K hK=>?_);refine gA Tryz.func61 #[.int .i64 aM] ?_;(with_reducible refine (fw.calls k aM vI _ A9.out).mono ?_);rintro e vP ⟨rfl,hb⟩;refine ⟨_,rfl,?_⟩;replace dB:=am (Kd.dK (rs dB) hb);replace bn:=bb bn hb;replace bD:=bb bD hb;replace HB:=bq HB hb;(try clear hb);refine hK.out _ _ (hb5 bn).out (fun hHeld=>?_);clear hK K;refine nA 19 ?_;refine oA 7 24 HT_ (fun K hK=>?_);refine gA Tryz.func61 #[.int .i64 dx] ?_;(with_reducible refine (fw.calls k dx t171 _ qb.out).mono ?_);rintro e DJ ⟨rfl,hb⟩;refine ⟨_,rfl,?_⟩;replace dB:=am (Kd.dK (rs dB) hb);replace bn:=bb bn hb;replace bD:=bb bD hb;replace HB:=bq HB hb;(try clear hb);refine hK.out _ _ (hb5 bn).out (fun hHeld=>?_);clear hK K;refine nA 24 ?_;refine oA 8 25 HT_ (fun K hK=>?_);refine Kd.yh Kd.string _ 9 ?hg (N:=25) ?hd (xs:=([vI,dh,t171]:List ByteArray)) (inner:=[.string vI,.string dh,.string t171]) (ok:=fun _=>True) (okp:=fun _=>True) ?hr ?hp (fun _ hk=>hk) trivial (Below.refl _ _) (Nat.le_refl _) (by simp) ?_;(case hd=>rfl);(case hg=>rfl);(case hr=>first|(go_simp;done)|(go_simp;rfl));(case hp=>exact (aQ.one (show Kd.M Kd.string _ _ _ vI [.string vI] from rfl) (aQ.one (show Kd.M Kd.string _ _ _ dh [.string dh] from rfl) (aQ.one (show Kd.M Kd.string _ _ _ t171 [.string t171] from rfl) (aQ.none _ _)))));intro v173 w16 LB hb hg_ hnew_;clear hg_ hnew_
    (first|rw [← UY.out] at LB|(simp only [Int.reduceToNat] at LB;rw [← UY.out] at LB))
    have xg:=am (Kd.gU (Kd.Cq LB (Kd.jX (rs dB))) (bC (bs HB)));replace dB:=am (Kd.Co (rs dB) (Kd.oO LB) hb);replace bn:=bb bn hb;replace bD:=bb bD hb;replace HB:=bq HB hb;clear hb LB;refine hK.out _ _ (hb5 bn).out (fun hHeld=>?_);clear hK K;refine nA 25 ?_;refine bV 9 ?_;refine fq (gp HT_.out (by kernel_rfl)) ?_;have aja:=qf.out;have ajm:=AA.out;have Ie:=jY bn;obtain ⟨zg,yt,H5⟩:=Kd.iy xg.out;subst H5
    try go_wp2_with (first|((go_at_call 63;(with_reducible refine (gI.calls k (⟨#[76,73,78]⟩:ByteArray) _ _ wX t175 adA _ ?aI ?aW vQ.out).mono ?_);(case aI=>exact sd (Kd.dU xg.out).2.2);(case aW=>exact (Kd.dU xg.out).2.1);rintro e Ah ⟨aIA,rfl,ho0,hb⟩);have ae1:=am (Kd.mJ (Kd.ug (Kd.ug ho0 (Kd.jX (rs dB))) (Kd.jX (rs xg))) (bC (bs HB)));replace dB:=am (Kd.dK (rs dB) hb);replace xg:=am (Kd.dK (rs xg) hb);replace bn:=bb bn hb;replace bD:=bb bD hb;replace HB:=bq HB hb;(try clear hb);(try clear ho0);have abf:=gG bD;obtain ⟨aeA,ag5,ar8⟩:=Kd.kI ae1.out;subst ar8))
    refine bodyPost_ret (results_cell_row rfl _ _ ky 62 #[.string t175,.slice aeA adA.length ag5] (0,0) _ rfl (kp bD) Tryz.underlying62 rfl (by kernel_rfl)) rfl ?_
    exact ⟨_,ff,by (with_reducible repeat (first|apply Kd.fD|apply Kd.fE|apply Kd.dV));exact Kd.fU (Kd.iT (p:=⟨ky,1,none⟩) (Kd.iT (p:=⟨ky,0,none⟩) (Kd.uQ ae1.out bD.out (by decide)) (fun _ hk=>hk.2) (.string t175)) (fun _ hk=>hk.2) (.slice aeA adA.length ag5)) (fun _ hk=>trivial),bs HB⟩
   ·intro c11 xE Cv H;replace H:=bo H;obtain ⟨BA,Uk,H⟩:=H
    revert H;refine jE ?_
    intro c25 H;have aop:=am c25;clear c25;obtain ⟨alP,ab3⟩:∃ y_:List ByteArray,y_=(wX++[BA]):=⟨_,rfl⟩
    replace H:((gI.f k (⟨#[76,73,78]⟩:ByteArray) alP).bind fun zw=>(some (zw.1,zw.2)))=some (r1,r2):=ye ab3 H
    have ao2:=am ab3;clear ab3;replace H:=bo H;obtain ⟨⟨t183,adB⟩,YK,H⟩:=H;(try dsimp only at H);replace H:=wL H;obtain ⟨rfl,rfl⟩:=H
    try go_wp2
    replace dB:=am (Kd.dY dB.out);replace bn:=am (bg bn.out);replace bD:=am (bg bD.out);replace HB:=am (cO HB.out);refine il 10 (hb5 bn) (fun hHeld=>?_);refine gq eF.XY eF.Vj (fun HT_ HW_=>?_)
    generalize w6.drew=BN at dB bn bD HB hHeld ⊢
    refine bV 0 ?_;refine bV 3 ?_;refine bV 5 ?_;refine ta 1 ?_;refine ta 4 ?_;refine ta 6 ?_;refine oA 2 19 HT_ (fun K hK=>?_);refine gA Tryz.func61 #[.int .i64 aM] ?_;(with_reducible refine (fw.calls k aM vI _ A9.out).mono ?_);rintro e JQ ⟨rfl,hb⟩;refine ⟨_,rfl,?_⟩;replace dB:=am (Kd.dK (rs dB) hb);replace bn:=bb bn hb;replace bD:=bb bD hb;replace HB:=bq HB hb;(try clear hb);refine hK.out _ _ (hb5 bn).out (fun hHeld=>?_);clear hK K;refine nA 19 ?_;refine oA 7 24 HT_ (fun K hK=>?_);refine gA Tryz.func61 #[.int .i64 dx] ?_;(with_reducible refine (fw.calls k dx t171 _ qb.out).mono ?_);rintro e X7 ⟨rfl,hb⟩;refine ⟨_,rfl,?_⟩;replace dB:=am (Kd.dK (rs dB) hb);replace bn:=bb bn hb;replace bD:=bb bD hb;replace HB:=bq HB hb;(try clear hb);refine hK.out _ _ (hb5 bn).out (fun hHeld=>?_);clear hK K;refine nA 24 ?_;refine oA 8 25 HT_ (fun K hK=>?_);refine Kd.yh Kd.string _ 9 ?hg (N:=25) ?hd (xs:=([vI,dh,t171]:List ByteArray)) (inner:=[.string vI,.string dh,.string t171]) (ok:=fun _=>True) (okp:=fun _=>True) ?hr ?hp (fun _ hk=>hk) trivial (Below.refl _ _) (Nat.le_refl _) (by simp) ?_;(case hd=>rfl);(case hg=>rfl);(case hr=>first|(go_simp;done)|(go_simp;rfl));(case hp=>exact (aQ.one (show Kd.M Kd.string _ _ _ vI [.string vI] from rfl) (aQ.one (show Kd.M Kd.string _ _ _ dh [.string dh] from rfl) (aQ.one (show Kd.M Kd.string _ _ _ t171 [.string t171] from rfl) (aQ.none _ _)))));intro v173 qJ nC hb hg_ hnew_;clear hg_ hnew_
    (first|rw [← UY.out] at nC|(simp only [Int.reduceToNat] at nC;rw [← UY.out] at nC))
    have xg:=am (Kd.gU (Kd.Cq nC (Kd.jX (rs dB))) (bC (bs HB)));replace dB:=am (Kd.Co (rs dB) (Kd.oO nC) hb);replace bn:=bb bn hb;replace bD:=bb bD hb;replace HB:=bq HB hb;clear hb nC;refine hK.out _ _ (hb5 bn).out (fun hHeld=>?_);clear hK K;refine nA 25 ?_;refine bV 9 ?_;refine fq (gp HT_.out (by kernel_rfl)) ?_;have abF:=qf.out;have abJ:=AA.out;have Wp:=jY bn
    try go_wp2_with (first|((go_at_call 61;(with_reducible refine (fw.calls k ek BA _ Uk.out).mono ?_);rintro e Ai ⟨rfl,hb⟩);replace dB:=am (Kd.dK (rs dB) hb);replace xg:=am (Kd.dK (rs xg) hb);replace bn:=bb bn hb;replace bD:=bb bD hb;replace HB:=bq HB hb;(try clear hb))|((with_reducible refine pX (b:=.append) (xs:=#[.tmp 29,.tmp 33]) rfl ?_);at_builtin;refine Kd.rH Kd.string (w0:=w) w.heap.size rfl (.tmp 29) (.tmp 33) 42 9 (.string ⟨#[]⟩) 16 rfl Tryz.underlying42 xQ rfl (by decide) (by omega) v173 wX BA [.string BA] (fun k_=>some k_≠(v168:Value).ownBlock) (fun _=>False) rfl rfl ?aP (fun _ hk=>hk.elim) ?aF ?aO ?aB ?aS ?aL ?_;(case aP=>exact rfl);(case aB=>exact (bs HB));(case aF=>exact (fun k_ hk=>Kd.fresh' (Kd.jX (rs dB)) k_ hk));(case aO=>exact (by (with_reducible repeat (first|apply Kd.jW|apply Kd.jk|apply Kd.dY));exact Kd.dI xg.out (fun _ hk=>hk.2)));(case aS=>exact (bC (bs HB)));(case aL=>have:=aop.out;omega);intro aIB X8 ho hb hg hat;rw [← ao2.out] at ho;replace bn:=am (fG (ks bn) hg (Kd.jy xg.out bn.out (by decide)));replace bD:=am (fG (ks bD) hg (Kd.jy xg.out bD.out (by decide)));replace dB:=am (Kd.afZ (ok:=(fun _=>True)) (rs dB) hg hat);replace HB:=am (hb);have Ko:=am (ho);clear xg;clear ho hb hg hat;obtain ⟨aeE,ag7,V5⟩:=Kd.iy Ko.out;subst V5)|((go_at_call 63;(with_reducible refine (gI.calls k (⟨#[76,73,78]⟩:ByteArray) _ _ alP t183 adB _ ?aI ?aW YK.out).mono ?_);(case aI=>exact sd (Kd.dU Ko.out).2.2);(case aW=>exact (Kd.dU Ko.out).2.1);rintro e Nf ⟨aIC,rfl,ho0,hb⟩);have ae2:=am (Kd.mJ (Kd.ug (Kd.ug ho0 (Kd.jX (rs dB))) (Kd.jX (rs Ko))) (bC (bs HB)));replace dB:=am (Kd.dK (rs dB) hb);replace Ko:=am (Kd.dK (rs Ko) hb);replace bn:=bb bn hb;replace bD:=bb bD hb;replace HB:=bq HB hb;(try clear hb);(try clear ho0);have Ii:=gG bD;obtain ⟨aeF,ag8,ase⟩:=Kd.kI ae2.out;subst ase))
    refine bodyPost_ret (results_cell_row rfl _ _ ky 62 #[.string t183,.slice aeF adB.length ag8] (0,0) _ rfl (kp bD) Tryz.underlying62 rfl (by kernel_rfl)) rfl ?_
    exact ⟨_,ff,by (with_reducible repeat (first|apply Kd.fD|apply Kd.fE|apply Kd.dV));exact Kd.fU (Kd.iT (p:=⟨ky,1,none⟩) (Kd.iT (p:=⟨ky,0,none⟩) (Kd.uQ ae2.out bD.out (by decide)) (fun _ hk=>hk.2) (.string t183)) (fun _ hk=>hk.2) (.slice aeF adB.length ag8)) (fun _ hk=>trivial),bs HB⟩
  ·intro c8 jR uU H
   (first|rw [jR]|(simp only [fu,gy];rw [jR])|rw [uU]|skip)
   revert H;refine bL ?_ ?_
   ·intro zB VN H;replace H:=bo H;obtain ⟨BB,NY,H⟩:=H;obtain ⟨aeh,ab4⟩:∃ y_:List ByteArray,y_=(([dh,BB]:List ByteArray)):=⟨_,rfl⟩
    replace H:((gI.f k (⟨#[73,84,77]⟩:ByteArray) aeh).bind fun Ex=>(some (Ex.1,Ex.2)))=some (r1,r2):=ye ab4 H
    have afy:=am ab4;clear ab4;replace H:=bo H;obtain ⟨⟨adC,adD⟩,YN,H⟩:=H;(try dsimp only at H);replace H:=wL H;obtain ⟨rfl,rfl⟩:=H
    try go_wp2
    replace dB:=am (Kd.dY dB.out);replace bn:=am (bg bn.out);replace bD:=am (bg bD.out);replace HB:=am (cO HB.out);refine il 8 (hb5 bn) (fun hHeld=>?_);refine gq eF.JI eF.G7 (fun HT_ HW_=>?_)
    generalize w6.drew=Ng at dB bn bD HB hHeld ⊢
    refine bV 0 ?_;refine bV 2 ?_;refine ta 1 ?_;refine ta 3 ?_;refine oA 4 43 HT_ (fun K hK=>?_);refine gA Tryz.func61 #[.int .i64 dx] ?_;(with_reducible refine (fw.calls k dx BB _ NY.out).mono ?_);rintro e DL ⟨rfl,hb⟩;refine ⟨_,rfl,?_⟩;replace dB:=am (Kd.dK (rs dB) hb);replace bn:=bb bn hb;replace bD:=bb bD hb;replace HB:=bq HB hb;(try clear hb);refine hK.out _ _ (hb5 bn).out (fun hHeld=>?_);clear hK K;refine nA 43 ?_;refine oA 5 44 HT_ (fun K hK=>?_);refine Kd.yh Kd.string _ 9 ?hg (N:=44) ?hd (xs:=([dh,BB]:List ByteArray)) (inner:=[.string dh,.string BB]) (ok:=fun _=>True) (okp:=fun _=>True) ?hr ?hp (fun _ hk=>hk) trivial (Below.refl _ _) (Nat.le_refl _) (by simp) ?_;(case hd=>rfl);(case hg=>rfl);(case hr=>first|(go_simp;done)|(go_simp;rfl));(case hp=>exact (aQ.one (show Kd.M Kd.string _ _ _ dh [.string dh] from rfl) (aQ.one (show Kd.M Kd.string _ _ _ BB [.string BB] from rfl) (aQ.none _ _))));intro aID w45 LG hb hg_ hnew_;clear hg_ hnew_
    (first|rw [← afy.out] at LG|(simp only [Int.reduceToNat] at LG;rw [← afy.out] at LG))
    have Kq:=am (Kd.gU (Kd.Cq LG (Kd.jX (rs dB))) (bC (bs HB)));replace dB:=am (Kd.Co (rs dB) (Kd.oO LG) hb);replace bn:=bb bn hb;replace bD:=bb bD hb;replace HB:=bq HB hb;clear hb LG;obtain ⟨amw,arq,aho⟩:=Kd.iy Kq.out
    (first|subst aho|(injection aho with dZ iJ d9;have iK:=dZ.symm;have iL:=d9.symm;clear dZ iJ d9;subst iK;subst iL))
    refine hK.out _ _ (hb5 bn).out (fun hHeld=>?_);clear hK K;refine nA 44 ?_;refine oA 6 45 HT_ (fun K hK=>?_);refine gA Tryz.func63 #[.string (⟨#[73,84,77]⟩:ByteArray),.slice amw aeh.length arq] ?_;(with_reducible refine (gI.calls k (⟨#[73,84,77]⟩:ByteArray) _ _ aeh adC adD _ ?aI ?aW YN.out).mono ?_)
    (case aI=>exact sd (Kd.dU Kq.out).2.2)
    (case aW=>exact (Kd.dU Kq.out).2.1)
    rintro e Tx ⟨v193,rfl,ho0,hb⟩;refine ⟨_,rfl,?_⟩;have ae3:=am (Kd.mJ (Kd.ug (Kd.ug ho0 (Kd.jX (rs dB))) (Kd.jX (rs Kq))) (bC (bs HB)));replace dB:=am (Kd.dK (rs dB) hb);replace Kq:=am (Kd.dK (rs Kq) hb);replace bn:=bb bn hb;replace bD:=bb bD hb;replace HB:=bq HB hb;(try clear hb);(try clear ho0);obtain ⟨Uo,VV,PE⟩:=Kd.kI ae3.out
    (first|subst PE|(injection PE with dZ iJ d9;have iK:=dZ.symm;have iL:=d9.symm;clear dZ iJ d9;subst iK;subst iL))
    refine hK.out _ _ (hb5 bn).out (fun hHeld=>?_);clear hK K;refine nA 45 ?_;refine nG (i:=7) (N:=none) #[true,true,true,true,true,true,true,true] rfl rfl (vB HT_.out (by kernel_rfl)) (by decide) (fun K hK=>?_);have aHR:Tx.cell? ⟨ky,0,none⟩=some (.string (⟨#[]⟩:ByteArray)):=(az bD.out 0).trans rfl;have aDq:=aV bD.out 0;have aHh:=qf.out;have aE3:=AA.out;have auv:Tx.cell? ⟨ky,1,none⟩=some (.slice none 0 0):=(az bD.out 1).trans rfl;have ati:=aV bD.out 1;have aur:=qf.out;have att:=AA.out;refine vD (w1:=?_) (by rfl) rfl ?_ ?_
    rotate_left
    ·go_simp
     rfl
    refine hK.out _ _ ⟨((cell_far (p:=⟨ky,_,none⟩) qf.out _).trans (((cell_far (p:=⟨ky,_,none⟩) qf.out _).trans (hHeld.1)))),((cell_far (p:=⟨ky,_,none⟩) qf.out _).trans (((cell_far (p:=⟨ky,_,none⟩) qf.out _).trans (hHeld.2.1)))),((cell_far (p:=⟨ky,_,none⟩) qf.out _).trans (((cell_far (p:=⟨ky,_,none⟩) qf.out _).trans (hHeld.2.2.1)))),((cell_far (p:=⟨ky,_,none⟩) qf.out _).trans (((cell_far (p:=⟨ky,_,none⟩) qf.out _).trans (hHeld.2.2.2.1)))),((cell_far (p:=⟨ky,_,none⟩) qf.out _).trans (((cell_far (p:=⟨ky,_,none⟩) qf.out _).trans (hHeld.2.2.2.2))))⟩ (fun hHeld=>?_);clear hK K;refine fq (gp HT_.out (by kernel_rfl)) ?_
    try go_wp2
    refine bodyPost_ret (results_cell_row rfl _ _ ky 62 #[.string adC,.slice Uo adD.length VV] (0,0) _ rfl (kp bD) Tryz.underlying62 rfl (by kernel_rfl)) rfl ?_
    exact ⟨_,ff,by (with_reducible repeat (first|apply Kd.fD|apply Kd.fE|apply Kd.dV));exact Kd.fU (Kd.iT (p:=⟨ky,1,none⟩) (Kd.iT (p:=⟨ky,0,none⟩) (Kd.uQ ae3.out bD.out (by decide)) (fun _ hk=>hk.2) (.string adC)) (fun _ hk=>hk.2) (.slice Uo adD.length VV)) (fun _ hk=>trivial),bs HB⟩
   ·intro c40 zB VN H
    revert H;refine bL ?_ ?_
    ·intro aaP aaQ H;replace H:=bo H;obtain ⟨vJ,A53,H⟩:=H;replace H:=bo H;obtain ⟨t196,A54,H⟩:=H;obtain ⟨wY,ab5⟩:∃ y_:List ByteArray,y_=(([vJ,t196]:List ByteArray)):=⟨_,rfl⟩
     replace H:(if ek=0 then ((gI.f k (⟨#[65,67,75]⟩:ByteArray) wY).bind fun Ey=>(some (Ey.1,Ey.2))) else ((fw.f k ek).bind fun BC=>(if wY.length<8796093022208 then ((gI.f k (⟨#[65,67,75]⟩:ByteArray) (wY++[BC])).bind fun zx=>(some (zx.1,zx.2))) else (none))))=some (r1,r2):=ye ab5 H
     have UZ:=am ab5;clear ab5
     revert H;refine bL ?_ ?_
     ·intro aqX aqY H;replace H:=bo H;obtain ⟨⟨adE,t201⟩,A56,H⟩:=H;(try dsimp only at H);replace H:=wL H;obtain ⟨rfl,rfl⟩:=H
      try go_wp2
      replace dB:=am (Kd.dY dB.out);replace bn:=am (bg bn.out);replace bD:=am (bg bD.out);replace HB:=am (cO HB.out);refine il 8 (hb5 bn) (fun hHeld=>?_);refine gq eF.wP eF.vY (fun HT_ HW_=>?_)
      generalize w6.drew=Nk at dB bn bD HB hHeld ⊢
      refine bV 0 ?_;refine bV 3 ?_;refine ta 1 ?_;refine ta 4 ?_;refine oA 2 50 HT_ (fun K hK=>?_);refine gA Tryz.func61 #[.int .i64 aM] ?_;(with_reducible refine (fw.calls k aM vJ _ A53.out).mono ?_);rintro e w58 ⟨rfl,hb⟩;refine ⟨_,rfl,?_⟩;replace dB:=am (Kd.dK (rs dB) hb);replace bn:=bb bn hb;replace bD:=bb bD hb;replace HB:=bq HB hb;(try clear hb);refine hK.out _ _ (hb5 bn).out (fun hHeld=>?_);clear hK K;refine nA 50 ?_;refine oA 5 53 HT_ (fun K hK=>?_);refine gA Tryz.func61 #[.int .i64 dx] ?_;(with_reducible refine (fw.calls k dx t196 _ A54.out).mono ?_);rintro e w59 ⟨rfl,hb⟩;refine ⟨_,rfl,?_⟩;replace dB:=am (Kd.dK (rs dB) hb);replace bn:=bb bn hb;replace bD:=bb bD hb;replace HB:=bq HB hb;(try clear hb);refine hK.out _ _ (hb5 bn).out (fun hHeld=>?_);clear hK K;refine nA 53 ?_;refine oA 6 54 HT_ (fun K hK=>?_);refine Kd.yh Kd.string _ 9 ?hg (N:=54) ?hd (xs:=([vJ,t196]:List ByteArray)) (inner:=[.string vJ,.string t196]) (ok:=fun _=>True) (okp:=fun _=>True) ?hr ?hp (fun _ hk=>hk) trivial (Below.refl _ _) (Nat.le_refl _) (by simp) ?_;(case hd=>rfl);(case hg=>rfl);(case hr=>first|(go_simp;done)|(go_simp;rfl));(case hp=>exact (aQ.one (show Kd.M Kd.string _ _ _ vJ [.string vJ] from rfl) (aQ.one (show Kd.M Kd.string _ _ _ t196 [.string t196] from rfl) (aQ.none _ _))));intro v198 w60 LH hb hg_ hnew_;clear hg_ hnew_
      (first|rw [← UZ.out] at LH|(simp only [Int.reduceToNat] at LH;rw [← UZ.out] at LH))
      have xh:=am (Kd.gU (Kd.Cq LH (Kd.jX (rs dB))) (bC (bs HB)));replace dB:=am (Kd.Co (rs dB) (Kd.oO LH) hb);replace bn:=bb bn hb;replace bD:=bb bD hb;replace HB:=bq HB hb;clear hb LH;refine hK.out _ _ (hb5 bn).out (fun hHeld=>?_);clear hK K;refine nA 54 ?_;refine bV 7 ?_;refine fq (gp HT_.out (by kernel_rfl)) ?_;have ajj:=qf.out;have ajv:=AA.out;have asZ:=jY bn;obtain ⟨azV,aBy,asg⟩:=Kd.iy xh.out;subst asg
      try go_wp2_with (first|((go_at_call 63;(with_reducible refine (gI.calls k (⟨#[65,67,75]⟩:ByteArray) _ _ wY adE t201 _ ?aI ?aW A56.out).mono ?_);(case aI=>exact sd (Kd.dU xh.out).2.2);(case aW=>exact (Kd.dU xh.out).2.1);rintro e w65 ⟨aIE,rfl,ho0,hb⟩);have ae4:=am (Kd.mJ (Kd.ug (Kd.ug ho0 (Kd.jX (rs dB))) (Kd.jX (rs xh))) (bC (bs HB)));replace dB:=am (Kd.dK (rs dB) hb);replace xh:=am (Kd.dK (rs xh) hb);replace bn:=bb bn hb;replace bD:=bb bD hb;replace HB:=bq HB hb;(try clear hb);(try clear ho0);have aCG:=gG bD;obtain ⟨aeI,ahb,ash⟩:=Kd.kI ae4.out;subst ash))
      refine bodyPost_ret (results_cell_row rfl _ _ ky 62 #[.string adE,.slice aeI t201.length ahb] (0,0) _ rfl (kp bD) Tryz.underlying62 rfl (by kernel_rfl)) rfl ?_
      exact ⟨_,ff,by (with_reducible repeat (first|apply Kd.fD|apply Kd.fE|apply Kd.dV));exact Kd.fU (Kd.iT (p:=⟨ky,1,none⟩) (Kd.iT (p:=⟨ky,0,none⟩) (Kd.uQ ae4.out bD.out (by decide)) (fun _ hk=>hk.2) (.string adE)) (fun _ hk=>hk.2) (.slice aeI t201.length ahb)) (fun _ hk=>trivial),bs HB⟩
     ·intro c55 aqX aqY H;replace H:=bo H;obtain ⟨BC,A68,H⟩:=H
      revert H;refine jE ?_
      intro c69 H;have aoz:=am c69;clear c69;obtain ⟨alQ,ab6⟩:∃ y_:List ByteArray,y_=(wY++[BC]):=⟨_,rfl⟩
      replace H:((gI.f k (⟨#[65,67,75]⟩:ByteArray) alQ).bind fun zx=>(some (zx.1,zx.2)))=some (r1,r2):=ye ab6 H
      have ao3:=am ab6;clear ab6;replace H:=bo H;obtain ⟨⟨t208,adF⟩,A70,H⟩:=H;(try dsimp only at H);replace H:=wL H;obtain ⟨rfl,rfl⟩:=H
      try go_wp2
      replace dB:=am (Kd.dY dB.out);replace bn:=am (bg bn.out);replace bD:=am (bg bD.out);replace HB:=am (cO HB.out);refine il 8 (hb5 bn) (fun hHeld=>?_);refine gq eF.wP eF.vY (fun HT_ HW_=>?_)
      generalize w6.drew=Nl at dB bn bD HB hHeld ⊢
      refine bV 0 ?_;refine bV 3 ?_;refine ta 1 ?_;refine ta 4 ?_;refine oA 2 50 HT_ (fun K hK=>?_);refine gA Tryz.func61 #[.int .i64 aM] ?_;(with_reducible refine (fw.calls k aM vJ _ A53.out).mono ?_);rintro e w72 ⟨rfl,hb⟩;refine ⟨_,rfl,?_⟩;replace dB:=am (Kd.dK (rs dB) hb);replace bn:=bb bn hb;replace bD:=bb bD hb;replace HB:=bq HB hb;(try clear hb);refine hK.out _ _ (hb5 bn).out (fun hHeld=>?_);clear hK K;refine nA 50 ?_;refine oA 5 53 HT_ (fun K hK=>?_);refine gA Tryz.func61 #[.int .i64 dx] ?_;(with_reducible refine (fw.calls k dx t196 _ A54.out).mono ?_);rintro e w73 ⟨rfl,hb⟩;refine ⟨_,rfl,?_⟩;replace dB:=am (Kd.dK (rs dB) hb);replace bn:=bb bn hb;replace bD:=bb bD hb;replace HB:=bq HB hb;(try clear hb);refine hK.out _ _ (hb5 bn).out (fun hHeld=>?_);clear hK K;refine nA 53 ?_;refine oA 6 54 HT_ (fun K hK=>?_);refine Kd.yh Kd.string _ 9 ?hg (N:=54) ?hd (xs:=([vJ,t196]:List ByteArray)) (inner:=[.string vJ,.string t196]) (ok:=fun _=>True) (okp:=fun _=>True) ?hr ?hp (fun _ hk=>hk) trivial (Below.refl _ _) (Nat.le_refl _) (by simp) ?_;(case hd=>rfl);(case hg=>rfl);(case hr=>first|(go_simp;done)|(go_simp;rfl));(case hp=>exact (aQ.one (show Kd.M Kd.string _ _ _ vJ [.string vJ] from rfl) (aQ.one (show Kd.M Kd.string _ _ _ t196 [.string t196] from rfl) (aQ.none _ _))));intro v198 w74 LJ hb hg_ hnew_;clear hg_ hnew_
      (first|rw [← UZ.out] at LJ|(simp only [Int.reduceToNat] at LJ;rw [← UZ.out] at LJ))
      have xh:=am (Kd.gU (Kd.Cq LJ (Kd.jX (rs dB))) (bC (bs HB)));replace dB:=am (Kd.Co (rs dB) (Kd.oO LJ) hb);replace bn:=bb bn hb;replace bD:=bb bD hb;replace HB:=bq HB hb;clear hb LJ;refine hK.out _ _ (hb5 bn).out (fun hHeld=>?_);clear hK K;refine nA 54 ?_;refine bV 7 ?_;refine fq (gp HT_.out (by kernel_rfl)) ?_;have atS:=qf.out;have aun:=AA.out;have as4:=jY bn
      try go_wp2_with (first|((go_at_call 61;(with_reducible refine (fw.calls k ek BC _ A68.out).mono ?_);rintro e w78 ⟨rfl,hb⟩);replace dB:=am (Kd.dK (rs dB) hb);replace xh:=am (Kd.dK (rs xh) hb);replace bn:=bb bn hb;replace bD:=bb bD hb;replace HB:=bq HB hb;(try clear hb))|((with_reducible refine pX (b:=.append) (xs:=#[.tmp 58,.tmp 62]) rfl ?_);at_builtin;refine Kd.rH Kd.string (w0:=w) w.heap.size rfl (.tmp 58) (.tmp 62) 42 9 (.string ⟨#[]⟩) 16 rfl Tryz.underlying42 xQ rfl (by decide) (by omega) v198 wY BC [.string BC] (fun k_=>some k_≠(v168:Value).ownBlock) (fun _=>False) rfl rfl ?aP (fun _ hk=>hk.elim) ?aF ?aO ?aB ?aS ?aL ?_;(case aP=>exact rfl);(case aB=>exact (bs HB));(case aF=>exact (fun k_ hk=>Kd.fresh' (Kd.jX (rs dB)) k_ hk));(case aO=>exact (by (with_reducible repeat (first|apply Kd.jW|apply Kd.jk|apply Kd.dY));exact Kd.dI xh.out (fun _ hk=>hk.2)));(case aS=>exact (bC (bs HB)));(case aL=>have:=aoz.out;omega);intro v206 w79 ho hb hg hat;rw [← ao3.out] at ho;replace bn:=am (fG (ks bn) hg (Kd.jy xh.out bn.out (by decide)));replace bD:=am (fG (ks bD) hg (Kd.jy xh.out bD.out (by decide)));replace dB:=am (Kd.afZ (ok:=(fun _=>True)) (rs dB) hg hat);replace HB:=am (hb);have Kr:=am (ho);clear xh;clear ho hb hg hat;obtain ⟨azW,aBz,asl⟩:=Kd.iy Kr.out;subst asl)|((go_at_call 63;(with_reducible refine (gI.calls k (⟨#[65,67,75]⟩:ByteArray) _ _ alQ t208 adF _ ?aI ?aW A70.out).mono ?_);(case aI=>exact sd (Kd.dU Kr.out).2.2);(case aW=>exact (Kd.dU Kr.out).2.1);rintro e w81 ⟨v210,rfl,ho0,hb⟩);have ae5:=am (Kd.mJ (Kd.ug (Kd.ug ho0 (Kd.jX (rs dB))) (Kd.jX (rs Kr))) (bC (bs HB)));replace dB:=am (Kd.dK (rs dB) hb);replace Kr:=am (Kd.dK (rs Kr) hb);replace bn:=bb bn hb;replace bD:=bb bD hb;replace HB:=bq HB hb;(try clear hb);(try clear ho0);have as5:=gG bD;obtain ⟨aeJ,ahc,asn⟩:=Kd.kI ae5.out;subst asn))
      refine bodyPost_ret (results_cell_row rfl _ _ ky 62 #[.string t208,.slice aeJ adF.length ahc] (0,0) _ rfl (kp bD) Tryz.underlying62 rfl (by kernel_rfl)) rfl ?_
      exact ⟨_,ff,by (with_reducible repeat (first|apply Kd.fD|apply Kd.fE|apply Kd.dV));exact Kd.fU (Kd.iT (p:=⟨ky,1,none⟩) (Kd.iT (p:=⟨ky,0,none⟩) (Kd.uQ ae5.out bD.out (by decide)) (fun _ hk=>hk.2) (.string t208)) (fun _ hk=>hk.2) (.slice aeJ adF.length ahc)) (fun _ hk=>trivial),bs HB⟩
    ·intro c52 aaP aaQ H
     revert H;refine bL ?_ ?_
     ·intro Hz aq0 H;replace H:=bo H;obtain ⟨t212,YS,H⟩:=H;obtain ⟨alR,ab7⟩:∃ y_:List ByteArray,y_=(([dh,t212]:List ByteArray)):=⟨_,rfl⟩
      replace H:(eF.j0 k a0 alR aM dh dx ek oQ)=some (r1,r2):=ye ab7 H
      have afz:=am ab7;clear ab7;have H':=am H;clear H
      try go_wp2
      replace dB:=am (Kd.dY dB.out);replace bn:=am (bg bn.out);replace bD:=am (bg bD.out);replace HB:=am (cO HB.out);refine il 7 (hb5 bn) (fun hHeld=>?_)
      generalize w6.drew=w86 at dB bn bD HB hHeld ⊢
      refine pu 0 68 #[true,false,false,false,false,false,false] ?_
      refine pu 2 70 #[true,false,true,false,false,false,false] ?_
      refine tu 1 69 #[true,true,true,false,false,false,false] ?_
      refine tu 3 71 #[true,true,true,true,false,false,false] ?_
      refine nG (i:=4) (N:=some 72) #[true,true,true,true,true,false,false] rfl rfl (by kernel_rfl) (by decide) (fun K hK=>?_);refine gA Tryz.func61 #[.int .i64 dx] ?_;(with_reducible refine (fw.calls k dx t212 _ YS.out).mono ?_);rintro e w87 ⟨rfl,hb⟩;refine ⟨_,rfl,?_⟩;replace dB:=am (Kd.dK (rs dB) hb);replace bn:=bb bn hb;replace bD:=bb bD hb;replace HB:=bq HB hb;(try clear hb);refine hK.out _ _ (hb5 bn).out (fun hHeld=>?_);clear hK K;refine nA 72 ?_;refine nG (i:=5) (N:=some 73) #[true,true,true,true,true,true,false] rfl rfl (by kernel_rfl) (by decide) (fun K hK=>?_);refine Kd.yh Kd.string _ 9 ?hg (N:=73) ?hd (xs:=([dh,t212]:List ByteArray)) (inner:=[.string dh,.string t212]) (ok:=fun _=>True) (okp:=fun _=>True) ?hr ?hp (fun _ hk=>hk) trivial (Below.refl _ _) (Nat.le_refl _) (by simp) ?_;(case hd=>rfl);(case hg=>rfl);(case hr=>first|(go_simp;done)|(go_simp;rfl));(case hp=>exact (aQ.one (show Kd.M Kd.string _ _ _ dh [.string dh] from rfl) (aQ.one (show Kd.M Kd.string _ _ _ t212 [.string t212] from rfl) (aQ.none _ _))));intro aIF w88 LK hb hg_ hnew_;clear hg_ hnew_
      (first|rw [← afz.out] at LK|(simp only [Int.reduceToNat] at LK;rw [← afz.out] at LK))
      have anj:=am (Kd.gU (Kd.Cq LK (Kd.jX (rs dB))) (bC (bs HB)));replace dB:=am (Kd.Co (rs dB) (Kd.oO LK) hb);replace bn:=bb bn hb;replace bD:=bb bD hb;replace HB:=bq HB hb;clear hb LK;refine hK.out _ _ (hb5 bn).out (fun hHeld=>?_);clear hK K;refine nA 73 ?_;refine pu 6 5 #[true,true,true,true,true,true,true] ?_
      refine fq (by kernel_rfl) ?_
      try go_wp2
      go_meet
      case rel=>exact ⟨_,(alR),((⟨#[]⟩:ByteArray)),H',⟨fl⟩,⟨by (with_reducible repeat (first|apply Kd.jW|apply Kd.jk|apply Kd.dY));exact Kd.dI anj.out (fun _ hk=>trivial)⟩,⟨ks bn⟩,⟨ks bD⟩,⟨bs HB⟩⟩
     ·intro Hy Hz aq0 H;replace H:=bo H;obtain ⟨BD,A90,H⟩:=H;replace H:=bo H;obtain ⟨BF,A91,H⟩:=H;obtain ⟨alS,ab8⟩:∃ y_:List ByteArray,y_=(([BD,BF]:List ByteArray)):=⟨_,rfl⟩
      replace H:(eF.j0 k a0 alS aM dh dx ek oQ)=some (r1,r2):=ye ab8 H
      have afA:=am ab8;clear ab8;have H':=am H;clear H
      try go_wp2
      replace dB:=am (Kd.dY dB.out);replace bn:=am (bg bn.out);replace bD:=am (bg bD.out);replace HB:=am (cO HB.out);refine il 8 (hb5 bn) (fun hHeld=>?_);refine gq eF.Tv eF.OZ (fun HT_ HW_=>?_)
      generalize w6.drew=w92 at dB bn bD HB hHeld ⊢
      refine bV 0 ?_;refine bV 3 ?_;refine ta 1 ?_;refine ta 4 ?_;refine oA 2 10 HT_ (fun K hK=>?_);refine gA Tryz.func61 #[.int .i64 aM] ?_;(with_reducible refine (fw.calls k aM BD _ A90.out).mono ?_);rintro e w93 ⟨rfl,hb⟩;refine ⟨_,rfl,?_⟩;replace dB:=am (Kd.dK (rs dB) hb);replace bn:=bb bn hb;replace bD:=bb bD hb;replace HB:=bq HB hb;(try clear hb);refine hK.out _ _ (hb5 bn).out (fun hHeld=>?_);clear hK K;refine nA 10 ?_;refine oA 5 13 HT_ (fun K hK=>?_);refine gA Tryz.func61 #[.int .i64 dx] ?_;(with_reducible refine (fw.calls k dx BF _ A91.out).mono ?_);rintro e w94 ⟨rfl,hb⟩;refine ⟨_,rfl,?_⟩;replace dB:=am (Kd.dK (rs dB) hb);replace bn:=bb bn hb;replace bD:=bb bD hb;replace HB:=bq HB hb;(try clear hb);refine hK.out _ _ (hb5 bn).out (fun hHeld=>?_);clear hK K;refine nA 13 ?_;refine oA 6 14 HT_ (fun K hK=>?_);refine Kd.yh Kd.string _ 9 ?hg (N:=14) ?hd (xs:=([BD,BF]:List ByteArray)) (inner:=[.string BD,.string BF]) (ok:=fun _=>True) (okp:=fun _=>True) ?hr ?hp (fun _ hk=>hk) trivial (Below.refl _ _) (Nat.le_refl _) (by simp) ?_;(case hd=>rfl);(case hg=>rfl);(case hr=>first|(go_simp;done)|(go_simp;rfl));(case hp=>exact (aQ.one (show Kd.M Kd.string _ _ _ BD [.string BD] from rfl) (aQ.one (show Kd.M Kd.string _ _ _ BF [.string BF] from rfl) (aQ.none _ _))));intro aIG w95 LM hb hg_ hnew_;clear hg_ hnew_
      (first|rw [← afA.out] at LM|(simp only [Int.reduceToNat] at LM;rw [← afA.out] at LM))
      have ank:=am (Kd.gU (Kd.Cq LM (Kd.jX (rs dB))) (bC (bs HB)));replace dB:=am (Kd.Co (rs dB) (Kd.oO LM) hb);replace bn:=bb bn hb;replace bD:=bb bD hb;replace HB:=bq HB hb;clear hb LM;refine hK.out _ _ (hb5 bn).out (fun hHeld=>?_);clear hK K;refine nA 14 ?_;refine bV 7 ?_;refine fq (gp HT_.out (by kernel_rfl)) ?_
      try go_wp2
      go_meet
      case rel=>exact ⟨_,(alS),((⟨#[]⟩:ByteArray)),H',⟨fl⟩,⟨by (with_reducible repeat (first|apply Kd.jW|apply Kd.jk|apply Kd.dY));exact Kd.dI ank.out (fun _ hk=>trivial)⟩,⟨ks bn⟩,⟨ks bD⟩,⟨bs HB⟩⟩
 case rest =>
  clear uK
  obtain ⟨kq,eG,adR,HA,HJ2,bG,bn,bD,HB⟩:=hcut
  cases kq with
  | zero=>exact absurd HA.out (by simp [eF.j0])
  | succ Dq =>
   have H:=HA.out;clear HA;simp only [eF.j0] at H;have Zq:=am H;clear H;have aF2:=qf.out;have aGN:=AA.out;have as6:=jY bn
   go_upto_if 76 with (fail)
   go_cut [5] (fun v5 wc=>∃ (kq:Nat) (TQ:List ByteArray),af (eF.j1 kq a0 TQ=some (r1,r2))∧af (kq≤Dq)∧af (Kd.R Kd.string 9 wc w.heap.size (fun _=>True) v5 TQ)∧af (wc.heap[ahB]? = some (.cells #[.int .i64 aM,.string dh,.int .i64 dx,.int .i64 ek,.string oQ] 95 (0,0)))∧af (wc.heap[ky]? = some (.cells #[.string adR,(.slice none 0 0)] 62 (0,0)))∧af (Below w.heap.size w wc))
   case first =>
    have H:=Zq.out;clear Zq
    revert H;refine Mx ?_ ?_
    ·intro aaA aaB aaC H
     (first|rw [aaA]|simp only [aaC,Bool.not_true,Bool.not_false]|rw [aaB]|skip)
     have H':=am H;clear H
     go_wp2
     go_meet
     case rel=>exact ⟨_,(eG),H',⟨by have:=HJ2.out;first|omega|exact Nat.le_refl _⟩,⟨rz bG.out⟩,⟨ks bn⟩,⟨ks bD⟩,⟨bs HB⟩⟩
    ·intro aAU aaA aaB aaC H
     (first|rw [aaA]|simp only [aaC,Bool.not_true,Bool.not_false]|rw [aaB]|skip)
     revert H;refine jE ?_
     intro agL H;have aoi:=am agL;clear agL;obtain ⟨alT,ab9⟩:∃ y_:List ByteArray,y_=(eG++[oQ]):=⟨_,rfl⟩
     replace H:(eF.j1 Dq a0 alT)=some (r1,r2):=ye ab9 H
     have ao4:=am ab9;clear ab9;have H':=am H;clear H;have aFl:=qf.out;have aF6:=AA.out;have aBJ:=jY bn
     go_wp2_with (first|((with_reducible refine pX (b:=.append) (xs:=#[.tmp 77,.tmp 80]) rfl ?_);at_builtin;refine Kd.rH Kd.string (w0:=w) w.heap.size rfl (.tmp 77) (.tmp 80) 42 9 (.string ⟨#[]⟩) 16 rfl Tryz.underlying42 xQ rfl (by decide) (by omega) u5 eG oQ [.string oQ] (fun _=>True) (fun _=>False) rfl rfl ?aP (fun _ hk=>hk.elim) ?aF ?aO ?aB ?aS ?aL ?_;(case aP=>exact rfl);(case aB=>exact (bs HB));(case aF=>exact (fun _ _=>trivial));(case aO=>exact (rs bG));(case aS=>exact (bC (bs HB)));(case aL=>have:=aoi.out;omega);intro v222 aJj ho hb hg hat;rw [← ao4.out] at ho;replace bn:=am (fG (ks bn) hg (Kd.jy bG.out bn.out (by decide)));replace bD:=am (fG (ks bD) hg (Kd.jy bG.out bD.out (by decide)));replace HB:=am (hb);have anl:=am (ho);clear bG;clear ho hb hg hat))
     go_meet
     case rel=>exact ⟨_,(alT),H',⟨by have:=HJ2.out;first|omega|exact Nat.le_refl _⟩,⟨rz anl.out⟩,⟨ks bn⟩,⟨ks bD⟩,⟨bs HB⟩⟩
   case rest =>
    clear Zq
    try clear as6
    obtain ⟨kq,TQ,HA,aAD,bG,bn,bD,HB⟩:=hcut
    cases kq with
    | zero=>exact absurd HA.out (by simp [eF.j1])
    | succ akv =>
     have H:=HA.out;clear HA;simp only [eF.j1] at H
     revert H;refine bL ?_ ?_
     ·intro agM aqt H;replace H:=bo H;obtain ⟨⟨adG,adH⟩,al5,H⟩:=H;(try dsimp only at H);replace H:=wL H;obtain ⟨rfl,rfl⟩:=H;obtain ⟨azS,aBv,arY⟩:=Kd.iy bG.out;subst arY
      go_wp2_with (first|((go_at_call 63;(with_reducible refine (gI.calls akv (⟨#[73,84,77]⟩:ByteArray) _ _ TQ adG adH _ ?aI ?aW al5.out).mono ?_);(case aI=>exact sd (Kd.dU bG.out).2.2);(case aW=>exact (Kd.dU bG.out).2.1);rintro e aJk ⟨v226,rfl,ho0,hb⟩);have ae6:=am (Kd.mJ (Kd.ug ho0 (Kd.jX (rs bG))) (bC (bs HB)));replace bG:=am (Kd.dK (rs bG) hb);replace bn:=bb bn hb;replace bD:=bb bD hb;replace HB:=bq HB hb;(try clear hb);(try clear ho0);have aFm:=AA.out;have aF7:=qf.out;have aBO:=gG bD;obtain ⟨aex,ag2,arZ⟩:=Kd.kI ae6.out;subst arZ))
      refine bodyPost_ret (results_cell_row rfl _ _ ky 62 #[.string adG,.slice aex adH.length ag2] (0,0) _ rfl (kp bD) Tryz.underlying62 rfl (by kernel_rfl)) rfl ?_
      exact ⟨_,ff,by (with_reducible repeat (first|apply Kd.fD|apply Kd.fE|apply Kd.dV));exact Kd.fU (Kd.iT (p:=⟨ky,1,none⟩) (Kd.iT (p:=⟨ky,0,none⟩) (Kd.uQ ae6.out bD.out (by decide)) (fun _ hk=>hk.2) (.string adG)) (fun _ hk=>hk.2) (.slice aex adH.length ag2)) (fun _ hk=>trivial),bs HB⟩
     ·intro c105 agM aqt H;replace H:=bo H;obtain ⟨⟨t228,t229⟩,al6,H⟩:=H;(try dsimp only at H);replace H:=wL H;obtain ⟨rfl,rfl⟩:=H;obtain ⟨azT,aBw,ar0⟩:=Kd.iy bG.out;subst ar0
      go_wp2_with (first|((go_at_call 63;(with_reducible refine (gI.calls akv (⟨#[76,73,78]⟩:ByteArray) _ _ TQ t228 t229 _ ?aI ?aW al6.out).mono ?_);(case aI=>exact sd (Kd.dU bG.out).2.2);(case aW=>exact (Kd.dU bG.out).2.1);rintro e aJo ⟨aIH,rfl,ho0,hb⟩);have ae7:=am (Kd.mJ (Kd.ug ho0 (Kd.jX (rs bG))) (bC (bs HB)));replace bG:=am (Kd.dK (rs bG) hb);replace bn:=bb bn hb;replace bD:=bb bD hb;replace HB:=bq HB hb;(try clear hb);(try clear ho0);have atv:=AA.out;have atV:=qf.out;have aBP:=gG bD;obtain ⟨aey,ag3,ar1⟩:=Kd.kI ae7.out;subst ar1))
      refine bodyPost_ret (results_cell_row rfl _ _ ky 62 #[.string t228,.slice aey t229.length ag3] (0,0) _ rfl (kp bD) Tryz.underlying62 rfl (by kernel_rfl)) rfl ?_
      exact ⟨_,ff,by (with_reducible repeat (first|apply Kd.fD|apply Kd.fE|apply Kd.dV));exact Kd.fU (Kd.iT (p:=⟨ky,1,none⟩) (Kd.iT (p:=⟨ky,0,none⟩) (Kd.uQ ae7.out bD.out (by decide)) (fun _ hk=>hk.2) (.string t228)) (fun _ hk=>hk.2) (.slice aey t229.length ag3)) (fun _ hk=>trivial),bs HB⟩
end Go.Proofs.YtapilmimgiaglaaGreatDoor.QA
