-- Merged by a program of this session (wip/tool/pack.py) out of its own texts for this claim.
import Derived.Test.YtapilmimgiaglaaGreatDoorKFnExactParcelRight10
set_option maxHeartbeats 8000000
set_option maxRecDepth 100000
set_option linter.unusedSimpArgs false
set_option linter.unusedVariables false
namespace Go.Proofs.YtapilmimgiaglaaGreatDoor.QA
open Go.RowKit Go.Proofs.bB.fA Go.Proofs.bB.PrintLast Go.Proofs.bB.PrintMore
attribute [local go_sem] o6 pg o9 pE o8 pz o7 pq   -- for this text's walks alone
def dm.OO:Bool × List (List Nat × List Nat):=(true,[([],[]),([],[]),([1],[1]),([2],[2]),([0,3],[0,3]),([4],[4]),([5],[5]),([5],[5]),([7,5],[5,7]),([6,8,5],[5,6,8]),([5,9],[5,9]),([10,5],[10]),([11],[11]),([11],[11]),([12,13,11],[11,12,13]),([14,11],[11,14]),([11],[11]),([16,11],[11,16]),([11],[11]),([17,18,11],[11,17,18]),([19,11],[11,19]),([15,20,11,11],[11,15,20]),([21,11],[11,21]),([11,22],[11,22])])
def dm.YT:List Nat:=[0,0,2,6,15,31,63,63,191,511,1023,2047,4095,4095,16383,32767,4095,69631,4095,462847,987135,2097151,4194303,8388607]
theorem dm.JJ:fJ .any (opsOf Tryz.f106 21)=dm.OO:=by kernel_rfl
theorem dm.G8:iY dm.OO.2 dm.YT=true:=by kernel_rfl
theorem dm.calls (k:Nat) (a0:ByteArray) (aM:ByteArray) (iV:Option Addr) (iU:Nat) (aR:List (dw)) (r:Int) (w:World) (zQ:Kd.C lG w iV aR.length aR) (zJ:aR.length≤iU) (H:dm.f k a0 aM aR=some r) :
  Calls Tryz.prog 106 #[.string a0,.agg #[.string aM,.slice iV aR.length iU]] w fun e w'=>e=.returned (.int .i64 r)∧Below w.heap.size w w':=by
 have qR:=Tryz.underlying62;have Fb:=Tryz.underlying97;have lX:=am zQ;have rE:=am zJ;clear zQ zJ;have HB:=am (Below.refl w.heap.size w);unfold dm.f at H
 revert H;refine gz ?_ ?_
 ·intro c3 H;have bN:decide (20000<(a0.size:Int))=true:=decide_eq_true c3;have fo:decide (20000<a0.size)=true:=decide_eq_true (by omega);clear c3;obtain rfl:=si H
  go_in
  go_wp2_with (first|((with_reducible refine aN (N:=3) rfl ?_);(try (refine iM (by rfl) ?_;dsimp only));refine bz 3 (cs:=#[.string aM,.slice iV aR.length iU]) (t:=62) HB ?_;clear HB;intro uW hg w4 bf YW hb HB;clear hb hg))
  go_ret
  exact ⟨ff,bs HB⟩
 ·intro c3 H;have bN:decide (20000<(a0.size:Int))=false:=decide_eq_false c3;have fo:decide (20000<a0.size)=false:=decide_eq_false (by omega);clear c3;obtain ⟨y58,acA⟩:∃ y_:List Int,y_=(([]:List Int)):=⟨_,rfl⟩
  replace H:(dm.l0 k a0 y58 (-1) 0 aM aR)=some r:=ye acA H
  have afR:=am acA;clear acA;have H':=am H;clear H
  go_in
  go_wp2_with (first|((with_reducible refine aN (N:=3) rfl ?_);(try (refine iM (by rfl) ?_;dsimp only));refine bz 3 (cs:=#[.string aM,.slice iV aR.length iU]) (t:=62) HB ?_;clear HB;intro uW hg w5 bf YW hb HB;clear hb hg)|((with_reducible refine aN (N:=13) rfl ?_);(try (refine iM (by rfl) ?_;dsimp only));refine rl (Kd.int .u8) 5 (N:=13) (xs:=([]:List Int)) (inner:=[]) ?hp ?_;(case hp=>exact (aQ.none _ _));intro aIO w6 wy hb hg_ hnew_;clear hg_ hnew_;(first|rw [← afR.out] at wy|(simp only [Int.reduceToNat] at wy;rw [← afR.out] at wy));have anD:=am (Kd.gU wy (bC (bs HB)));replace bf:=bb bf hb;replace HB:=bq HB hb;clear hb wy))
  go_loopg [5,6,7] k (fun kq v5 v6 v7 w'=>∃ (bi:List Int) (dF:Int) (dO:Int),v6=.int .i64 dF∧v7=.int .i64 dO∧af (dm.l0 kq a0 bi dF dO aM aR=some r)∧af (kq≤k)∧af (Kd.R (Kd.int .u8) 5 w' w.heap.size (fun _=>True) v5 bi)∧af (w'.heap[uW]? = some (.cells #[.string aM,(.slice iV aR.length iU)] 62 (0,0)))∧af (Below w.heap.size w w'))
  case atStart=>exact ⟨(y58),((-1)),(0),fg,fg,H',⟨Nat.le_refl _⟩,⟨rz anD.out⟩,⟨ks bf⟩,⟨bs HB⟩⟩
  case round =>
   clear H'
   try clear c3
   try clear bN
   try clear fo
   try clear bf
   obtain ⟨bi,dF,dO,rfl,rfl,HA,aU,bG,bf,HB⟩:=hrel
   cases gk with
   | zero=>exact absurd HA.out (by simp [dm.l0])
   | succ k1 =>
    have H:=HA.out;clear HA;simp only [dm.l0] at H
    revert H;refine cB ?_ ?_
    ·intro jR H
     revert H;refine bu ?_
     intro nk H
     revert H;refine bL ?_ ?_
     ·intro xE Cv H
      revert H;refine gz ?_ ?_
      ·intro c12 H;have xG:decide (0≤dF)=true:=decide_eq_true c12;clear c12;obtain rfl:=si H;have jS:0≤(dO:Int):=oa;have jL:dO<(a0.size:Int):=oa;have CU:=gF a0 dO;replace jS:=eq_true jS;replace jL:=eq_true jL
       go_wp2
       go_ret
       exact ⟨ff,bs HB⟩
      ·intro c12 H;have xG:decide (0≤dF)=false:=decide_eq_false c12;clear c12;have H':=am H;clear H;have jS:0≤(dO:Int):=oa;have jL:dO<(a0.size:Int):=oa;have CU:=gF a0 dO;replace jS:=eq_true jS;replace jL:=eq_true jL;obtain ⟨Ed,EH,La⟩:=Kd.iy bG.out;subst La
       go_wp2
       go_roundg k1
       case measure=>have:=aU.out;omega
       case rel=>exact ⟨(bi),((bi.length:Int)),(wrap64 (dO+1)),fg,fg,H',⟨by have:=aU.out;omega⟩,⟨rz bG.out⟩,⟨ks bf⟩,⟨bs HB⟩⟩
     ·intro c11 xE Cv H
      revert H;refine bL ?_ ?_
      ·intro oU K4 H
       revert H;refine jE ?_
       intro c15 H;have aol:=am c15;clear c15;obtain ⟨y59,acC⟩:∃ y_:List Int,y_=(bi++[bt a0 dO]):=⟨_,rfl⟩
       replace H:(dm.l0 k1 a0 y59 dF (wrap64 (dO+1)) aM aR)=some r:=ye acC H
       have ape:=am acC;clear acC;have H':=am H;clear H;have jS:0≤(dO:Int):=oa;have jL:dO<(a0.size:Int):=oa;have CU:=gF a0 dO;replace jS:=eq_true jS;replace jL:=eq_true jL
       go_wp2_with (first|((with_reducible refine pX (b:=.append) (xs:=#[.tmp 51,.tmp 53]) rfl ?_);(try (refine iM (by rfl) ?_;dsimp only));at_builtin;refine Kd.rH (Kd.int .u8) (w0:=w) w.heap.size rfl (.tmp 51) (.tmp 53) 124 5 (.int .u8 0) 1 rfl Tryz.underlying124 info5 rfl (by decide) (by omega) u5 bi (bt a0 dO) [.int .u8 (bt a0 dO)] (fun _=>True) (fun _=>False) rfl rfl ?aP (fun _ hk=>hk.elim) ?aF ?aO ?aB ?aS ?aL ?_;(case aP=>exact rfl);(case aB=>exact (bs HB));(case aF=>exact (fun _ _=>trivial));(case aO=>exact (rs bG));(case aS=>exact (bC (bs HB)));(case aL=>have:=aol.out;omega);intro aIP w16 ho hb hg hat;rw [← ape.out] at ho;replace bf:=am (fG (ks bf) hg (Kd.jy bG.out bf.out (by decide)));replace HB:=am (hb);have anE:=am (ho);clear bG;clear ho hb hg hat))
       go_roundg k1
       case measure=>have:=aU.out;omega
       case rel=>exact ⟨(y59),(dF),(wrap64 (dO+1)),fg,fg,H',⟨by have:=aU.out;omega⟩,⟨rz anE.out⟩,⟨ks bf⟩,⟨bs HB⟩⟩
      ·intro c14 oU K4 H
       revert H;refine bL ?_ ?_
       ·intro oo AX H
        revert H;refine jE ?_
        intro c18 H;have aom:=am c18;clear c18;obtain ⟨y60,acE⟩:∃ y_:List Int,y_=(bi++[bt a0 dO]):=⟨_,rfl⟩
        replace H:(dm.l0 k1 a0 y60 dF (wrap64 (dO+1)) aM aR)=some r:=ye acE H
        have apg:=am acE;clear acE;have H':=am H;clear H;have jS:0≤(dO:Int):=oa;have jL:dO<(a0.size:Int):=oa;have CU:=gF a0 dO;replace jS:=eq_true jS;replace jL:=eq_true jL
        go_wp2_with (first|((with_reducible refine pX (b:=.append) (xs:=#[.tmp 51,.tmp 53]) rfl ?_);(try (refine iM (by rfl) ?_;dsimp only));at_builtin;refine Kd.rH (Kd.int .u8) (w0:=w) w.heap.size rfl (.tmp 51) (.tmp 53) 124 5 (.int .u8 0) 1 rfl Tryz.underlying124 info5 rfl (by decide) (by omega) u5 bi (bt a0 dO) [.int .u8 (bt a0 dO)] (fun _=>True) (fun _=>False) rfl rfl ?aP (fun _ hk=>hk.elim) ?aF ?aO ?aB ?aS ?aL ?_;(case aP=>exact rfl);(case aB=>exact (bs HB));(case aF=>exact (fun _ _=>trivial));(case aO=>exact (rs bG));(case aS=>exact (bC (bs HB)));(case aL=>have:=aom.out;omega);intro aIQ pG ho hb hg hat;rw [← apg.out] at ho;replace bf:=am (fG (ks bf) hg (Kd.jy bG.out bf.out (by decide)));replace HB:=am (hb);have UL:=am (ho);clear bG;clear ho hb hg hat))
        go_roundg k1
        case measure=>have:=aU.out;omega
        case rel=>exact ⟨(y60),(dF),(wrap64 (dO+1)),fg,fg,H',⟨by have:=aU.out;omega⟩,⟨rz UL.out⟩,⟨ks bf⟩,⟨bs HB⟩⟩
       ·intro c17 oo AX H
        revert H;refine bL ?_ ?_
        ·intro ui O8 H
         revert H;refine jE ?_
         intro c21 H;have aon:=am c21;clear c21;obtain ⟨y61,acF⟩:∃ y_:List Int,y_=(bi++[bt a0 dO]):=⟨_,rfl⟩
         replace H:(dm.l0 k1 a0 y61 dF (wrap64 (dO+1)) aM aR)=some r:=ye acF H
         have aph:=am acF;clear acF;have H':=am H;clear H;have jS:0≤(dO:Int):=oa;have jL:dO<(a0.size:Int):=oa;have CU:=gF a0 dO;replace jS:=eq_true jS;replace jL:=eq_true jL
         go_wp2_with (first|((with_reducible refine pX (b:=.append) (xs:=#[.tmp 51,.tmp 53]) rfl ?_);(try (refine iM (by rfl) ?_;dsimp only));at_builtin;refine Kd.rH (Kd.int .u8) (w0:=w) w.heap.size rfl (.tmp 51) (.tmp 53) 124 5 (.int .u8 0) 1 rfl Tryz.underlying124 info5 rfl (by decide) (by omega) u5 bi (bt a0 dO) [.int .u8 (bt a0 dO)] (fun _=>True) (fun _=>False) rfl rfl ?aP (fun _ hk=>hk.elim) ?aF ?aO ?aB ?aS ?aL ?_;(case aP=>exact rfl);(case aB=>exact (bs HB));(case aF=>exact (fun _ _=>trivial));(case aO=>exact (rs bG));(case aS=>exact (bC (bs HB)));(case aL=>have:=aon.out;omega);intro aIR JO ho hb hg hat;rw [← aph.out] at ho;replace bf:=am (fG (ks bf) hg (Kd.jy bG.out bf.out (by decide)));replace HB:=am (hb);have anL:=am (ho);clear bG;clear ho hb hg hat))
         go_roundg k1
         case measure=>have:=aU.out;omega
         case rel=>exact ⟨(y61),(dF),(wrap64 (dO+1)),fg,fg,H',⟨by have:=aU.out;omega⟩,⟨rz anL.out⟩,⟨ks bf⟩,⟨bs HB⟩⟩
        ·intro c20 ui O8 H
         revert H;refine bL ?_ ?_
         ·intro ED aaH H
          revert H;refine jE ?_
          intro c24 H;have aoo:=am c24;clear c24;obtain ⟨y63,acH⟩:∃ y_:List Int,y_=(bi++[bt a0 dO]):=⟨_,rfl⟩
          replace H:(dm.l0 k1 a0 y63 dF (wrap64 (dO+1)) aM aR)=some r:=ye acH H
          have api:=am acH;clear acH;have H':=am H;clear H;have jS:0≤(dO:Int):=oa;have jL:dO<(a0.size:Int):=oa;have CU:=gF a0 dO;replace jS:=eq_true jS;replace jL:=eq_true jL
          go_wp2_with (first|((with_reducible refine pX (b:=.append) (xs:=#[.tmp 51,.tmp 53]) rfl ?_);(try (refine iM (by rfl) ?_;dsimp only));at_builtin;refine Kd.rH (Kd.int .u8) (w0:=w) w.heap.size rfl (.tmp 51) (.tmp 53) 124 5 (.int .u8 0) 1 rfl Tryz.underlying124 info5 rfl (by decide) (by omega) u5 bi (bt a0 dO) [.int .u8 (bt a0 dO)] (fun _=>True) (fun _=>False) rfl rfl ?aP (fun _ hk=>hk.elim) ?aF ?aO ?aB ?aS ?aL ?_;(case aP=>exact rfl);(case aB=>exact (bs HB));(case aF=>exact (fun _ _=>trivial));(case aO=>exact (rs bG));(case aS=>exact (bC (bs HB)));(case aL=>have:=aoo.out;omega);intro aIS Nb ho hb hg hat;rw [← api.out] at ho;replace bf:=am (fG (ks bf) hg (Kd.jy bG.out bf.out (by decide)));replace HB:=am (hb);have anM:=am (ho);clear bG;clear ho hb hg hat))
          go_roundg k1
          case measure=>have:=aU.out;omega
          case rel=>exact ⟨(y63),(dF),(wrap64 (dO+1)),fg,fg,H',⟨by have:=aU.out;omega⟩,⟨rz anM.out⟩,⟨ks bf⟩,⟨bs HB⟩⟩
         ·intro c23 ED aaH H
          revert H;refine bL ?_ ?_
          ·intro O9 aqB H
           revert H;refine jE ?_
           intro wm H;have aor:=am wm;clear wm;obtain ⟨y65,acI⟩:∃ y_:List Int,y_=(bi++[bt a0 dO]):=⟨_,rfl⟩
           replace H:(dm.l0 k1 a0 y65 dF (wrap64 (dO+1)) aM aR)=some r:=ye acI H
           have apj:=am acI;clear acI;have H':=am H;clear H;have jS:0≤(dO:Int):=oa;have jL:dO<(a0.size:Int):=oa;have CU:=gF a0 dO;replace jS:=eq_true jS;replace jL:=eq_true jL
           go_wp2_with (first|((with_reducible refine pX (b:=.append) (xs:=#[.tmp 51,.tmp 53]) rfl ?_);(try (refine iM (by rfl) ?_;dsimp only));at_builtin;refine Kd.rH (Kd.int .u8) (w0:=w) w.heap.size rfl (.tmp 51) (.tmp 53) 124 5 (.int .u8 0) 1 rfl Tryz.underlying124 info5 rfl (by decide) (by omega) u5 bi (bt a0 dO) [.int .u8 (bt a0 dO)] (fun _=>True) (fun _=>False) rfl rfl ?aP (fun _ hk=>hk.elim) ?aF ?aO ?aB ?aS ?aL ?_;(case aP=>exact rfl);(case aB=>exact (bs HB));(case aF=>exact (fun _ _=>trivial));(case aO=>exact (rs bG));(case aS=>exact (bC (bs HB)));(case aL=>have:=aor.out;omega);intro aIT JQ ho hb hg hat;rw [← apj.out] at ho;replace bf:=am (fG (ks bf) hg (Kd.jy bG.out bf.out (by decide)));replace HB:=am (hb);have anN:=am (ho);clear bG;clear ho hb hg hat))
           go_roundg k1
           case measure=>have:=aU.out;omega
           case rel=>exact ⟨(y65),(dF),(wrap64 (dO+1)),fg,fg,H',⟨by have:=aU.out;omega⟩,⟨rz anN.out⟩,⟨ks bf⟩,⟨bs HB⟩⟩
          ·intro c26 O9 aqB H
           revert H;refine bL ?_ ?_
           ·intro Hr aqF H
            revert H;refine jE ?_
            intro c30 H;have aot:=am c30;clear c30;obtain ⟨YD,IA⟩:∃ y_:List Int,y_=(bi++[bt a0 dO]):=⟨_,rfl⟩
            replace H:(dm.l0 k1 a0 YD dF (wrap64 (dO+1)) aM aR)=some r:=ye IA H
            have U0:=am IA;clear IA;have H':=am H;clear H;have jS:0≤(dO:Int):=oa;have jL:dO<(a0.size:Int):=oa;have CU:=gF a0 dO;replace jS:=eq_true jS;replace jL:=eq_true jL
            go_wp2_with (first|((with_reducible refine pX (b:=.append) (xs:=#[.tmp 51,.tmp 53]) rfl ?_);(try (refine iM (by rfl) ?_;dsimp only));at_builtin;refine Kd.rH (Kd.int .u8) (w0:=w) w.heap.size rfl (.tmp 51) (.tmp 53) 124 5 (.int .u8 0) 1 rfl Tryz.underlying124 info5 rfl (by decide) (by omega) u5 bi (bt a0 dO) [.int .u8 (bt a0 dO)] (fun _=>True) (fun _=>False) rfl rfl ?aP (fun _ hk=>hk.elim) ?aF ?aO ?aB ?aS ?aL ?_;(case aP=>exact rfl);(case aB=>exact (bs HB));(case aF=>exact (fun _ _=>trivial));(case aO=>exact (rs bG));(case aS=>exact (bC (bs HB)));(case aL=>have:=aot.out;omega);intro aIU F7 ho hb hg hat;rw [← U0.out] at ho;replace bf:=am (fG (ks bf) hg (Kd.jy bG.out bf.out (by decide)));replace HB:=am (hb);have anO:=am (ho);clear bG;clear ho hb hg hat))
            go_roundg k1
            case measure=>have:=aU.out;omega
            case rel=>exact ⟨(YD),(dF),(wrap64 (dO+1)),fg,fg,H',⟨by have:=aU.out;omega⟩,⟨rz anO.out⟩,⟨ks bf⟩,⟨bs HB⟩⟩
           ·intro sQ Hr aqF H;obtain rfl:=si H;have jS:0≤(dO:Int):=oa;have jL:dO<(a0.size:Int):=oa;have CU:=gF a0 dO;replace jS:=eq_true jS;replace jL:=eq_true jL
            go_wp2
            go_ret
            exact ⟨ff,bs HB⟩
    ·intro jR H;have Zd:=am H;clear H
     go_upto_if 56 with (fail)
     go_cut [6] (fun v6 wc=>∃ (kq:Nat) (NR:Int),v6=.int .i64 NR∧af (dm.j1 kq bi NR aM aR=some r)∧af (kq≤k1)∧af (Kd.R (Kd.int .u8) 5 wc w.heap.size (fun _=>True) u5 bi)∧af (wc.heap[uW]? = some (.cells #[.string aM,(.slice iV aR.length iU)] 62 (0,0)))∧af (Below w.heap.size w wc))
     case first =>
      have H:=Zd.out;clear Zd
      revert H;refine cB ?_ ?_
      ·intro Cy H
       (first|rw [Cy]|(simp only [fu,gy];rw [Cy])|skip)
       have H':=am H;clear H;obtain ⟨amt,arn,aa8⟩:=Kd.iy bG.out;subst aa8
       go_wp2
       go_meet
       case rel=>exact ⟨_,((bi.length:Int)),fg,H',⟨by have:=aU.out;first|omega|exact Nat.le_refl _⟩,⟨rz bG.out⟩,⟨ks bf⟩,⟨bs HB⟩⟩
      ·intro Cy H
       (first|rw [Cy]|(simp only [fu,gy];rw [Cy])|skip)
       have H':=am H;clear H
       go_wp2
       go_meet
       case rel=>exact ⟨_,(dF),fg,H',⟨by have:=aU.out;first|omega|exact Nat.le_refl _⟩,⟨rz bG.out⟩,⟨ks bf⟩,⟨bs HB⟩⟩
     case rest =>
      clear Zd
      try clear c3
      try clear bN
      try clear fo
      try clear jR
      obtain ⟨kq,NR,rfl,HA,UA,bG,bf,HB⟩:=hcut
      cases kq with
      | zero=>exact absurd HA.out (by simp [dm.j1])
      | succ aks =>
       have H:=HA.out;clear HA;simp only [dm.j1] at H;have H':=am H;clear H
       go_wp2
       go_loopg [9] aks (fun kq v9 w'=>∃ (pJ:Int),v9=.int .i64 pJ∧af (dm.l1 kq bi NR pJ aM aR=some r)∧af (kq≤aks)∧af (Kd.R (Kd.int .u8) 5 w' w.heap.size (fun _=>True) u5 bi)∧af (w'.heap[uW]? = some (.cells #[.string aM,(.slice iV aR.length iU)] 62 (0,0)))∧af (Below w.heap.size w w'))
       case atStart=>exact ⟨(0),fg,H',⟨Nat.le_refl _⟩,⟨rz bG.out⟩,⟨ks bf⟩,⟨bs HB⟩⟩
       case round =>
        clear H'
        try clear c3
        try clear bN
        try clear fo
        try clear jR
        try clear bf
        obtain ⟨pJ,rfl,HA,pU,bG,bf,HB⟩:=hrel
        cases gk with
        | zero=>exact absurd HA.out (by simp [dm.l1])
        | succ k3 =>
         have H:=HA.out;clear HA;simp only [dm.l1] at H;have Ze:=am H;clear H
         go_upto_region 19 with (fail)
         go_cut [68] (fun v68 wc=>∃ (kq:Nat) (Yx:Bool),v68=.bool Yx∧af (dm.j3 kq bi NR pJ Yx aM aR=some r)∧af (kq≤k3)∧af (Kd.R (Kd.int .u8) 5 wc w.heap.size (fun _=>True) u5 bi)∧af (wc.heap[uW]? = some (.cells #[.string aM,(.slice iV aR.length iU)] 62 (0,0)))∧af (Below w.heap.size w wc))
         case first =>
          have H:=Ze.out;clear Ze
          revert H;refine cB ?_ ?_
          ·intro uk H
           (first|rw [uk]|(simp only [fu,gy];rw [uk])|skip)
           have H':=am H;clear H;have abj:=gG bf
           go_wp2
           go_meet
           case rel=>exact ⟨_,(true),fg,H',⟨by have:=aU.out;have:=UA.out;have:=pU.out;first|omega|exact Nat.le_refl _⟩,⟨rz bG.out⟩,⟨ks bf⟩,⟨bs HB⟩⟩
          ·intro uk H
           (first|rw [uk]|(simp only [fu,gy];rw [uk])|skip)
           have H':=am H;clear H;have Ii:=gG bf
           go_wp2
           go_meet
           case rel=>exact ⟨_,(decide (pJ<NR)),fg,H',⟨by have:=aU.out;have:=UA.out;have:=pU.out;first|omega|exact Nat.le_refl _⟩,⟨rz bG.out⟩,⟨ks bf⟩,⟨bs HB⟩⟩
         case rest =>
          clear Ze
          try clear c3
          try clear bN
          try clear fo
          try clear jR
          obtain ⟨kq,Yx,rfl,HA,aeY,bG,bf,HB⟩:=hcut
          cases kq with
          | zero=>exact absurd HA.out (by simp [dm.j3])
          | succ acU =>
           have H:=HA.out;clear HA;simp only [dm.j3] at H
           obtain rfl|rfl:=bt Yx
           ·replace H:=dE H
            revert H;refine gz ?_ ?_
            ·intro c40 H;have zB:decide ((aR.length:Int)≤pJ)=true:=decide_eq_true c40;clear c40;obtain rfl:=si H
             try go_wp2
             replace bG:=am (Kd.dY bG.out);replace bf:=am (bg bf.out);replace HB:=am (cO HB.out);refine il 24 (hb2 bf) (fun hHeld=>?_);refine gq dm.JJ dm.G8 (fun HT_ HW_=>?_)
             generalize wc.drew=w41 at bG bf HB hHeld ⊢
             refine jm 0 ?_;refine ta 2 ?_;refine lH 3 ?_;refine lH 11 ?_;refine jF 19 ?_;refine bV 23 ?_;refine fq (gp HT_.out (by kernel_rfl)) ?_
             try go_wp2
             go_ret
             exact ⟨ff,bs HB⟩
            ·intro c40 H;have zB:decide ((aR.length:Int)≤pJ)=false:=decide_eq_false c40;clear c40
             revert H;refine gz ?_ ?_
             ·intro K6 H;have K7:decide ((bi.length:Int)≤pJ)=true:=decide_eq_true K6;clear K6;obtain rfl:=si H
              try go_wp2
              replace bG:=am (Kd.dY bG.out);replace bf:=am (bg bf.out);replace HB:=am (cO HB.out);obtain ⟨aeG,ag9,PD⟩:=Kd.iy bG.out
              (first|subst PD|(injection PD with dZ iJ d9;have iK:=dZ.symm;have iL:=d9.symm;clear dZ iJ d9;subst iK;subst iL))
              refine il 24 (hb2 bf) (fun hHeld=>?_);refine gq dm.JJ dm.G8 (fun HT_ HW_=>?_)
              generalize wc.drew=Ng at bG bf HB hHeld ⊢
              refine jm 0 ?_;refine ta 2 ?_;refine lH 3 ?_;refine lH 11 ?_;refine jF 19 ?_;refine bV 23 ?_;refine fq (gp HT_.out (by kernel_rfl)) ?_
              try go_wp2
              go_ret
              exact ⟨ff,bs HB⟩
             ·intro K6 H;have K7:decide ((bi.length:Int)≤pJ)=false:=decide_eq_false K6;clear K6
              revert H;refine bu ?_
              intro aaN H
              revert H;refine bu ?_
              intro K8 H
              revert H;refine bu ?_
              intro aA7 H;replace H:=bo H;obtain ⟨adJ,A48,H⟩:=H
              obtain rfl|rfl:=bt adJ
              ·replace H:=dE H;have H':=am H;clear H
               try go_wp2
               replace bG:=am (Kd.dY bG.out);replace bf:=am (bg bf.out);replace HB:=am (cO HB.out);obtain ⟨Oa,Ps,PG⟩:=Kd.iy bG.out
               (first|subst PG|(injection PG with dZ iJ d9;have iK:=dZ.symm;have iL:=d9.symm;clear dZ iJ d9;subst iK;subst iL))
               obtain ⟨p57,XA,OT,e57,wF⟩:=wi (Kd.ags (Kd.dU bG.out).2.2 pJ)
               cases e57
               obtain ⟨p49,q49,apU,YQ,aaO,e49,De,QH,Ql⟩:=wi (lZ lX.out pJ);have Rw:=De
               cases e49
               replace De:=cb HB De;have Ou:=am Ql;have Zj:=am QH;clear Ql QH;refine il 24 (Ia bf (aJ wF (hc (cb HB Rw)))) (fun hHeld=>?_);refine gq dm.JJ dm.G8 (fun HT_ HW_=>?_)
               generalize wc.drew=Ty at bG bf HB Ou wF De hHeld ⊢
               refine jm 0 ?_;refine ta 2 ?_;refine lH 3 ?_;refine jF 11 ?_;refine bV 16 ?_;refine bV 18 ?_;refine ta 15 ?_;refine ta 17 ?_;refine bV 19 ?_;refine ta 20 ?_;refine oA 21 92 HT_ (fun K hK=>?_);refine gA Tryz.func131 #[.int .u8 (rd bi pJ),.agg #[.slice YQ ((aH aR pJ).f0).length aaO]] ?_;(with_reducible refine (yT.calls acU (rd bi pJ) _ _ ((aH aR pJ).f0) true _ ?aI ?aW A48.out).mono ?_)
               (case aI=>exact sd (Kd.bJ Ou.out HB.out))
               (case aW=>exact Zj.out)
               rintro e w52 ⟨rfl,hb⟩;have Gw:=(hb.cell (World.block_lt_of_cell? _ _ (hHeld.2.2.1))).trans (hHeld.2.2.1);refine ⟨_,rfl,?_⟩;replace bG:=am (Kd.dK (rs bG) hb);replace bf:=bb bf hb;replace HB:=bq HB hb;(try clear hb);refine hK.out _ _ (akV bf ⟨Gw,((cb HB Rw).trans rfl)⟩) (fun hHeld=>?_);clear hK K;refine nA 92 ?_;refine jm 22 ?_;refine fq (gp HT_.out (by kernel_rfl)) ?_
               try go_wp2
               go_roundg acU
               case measure=>have:=aU.out;have:=UA.out;have:=pU.out;have:=aeY.out;omega
               case rel=>exact ⟨(wrap64 (pJ+1)),fg,H',⟨by have:=aU.out;have:=UA.out;have:=pU.out;have:=aeY.out;omega⟩,⟨rz bG.out⟩,⟨ks bf⟩,⟨bs HB⟩⟩
              ·replace H:=dD H;obtain rfl:=si H
               try go_wp2
               replace bG:=am (Kd.dY bG.out);replace bf:=am (bg bf.out);replace HB:=am (cO HB.out);obtain ⟨aeH,aha,PH⟩:=Kd.iy bG.out
               (first|subst PH|(injection PH with dZ iJ d9;have iK:=dZ.symm;have iL:=d9.symm;clear dZ iJ d9;subst iK;subst iL))
               obtain ⟨p57,XA,OT,e57,wF⟩:=wi (Kd.ags (Kd.dU bG.out).2.2 pJ)
               cases e57
               obtain ⟨p49,q49,apU,YQ,aaO,e49,De,QH,Ql⟩:=wi (lZ lX.out pJ);have Rw:=De
               cases e49
               replace De:=cb HB De;have Ou:=am Ql;have Zj:=am QH;clear Ql QH;refine il 24 (Ia bf (aJ wF (hc (cb HB Rw)))) (fun hHeld=>?_);refine gq dm.JJ dm.G8 (fun HT_ HW_=>?_)
               generalize wc.drew=w53 at bG bf HB Ou wF De hHeld ⊢
               refine jm 0 ?_;refine ta 2 ?_;refine lH 3 ?_;refine jF 11 ?_;refine bV 16 ?_;refine bV 18 ?_;refine ta 15 ?_;refine ta 17 ?_;refine bV 19 ?_;refine ta 20 ?_;refine oA 21 92 HT_ (fun K hK=>?_);refine gA Tryz.func131 #[.int .u8 (rd bi pJ),.agg #[.slice YQ ((aH aR pJ).f0).length aaO]] ?_;(with_reducible refine (yT.calls acU (rd bi pJ) _ _ ((aH aR pJ).f0) false _ ?aI ?aW A48.out).mono ?_)
               (case aI=>exact sd (Kd.bJ Ou.out HB.out))
               (case aW=>exact Zj.out)
               rintro e w55 ⟨rfl,hb⟩;have Gw:=(hb.cell (World.block_lt_of_cell? _ _ (hHeld.2.2.1))).trans (hHeld.2.2.1);refine ⟨_,rfl,?_⟩;replace bG:=am (Kd.dK (rs bG) hb);replace bf:=bb bf hb;replace HB:=bq HB hb;(try clear hb);refine hK.out _ _ (akV bf ⟨Gw,((cb HB Rw).trans rfl)⟩) (fun hHeld=>?_);clear hK K;refine nA 92 ?_;refine jm 22 ?_;refine fq (gp HT_.out (by kernel_rfl)) ?_
               try go_wp2
               go_ret
               exact ⟨ff,bs HB⟩
           ·replace H:=dD H;obtain rfl:=si H
            go_wp2
            go_ret
            exact ⟨ff,bs HB⟩
def dP.OM:Bool × List (List Nat × List Nat):=(true,[([],[]),([],[]),([],[]),([1,2],[1,2]),([3],[3]),([4],[4]),([0,5],[0,5]),([6],[6]),([7],[7]),([7],[7]),([9,7],[7,9]),([8,10,7],[7,8,10]),([7,11],[7,11]),([12,7],[12]),([13],[13]),([13],[13]),([14,15,13],[13,14,15]),([16,13],[13,16]),([17,13],[13,17]),([13],[13]),([13],[13]),([19,20,13],[13,19,20]),([21,13],[13,21]),([22,13],[13,22]),([18,23,13],[13,18,23]),([13,24],[13,24])])
def dP.B11:List Nat:=[0,0,0,6,14,30,63,127,255,255,767,2047,4095,8191,16383,16383,65535,131071,262143,16383,16383,1589247,3686399,7880703,16777215,33554431]
theorem dP.Tu:fJ .any (opsOf Tryz.f68 11)=dP.OM:=by kernel_rfl
theorem dP.OY:iY dP.OM.2 dP.B11=true:=by kernel_rfl
def dP.sK:Bool × List (List Nat × List Nat):=(true,[([],[]),([],[]),([0,1],[0,1]),([2],[2]),([3],[3]),([],[]),([],[]),([5,6],[5,6]),([7],[7]),([4,8],[4,8]),([9,9,0,1,2,3,4,5,6,7,8,9],[9])])
def dP.zh:List Nat:=[0,0,3,7,15,0,0,96,224,511,1023]
theorem dP.wP:fJ .any (opsOf Tryz.f68 12)=dP.sK:=by kernel_rfl
theorem dP.vY:iY dP.sK.2 dP.zh=true:=by kernel_rfl
def dP.OO:Bool × List (List Nat × List Nat):=(true,[([],[]),([],[]),([0,1],[0,1]),([2],[2]),([3],[3]),([],[]),([],[]),([6],[6]),([7],[7]),([5,8],[5,8]),([9],[9]),([10],[10]),([4,11],[4,11])])
def dP.YT:List Nat:=[0,0,3,7,15,0,0,64,192,480,992,2016,4095]
theorem dP.JJ:fJ .any (opsOf Tryz.f68 21)=dP.OO:=by kernel_rfl
theorem dP.G8:iY dP.OO.2 dP.YT=true:=by kernel_rfl
theorem dP.calls (k:Nat) (a0:Int) (A1:Option Addr) (c1:Nat) (l1:List (bA)) (r1:Int) (r2:Int) (r3:Int) (w:World) (hr1:Kd.C kS w A1 l1.length l1) (hc1:l1.length≤c1) (H:dP.f k a0 l1=some (r1,r2,r3)) :
  Calls Tryz.prog 68 #[.int .i64 a0,.slice A1 l1.length c1] w fun e w'=>e=.returned (.agg #[.int .i64 r1,.int .i64 r2,.int .i64 r3])∧Below w.heap.size w w':=by
 have ajE:=Tryz.underlying78;have qR:=Tryz.underlying62;have HR1:=am hr1;have xc:=am hc1;clear hr1 hc1;have HB:=am (Below.refl w.heap.size w);unfold dP.f at H
 revert H;refine gz ?_ ?_
 ·intro c3 H;have bN:decide (400<(l1.length:Int))=true:=decide_eq_true c3;have fo:decide (400<l1.length)=true:=decide_eq_true (by omega);clear c3;replace H:=wM H;obtain ⟨rfl,rfl,rfl⟩:=H
  go_in
  go_wp2_with (first|((with_reducible refine aN (N:=4) rfl ?_);(try (refine iM (by rfl) ?_;dsimp only));refine bz 4 (cs:=#[.int .i64 0,.int .i64 0,.int .i64 0]) (t:=78) HB ?_;clear HB;intro ww hg w4 bF aeS hb HB;clear hb hg;have Bf:=l6 bF))
  refine bodyPost_ret (results_cell_row rfl _ _ ww 78 #[.int .i64 0,.int .i64 0,.int .i64 2] (0,0) _ rfl (kp bF) Tryz.underlying78 rfl (by kernel_rfl)) rfl ?_
  exact ⟨ff,bs HB⟩
 ·intro c3 H;have bN:decide (400<(l1.length:Int))=false:=decide_eq_false c3;have fo:decide (400<l1.length)=false:=decide_eq_false (by omega);clear c3;replace H:=bo H;obtain ⟨t72,A6,H⟩:=H
  go_in
  try go_wp2_with (first|((with_reducible refine aN (N:=4) rfl ?_);(try (refine iM (by rfl) ?_;dsimp only));refine bz 4 (cs:=#[.int .i64 0,.int .i64 0,.int .i64 0]) (t:=78) HB ?_;clear HB;intro ww hg w7 bF aeS hb HB;clear hb hg))
  go_at_call 105;(with_reducible refine (tF.calls k a0 t72 _ A6.out).mono ?_);rintro e w8 ⟨v81,rfl,ho0,hb⟩;have Oi:=am (Kd.gU ho0 (bC (bs HB)));replace bF:=bb bF hb;replace HB:=bq HB hb;(try clear hb);(try clear ho0)
  revert H;refine bL ?_ ?_
  ·intro nk CE H;replace H:=wM H;obtain ⟨rfl,rfl,rfl⟩:=H;obtain ⟨aev,Po,HZ⟩:=Kd.iy Oi.out;subst HZ;have Bd:=l6 bF
   go_wp2
   refine bodyPost_ret (results_cell_row rfl _ _ ww 78 #[.int .i64 0,.int .i64 0,.int .i64 1] (0,0) _ rfl (kp bF) Tryz.underlying78 rfl (by kernel_rfl)) rfl ?_
   exact ⟨ff,bs HB⟩
  ·intro c9 nk CE H
   have agY:¬ (t72=[]):=fun h_=>c9 (by rw [h_];rfl)
   have H':=am H;clear H;obtain ⟨Gp,HY,aa5⟩:=Kd.iy Oi.out;subst aa5
   go_wp2
   go_loopg [6,7] k (fun kq v6 v7 w'=>∃ (dF:Int) (dO:Int) (aed:Int) (aee:Int) (aef:Int),v6=.int .i64 dF∧v7=.int .i64 dO∧af (dP.l0 kq l1 t72 dF dO=some (r1,r2,r3))∧af (kq≤k)∧af (Kd.R iA 111 w' w.heap.size (fun _=>True) (.slice Gp t72.length HY) t72)∧af (w'.heap[ww]? = some (.cells #[.int .i64 aed,.int .i64 aee,.int .i64 aef] 78 (0,0)))∧af (Below w.heap.size w w'))
   case atStart=>exact ⟨(0),(0),(0),(0),(0),fg,fg,H',⟨Nat.le_refl _⟩,⟨rz Oi.out⟩,⟨ks bF⟩,⟨bs HB⟩⟩
   case round =>
    clear H'
    try clear c1
    try clear c3
    try clear bN
    try clear fo
    try clear c9
    try clear nk
    try clear CE
    try clear agY
    try clear bF
    obtain ⟨dF,dO,aed,aee,aef,rfl,rfl,HA,aU,bG,bF,HB⟩:=hrel
    cases gk with
    | zero=>exact absurd HA.out (by simp [dP.l0])
    | succ k1 =>
     have H:=HA.out;clear HA;simp only [dP.l0] at H
     revert H;refine cB ?_ ?_
     ·intro lC H;have H':=am H;clear H
      go_wp2
      go_loopg [6,8] k1 (fun kq v6 v8 w'=>∃ (nI:Int) (Uc:Int) (TZ:Int) (Ua:Int) (Ub:Int),v6=.int .i64 nI∧v8=.int .i64 Uc∧af (dP.l1 kq l1 t72 nI dO Uc=some (r1,r2,r3))∧af (kq≤k1)∧af (Kd.R iA 111 w' w.heap.size (fun _=>True) (.slice Gp t72.length HY) t72)∧af (w'.heap[ww]? = some (.cells #[.int .i64 TZ,.int .i64 Ua,.int .i64 Ub] 78 (0,0)))∧af (Below w.heap.size w w'))
      case atStart=>exact ⟨(dF),(0),(aed),(aee),(aef),fg,fg,H',⟨Nat.le_refl _⟩,⟨rz bG.out⟩,⟨ks bF⟩,⟨bs HB⟩⟩
      case round =>
       clear H'
       try clear c1
       try clear c3
       try clear bN
       try clear fo
       try clear c9
       try clear nk
       try clear CE
       try clear agY
       try clear lC
       try clear bF
       obtain ⟨nI,Uc,TZ,Ua,Ub,rfl,rfl,HA,cz,bG,bF,HB⟩:=hrel
       cases gk with
       | zero=>exact absurd HA.out (by simp [dP.l1])
       | succ k2 =>
        have H:=HA.out;clear HA;simp only [dP.l1] at H;have Y7:=am H;clear H
        go_upto_region 11 with (fail)
        go_cut [52] (fun v52 wc=>∃ (kq:Nat) (Yr:Bool),v52=.bool Yr∧af (dP.j2 kq l1 t72 nI dO Uc Yr=some (r1,r2,r3))∧af (kq≤k2)∧af (Kd.R iA 111 wc w.heap.size (fun _=>True) (.slice Gp t72.length HY) t72)∧af (wc.heap[ww]? = some (.cells #[.int .i64 TZ,.int .i64 Ua,.int .i64 Ub] 78 (0,0)))∧af (Below w.heap.size w wc))
        case first =>
         have H:=Y7.out;clear Y7
         revert H;refine bu ?_
         intro uh H
         (first|rw [uh]|(simp only [fu,gy];rw [uh])|skip)
         revert H;refine bu ?_
         intro vZ H
         revert H;refine cB ?_ ?_
         ·intro oo H
          revert H;refine cB ?_ ?_
          ·intro uT H
           revert H;refine bu ?_
           intro sP H;have H':=am H;clear H
           try go_wp2
           replace bG:=am (Kd.dY bG.out);replace bF:=am (bg bF.out);replace HB:=am (cO HB.out);obtain ⟨p66,q66,aau,Pw,Fp,Fq,Fs,Fu⟩:=wi (yl (Kd.dU bG.out).2.2 dO)
           cases Pw
           obtain ⟨p71,q71,aAT,azN,aBj,e71,Xb,Xc,aiQ,aip⟩:=wi (lv HR1.out nI);have auB:=Xc;have auA:=Xb
           cases e71
           replace Xb:=cb HB Xb;replace Xc:=cb HB Xc;have aob:=am aip;have aAx:=am aiQ;clear aip aiQ;obtain ⟨p74,q74,ap3,e74,aj4,aj5,aj6,aj7⟩:=wi (yl (Kd.dU bG.out).2.2 dO);obtain rfl:aau=ap3:=(by injection e74);refine il 26 (aJ Fp (aJ Fq (aJ Fs (aJ Fu (aJ (cb HB auA) (aJ (cb HB auB) (aJ aj4 (aJ aj5 (aJ aj6 (hc aj7)))))))))) (fun hHeld=>?_);refine gq dP.Tu dP.OY (fun HT_ HW_=>?_)
           generalize wr.drew=BM at bG bF HB aob Fp Fq Fs Fu Xb Xc aj4 aj5 aj6 aj7 hHeld ⊢
           refine jF 0 ?_;refine bV 4 ?_;refine ta 5 ?_;refine lH 6 ?_;refine jF 14 ?_;refine jF 19 ?_;refine ta 18 ?_;refine ta 23 ?_;refine jm 24 ?_;refine fq (gp HT_.out (by kernel_rfl)) ?_
           try go_wp2
           go_meet
           case rel=>exact ⟨_,((((av l1 nI).f0).toList == ((di t72 dO).f0).toList)),fg,H',⟨by have:=aU.out;have:=cz.out;first|omega|exact Nat.le_refl _⟩,⟨rz bG.out⟩,⟨ks bF⟩,⟨bs HB⟩⟩
          ·intro uT H;have H':=am H;clear H
           try go_wp2
           replace bG:=am (Kd.dY bG.out);replace bF:=am (bg bF.out);replace HB:=am (cO HB.out);obtain ⟨p66,q66,aau,Pw,Fp,Fq,Fs,Fu⟩:=wi (yl (Kd.dU bG.out).2.2 dO)
           cases Pw
           refine il 26 (aJ Fp (aJ Fq (aJ Fs (hc Fu)))) (fun hHeld=>?_);refine gq dP.Tu dP.OY (fun HT_ HW_=>?_)
           generalize wr.drew=Ah at bG bF HB Fp Fq Fs Fu hHeld ⊢
           refine jF 0 ?_;refine bV 4 ?_;refine ta 5 ?_;refine lH 6 ?_;refine lH 14 ?_;refine jF 22 ?_;refine fq (gp HT_.out (by kernel_rfl)) ?_
           try go_wp2
           go_meet
           case rel=>exact ⟨_,(false),fg,H',⟨by have:=aU.out;have:=cz.out;first|omega|exact Nat.le_refl _⟩,⟨rz bG.out⟩,⟨ks bF⟩,⟨bs HB⟩⟩
         ·intro oo H;have H':=am H;clear H
          try go_wp2
          replace bG:=am (Kd.dY bG.out);replace bF:=am (bg bF.out);replace HB:=am (cO HB.out);obtain ⟨p66,q66,aau,Pw,Fp,Fq,Fs,Fu⟩:=wi (yl (Kd.dU bG.out).2.2 dO)
          cases Pw
          refine il 26 (aJ Fp (aJ Fq (aJ Fs (hc Fu)))) (fun hHeld=>?_);refine gq dP.Tu dP.OY (fun HT_ HW_=>?_)
          generalize wr.drew=JO at bG bF HB Fp Fq Fs Fu hHeld ⊢
          refine jF 0 ?_;refine bV 4 ?_;refine ta 5 ?_;refine lH 6 ?_;refine lH 14 ?_;refine jF 22 ?_;refine fq (gp HT_.out (by kernel_rfl)) ?_
          try go_wp2
          go_meet
          case rel=>exact ⟨_,(false),fg,H',⟨by have:=aU.out;have:=cz.out;first|omega|exact Nat.le_refl _⟩,⟨rz bG.out⟩,⟨ks bF⟩,⟨bs HB⟩⟩
        case rest =>
         clear Y7
         try clear c1
         try clear c3
         obtain ⟨kq,Yr,rfl,HA,Uy,bG,bF,HB⟩:=hcut
         cases kq with
         | zero=>exact absurd HA.out (by simp [dP.j2])
         | succ Xh =>
          have H:=HA.out;clear HA;simp only [dP.j2] at H
          obtain rfl|rfl:=bt Yr
          ·replace H:=dE H
           revert H;refine bu ?_
           intro uj H
           revert H;refine bu ?_
           intro AY H
           revert H;refine bu ?_
           intro O9 H
           revert H;refine bu ?_
           intro Hq H;replace H:=bo H;obtain ⟨t79,Aq,H⟩:=H
           revert H;refine gz ?_ ?_
           ·intro sQ H;have Hr:decide (0≤t79)=true:=decide_eq_true sQ;clear sQ;replace H:=wM H;obtain ⟨rfl,rfl,rfl⟩:=H
            try go_wp2
            replace bG:=am (Kd.dY bG.out);replace bF:=am (bg bF.out);replace HB:=am (cO HB.out);obtain ⟨p69,q69,ap0,e69,R6,R7,R8,R9⟩:=wi (yl (Kd.dU bG.out).2.2 dO)
            cases e69
            obtain ⟨p63,q63,apX,YR,aaS,e63,Df,Dh,QJ,Qn⟩:=wi (lv HR1.out nI);have Ry:=Dh;have Rx:=Df
            cases e63
            replace Df:=cb HB Df;replace Dh:=cb HB Dh;have Ov:=am Qn;have Zk:=am QJ;clear Qn QJ;refine il 11 (aJ R6 (aJ R7 (aJ R8 (aJ R9 (aJ (cb HB Rx) (hc (cb HB Ry))))))) (fun hHeld=>?_);refine gq dP.wP dP.vY (fun HT_ HW_=>?_)
            generalize wc.drew=qJ at bG bF HB Ov R6 R7 R8 R9 Df Dh hHeld ⊢
            refine jF 0 ?_;refine kZ 5 ?_;refine ta 4 ?_;refine ta 8 ?_;refine oA 9 62 HT_ (fun K hK=>?_);refine gA Tryz.func106 #[.string ((di t72 dO).f3),.agg #[.string ((av l1 nI).f0),.slice YR ((av l1 nI).f1).length aaS]] ?_;(with_reducible refine (dm.calls Xh ((di t72 dO).f3) ((av l1 nI).f0) _ _ ((av l1 nI).f1) t79 _ ?aI ?aW Aq.out).mono ?_)
            (case aI=>exact sd (Kd.bJ Ov.out HB.out))
            (case aW=>exact Zk.out)
            rintro e F7 ⟨rfl,hb⟩;have ZT:=(hb.cell (World.block_lt_of_cell? _ _ (hHeld.1))).trans (hHeld.1);have ZU:=(hb.cell (World.block_lt_of_cell? _ _ (hHeld.2.1))).trans (hHeld.2.1);have Gw:=(hb.cell (World.block_lt_of_cell? _ _ (hHeld.2.2.1))).trans (hHeld.2.2.1);have ZV:=(hb.cell (World.block_lt_of_cell? _ _ (hHeld.2.2.2.1))).trans (hHeld.2.2.2.1);refine ⟨_,rfl,?_⟩;replace bG:=am (Kd.dK (rs bG) hb);replace bF:=bb bF hb;replace HB:=bq HB hb;(try clear hb);refine hK.out _ _ ⟨ZT,ZU,Gw,ZV,((cb HB Rx).trans rfl),((cb HB Ry).trans rfl)⟩ (fun hHeld=>?_);clear hK K;refine nA 62 ?_;refine bV 10 ?_;refine fq (gp HT_.out (by kernel_rfl)) ?_;have PZ:=l6 bF
            try go_wp2
            refine bodyPost_ret (results_cell_row rfl _ _ ww 78 #[.int .i64 nI,.int .i64 t79,.int .i64 3] (0,0) _ rfl (kp bF) Tryz.underlying78 rfl (by kernel_rfl)) rfl ?_
            exact ⟨ff,bs HB⟩
           ·intro sQ H;have Hr:decide (0≤t79)=false:=decide_eq_false sQ;clear sQ;have H':=am H;clear H
            try go_wp2
            replace bG:=am (Kd.dY bG.out);replace bF:=am (bg bF.out);replace HB:=am (cO HB.out);obtain ⟨p69,q69,ap0,e69,R6,R7,R8,R9⟩:=wi (yl (Kd.dU bG.out).2.2 dO)
            cases e69
            obtain ⟨p63,q63,apX,YR,aaS,e63,Df,Dh,QJ,Qn⟩:=wi (lv HR1.out nI);have Ry:=Dh;have Rx:=Df
            cases e63
            replace Df:=cb HB Df;replace Dh:=cb HB Dh;have Ov:=am Qn;have Zk:=am QJ;clear Qn QJ;refine il 11 (aJ R6 (aJ R7 (aJ R8 (aJ R9 (aJ (cb HB Rx) (hc (cb HB Ry))))))) (fun hHeld=>?_);refine gq dP.wP dP.vY (fun HT_ HW_=>?_)
            generalize wc.drew=DK at bG bF HB Ov R6 R7 R8 R9 Df Dh hHeld ⊢
            refine jF 0 ?_;refine kZ 5 ?_;refine ta 4 ?_;refine ta 8 ?_;refine oA 9 62 HT_ (fun K hK=>?_);refine gA Tryz.func106 #[.string ((di t72 dO).f3),.agg #[.string ((av l1 nI).f0),.slice YR ((av l1 nI).f1).length aaS]] ?_;(with_reducible refine (dm.calls Xh ((di t72 dO).f3) ((av l1 nI).f0) _ _ ((av l1 nI).f1) t79 _ ?aI ?aW Aq.out).mono ?_)
            (case aI=>exact sd (Kd.bJ Ov.out HB.out))
            (case aW=>exact Zk.out)
            rintro e Ai ⟨rfl,hb⟩;have ZT:=(hb.cell (World.block_lt_of_cell? _ _ (hHeld.1))).trans (hHeld.1);have ZU:=(hb.cell (World.block_lt_of_cell? _ _ (hHeld.2.1))).trans (hHeld.2.1);have Gw:=(hb.cell (World.block_lt_of_cell? _ _ (hHeld.2.2.1))).trans (hHeld.2.2.1);have ZV:=(hb.cell (World.block_lt_of_cell? _ _ (hHeld.2.2.2.1))).trans (hHeld.2.2.2.1);refine ⟨_,rfl,?_⟩;replace bG:=am (Kd.dK (rs bG) hb);replace bF:=bb bF hb;replace HB:=bq HB hb;(try clear hb);refine hK.out _ _ ⟨ZT,ZU,Gw,ZV,((cb HB Rx).trans rfl),((cb HB Ry).trans rfl)⟩ (fun hHeld=>?_);clear hK K;refine nA 62 ?_;refine bV 10 ?_;refine fq (gp HT_.out (by kernel_rfl)) ?_
            try go_wp2
            go_roundg Xh
            case measure=>have:=aU.out;have:=cz.out;have:=Uy.out;omega
            case rel=>exact ⟨(wrap64 (nI+1)),(wrap64 (Uc+1)),(TZ),(Ua),(Ub),fg,fg,H',⟨by have:=aU.out;have:=cz.out;have:=Uy.out;omega⟩,⟨rz bG.out⟩,⟨ks bF⟩,⟨bs HB⟩⟩
          ·replace H:=dD H
           revert H;refine bu ?_
           intro VM H
           revert H;refine bu ?_
           intro uk H
           revert H;refine cB ?_ ?_
           ·intro Cz H;replace H:=wM H;obtain ⟨rfl,rfl,rfl⟩:=H;obtain ⟨p73,q73,ap2,e73,auF,auG,auH,auI⟩:=wi (yl (Kd.dU bG.out).2.2 dO)
            cases e73
            have Ii:=l6 bF
            go_wp2
            refine bodyPost_ret (results_cell_row rfl _ _ ww 78 #[.int .i64 nI,.int .i64 0,.int .i64 4] (0,0) _ rfl (kp bF) Tryz.underlying78 rfl (by kernel_rfl)) rfl ?_
            exact ⟨ff,bs HB⟩
           ·intro Cz H;have H':=am H;clear H;obtain ⟨p73,q73,ap2,e73,auF,auG,auH,auI⟩:=wi (yl (Kd.dU bG.out).2.2 dO)
            cases e73
            go_wp2
            go_roundg Xh
            case measure=>have:=aU.out;have:=cz.out;have:=Uy.out;omega
            case rel=>exact ⟨(nI),(wrap64 (dO+1)),(TZ),(Ua),(Ub),fg,fg,H',⟨by have:=aU.out;have:=cz.out;have:=Uy.out;omega⟩,⟨rz bG.out⟩,⟨ks bF⟩,⟨bs HB⟩⟩
     ·intro lC H
      revert H;refine cB ?_ ?_
      ·intro Pd H
       revert H;refine bu ?_
       intro zB H;obtain ⟨MC,Qu⟩:∃ j_:Int,(wrap64 ((t72.length:Int) - 1))=j_:=⟨_,rfl⟩
       replace H:(if 0≤(MC) then (if (MC)<(t72.length:Int) then (if ((av l1 dF).f0).toList=((di t72 (MC)).f0).toList then (some (dF,0,7)) else (some (dF,0,3))) else (none)) else (none))=some (r1,r2,r3):=by first|(rw [Qu] at H;exact H)|(simp only [Qu] at H ⊢;exact H)
       have aEy:(IntKind.i64.wrap ((t72.length:Int) - 1))=MC:=(fu _).trans Qu
       revert H;refine bu ?_
       intro K7 H
       revert H;refine bu ?_
       intro aqP H
       revert H;refine bL ?_ ?_
       ·intro aaM aqR H;replace H:=wM H;obtain ⟨rfl,rfl,rfl⟩:=H
        try go_wp2
        replace bG:=am (Kd.dY bG.out);replace bF:=am (bg bF.out);replace HB:=am (cO HB.out);obtain ⟨p65,MP,G5,aes,agX,e65,nT,yF,E8,EW⟩:=wi (lv HR1.out dF);have abY:=yF;have abX:=nT
        cases e65
        replace nT:=cb HB nT;replace yF:=cb HB yF;have UN:=am EW;have aeV:=am E8;clear EW E8;obtain ⟨p70,q70,ap1,e70,Sa,Sb,Sc,Sd⟩:=wi (yl (Kd.dU bG.out).2.2 (MC))
        cases e70
        refine il 13 (aJ (cb HB abX) (aJ (cb HB abY) (aJ Sa (aJ Sb (aJ Sc (hc Sd)))))) (fun hHeld=>?_);refine gq dP.JJ dP.G8 (fun HT_ HW_=>?_)
        generalize wr.drew=w45 at bG bF HB UN nT yF Sa Sb Sc Sd hHeld ⊢
        refine jF 0 ?_;refine jF 5 ?_;refine jm 9 ?_;refine ta 4 ?_;refine ta 11 ?_;refine bV 12 ?_;refine fq (gp HT_.out (by kernel_rfl)) ?_;have ahV:=l6 bF
        try go_wp2
        refine bodyPost_ret (results_cell_row rfl _ _ ww 78 #[.int .i64 dF,.int .i64 0,.int .i64 7] (0,0) _ rfl (kp bF) Tryz.underlying78 rfl (by kernel_rfl)) rfl ?_
        exact ⟨by first|rfl|(simp [ou,oz] <;> rfl)|(simp only [← Qu];first|rfl|(simp [ou,oz] <;> rfl))|(simp [*,ou,oz] <;> rfl),bs HB⟩
       ·intro c44 aaM aqR H;replace H:=wM H;obtain ⟨rfl,rfl,rfl⟩:=H
        try go_wp2
        replace bG:=am (Kd.dY bG.out);replace bF:=am (bg bF.out);replace HB:=am (cO HB.out);obtain ⟨p65,MP,G5,aes,agX,e65,nT,yF,E8,EW⟩:=wi (lv HR1.out dF);have abY:=yF;have abX:=nT
        cases e65
        replace nT:=cb HB nT;replace yF:=cb HB yF;have UN:=am EW;have aeV:=am E8;clear EW E8;obtain ⟨p70,q70,ap1,e70,Sa,Sb,Sc,Sd⟩:=wi (yl (Kd.dU bG.out).2.2 (MC))
        cases e70
        refine il 13 (aJ (cb HB abX) (aJ (cb HB abY) (aJ Sa (aJ Sb (aJ Sc (hc Sd)))))) (fun hHeld=>?_);refine gq dP.JJ dP.G8 (fun HT_ HW_=>?_)
        generalize wr.drew=Tw at bG bF HB UN nT yF Sa Sb Sc Sd hHeld ⊢
        refine jF 0 ?_;refine jF 5 ?_;refine jm 9 ?_;refine ta 4 ?_;refine ta 11 ?_;refine bV 12 ?_;refine fq (gp HT_.out (by kernel_rfl)) ?_;have Ll:=l6 bF
        try go_wp2
        refine bodyPost_ret (results_cell_row rfl _ _ ww 78 #[.int .i64 dF,.int .i64 0,.int .i64 3] (0,0) _ rfl (kp bF) Tryz.underlying78 rfl (by kernel_rfl)) rfl ?_
        exact ⟨by first|rfl|(simp [ou,oz] <;> rfl)|(simp only [← Qu];first|rfl|(simp [ou,oz] <;> rfl))|(simp [*,ou,oz] <;> rfl),bs HB⟩
      ·intro Pd H;replace H:=wM H;obtain ⟨rfl,rfl,rfl⟩:=H;have ahW:=l6 bF
       go_wp2
       refine bodyPost_ret (results_cell_row rfl _ _ ww 78 #[.int .i64 0,.int .i64 0,.int .i64 0] (0,0) _ rfl (kp bF) Tryz.underlying78 rfl (by kernel_rfl)) rfl ?_
       exact ⟨ff,bs HB⟩
theorem nV.calls (ag:ByteArray) (iw:Option Addr) (gV:Nat) (aK:List (dw)) (a1:Int) (a2:Int) (r:ByteArray) (w:World) (mR:Kd.C lG w iw aK.length aK) (mQ:aK.length≤gV) (H:nV.f ag aK a1 a2=some r) :
  Calls Tryz.prog 69 #[.agg #[.string ag,.slice iw aK.length gV],.int .i64 a1,.int .i64 a2] w fun e w'=>e=.returned (.string r)∧Below w.heap.size w w':=by
 have qR:=Tryz.underlying62;have mq:=am mR;have vT:=am mQ;clear mR mQ;have HB:=am (Below.refl w.heap.size w);unfold nV.f at H
 revert H;refine cB ?_ ?_
 ·intro dS H;obtain rfl:=si H
  go_in
  go_wp2_with (first|((with_reducible refine aN (N:=3) rfl ?_);(try (refine iM (by rfl) ?_;dsimp only));refine bz 3 (cs:=#[.string ag,.slice iw aK.length gV]) (t:=62) HB ?_;clear HB;intro oC hg w5 jI Kk hb HB;clear hb hg))
  go_ret
  exact ⟨ff,bs HB⟩
 ·intro dS H
  revert H;refine gz ?_ ?_
  ·intro c6 H;have gQ:decide ((aK.length:Int)≤a1)=true:=decide_eq_true c6;clear c6;obtain rfl:=si H
   go_in
   go_wp2_with (first|((with_reducible refine aN (N:=3) rfl ?_);(try (refine iM (by rfl) ?_;dsimp only));refine bz 3 (cs:=#[.string ag,.slice iw aK.length gV]) (t:=62) HB ?_;clear HB;intro oC hg w7 jI Kk hb HB;clear hb hg;have CR:=gG jI))
   go_ret
   exact ⟨ff,bs HB⟩
  ·intro c6 H;have gQ:decide ((aK.length:Int)≤a1)=false:=decide_eq_false c6;clear c6
   revert H;refine cB ?_ ?_
   ·intro nk H;obtain rfl:=si H
    go_in
    go_wp2_with (first|((with_reducible refine aN (N:=3) rfl ?_);(try (refine iM (by rfl) ?_;dsimp only));refine bz 3 (cs:=#[.string ag,.slice iw aK.length gV]) (t:=62) HB ?_;clear HB;intro oC hg DI jI Kk hb HB;clear hb hg;have Bd:=gG jI))
    go_ret
    exact ⟨ff,bs HB⟩
   ·intro nk H
    by_cases c12:0≤a1
    ·rw [if_pos c12] at H;have xG:decide (0≤a1)=true:=decide_eq_true c12;clear c12
     revert H;refine bu ?_
     intro lC H
     revert H;refine gz ?_ ?_
     ·intro c14 H;have oU:decide ((((aH aK a1).f0).length:Int)≤a2)=true:=decide_eq_true c14;clear c14;obtain rfl:=si H
      go_in
      go_wp2_with (first|((with_reducible refine aN (N:=3) rfl ?_);(try (refine iM (by rfl) ?_;dsimp only));refine bz 3 (cs:=#[.string ag,.slice iw aK.length gV]) (t:=62) HB ?_;clear HB;intro oC hg DJ jI Kk hb HB;clear hb hg;have EO:=gG jI;obtain ⟨p21,q21,af9,al7,aqz,e21,L6,Qy,Qd⟩:=wi (lZ mq.out a1);cases e21;replace L6:=cb HB L6;have anV:=am Qd;have am0:=am Qy;clear Qd Qy))
      go_ret
      exact ⟨ff,bs HB⟩
     ·intro c14 H;have oU:decide ((((aH aK a1).f0).length:Int)≤a2)=false:=decide_eq_false c14;clear c14
      revert H;refine bu ?_
      intro oo H
      revert H;refine bu ?_
      intro uT H;obtain rfl:=si H
      go_in
      go_wp2_with (first|((with_reducible refine aN (N:=3) rfl ?_);(try (refine iM (by rfl) ?_;dsimp only));refine bz 3 (cs:=#[.string ag,.slice iw aK.length gV]) (t:=62) HB ?_;clear HB;intro oC hg pG jI Kk hb HB;clear hb hg;have EP:=gG jI;obtain ⟨p21,q21,af9,al7,aqz,e21,L6,Qy,Qd⟩:=wi (lZ mq.out a1);cases e21;replace L6:=cb HB L6;have anV:=am Qd;have am0:=am Qy;clear Qd Qy;obtain ⟨p22,q22,apJ,azy,aAZ,e22,abZ,aix,ah5⟩:=wi (lZ mq.out a1);obtain rfl:af9=apJ:=(by injection e22);replace abZ:=cb HB abZ;have anW:=am ah5;have aAn:=am aix;clear ah5 aix;have ea_:=Option.some.inj (L6.symm.trans abZ);injection ea_ with ea_ en_ ec_;subst ea_;subst ec_;clear en_;obtain ⟨p24,q24,aAI,e24,ajM⟩:=wi (Kd.iZ anW.out a2);cases e24;replace ajM:=cb HB ajM))
      go_ret
      exact ⟨ff,bs HB⟩
    ·rw [if_neg c12] at H
     exact absurd H (by simp)
theorem jT.calls (k:Nat) (ag:ByteArray) (iw:Option Addr) (gV:Nat) (aK:List (dw)) (a1:Int) (r:Int) (w:World) (mR:Kd.C lG w iw aK.length aK) (mQ:aK.length≤gV) (H:jT.f k ag aK a1=some r) :
  Calls Tryz.prog 70 #[.agg #[.string ag,.slice iw aK.length gV],.int .i64 a1] w fun e w'=>e=.returned (.int .i64 r)∧Below w.heap.size w w':=by
 have qR:=Tryz.underlying62;have mq:=am mR;have vT:=am mQ;clear mR mQ;have HB:=am (Below.refl w.heap.size w);unfold jT.f at H;replace H:=bo H;obtain ⟨t12,A3,H⟩:=H;replace H:=bo H;obtain ⟨⟨t13,FW⟩,A4,H⟩:=H;(try dsimp only at H);obtain rfl:=si H
 go_in
 go_wp2_with (first|((with_reducible refine aN (N:=2) rfl ?_);refine bz 2 (cs:=#[.string ag,.slice iw aK.length gV]) (t:=62) HB ?_;clear HB;intro uo hg w5 eT Uv hb HB;clear hb hg;have as1:w5.cell? ⟨uo,0,none⟩=some (.string ag):=(az eT.out 0).trans rfl;have as2:w5.cell? ⟨uo,1,none⟩=some (.slice iw aK.length gV):=(az eT.out 1).trans rfl;have atm:=aV eT.out 0;have atn:=aV eT.out 1)|((go_at_call 69;(with_reducible refine (nV.calls ag _ _ aK a1 0 t12 _ (Kd.bJ mq.out (bs HB)) vT.out A3.out).mono ?_);rintro e w7 ⟨rfl,hb⟩);replace eT:=bb eT hb;replace HB:=bq HB hb;(try clear hb))|((go_at_call 107;(with_reducible refine (gL.calls k t12 t13 FW _ A4.out).mono ?_);rintro e w8 ⟨rfl,hb⟩);replace eT:=bb eT hb;replace HB:=bq HB hb;(try clear hb)))
 go_ret
 exact ⟨ff,bs HB⟩
end Go.Proofs.YtapilmimgiaglaaGreatDoor.QA
