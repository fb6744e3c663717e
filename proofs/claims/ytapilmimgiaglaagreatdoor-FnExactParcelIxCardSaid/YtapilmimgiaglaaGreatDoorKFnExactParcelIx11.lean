import Derived.Test.YtapilmimgiaglaaGreatDoorKFnExactParcelIx10
set_option maxHeartbeats 8000000
set_option maxRecDepth 100000
set_option linter.unusedSimpArgs false
set_option linter.unusedVariables false
namespace Go.Proofs.YtapilmimgiaglaaGreatDoor.QX
open Go.RowKit Go.Proofs.bB.eH Go.Proofs.bB.PrintLast Go.Proofs.bB.PrintMore
attribute [local go_sem] oU o5 oZ o8 oW o7 oV o6
def dL.RN:Bool × List (List Nat × List Nat):=(true,[([],[]),([],[]),([1],[1]),([2],[2]),([0,3],[0,3]),([4],[4]),([5],[5]),([5],[5]),([7,5],[5,7]),([6,8,5],[5,6,8]),([5,9],[5,9]),([10,5],[10]),([11],[11]),([11],[11]),([12,13,11],[11,12,13]),([14,11],[11,14]),([11],[11]),([16,11],[11,16]),([11],[11]),([17,18,11],[11,17,18]),([19,11],[11,19]),([15,20,11,11],[11,15,20]),([21,11],[11,21]),([11,22],[11,22])])
def dL.B21:List Nat:=[0,0,2,6,15,31,63,63,191,511,1023,2047,4095,4095,16383,32767,4095,69631,4095,462847,987135,2097151,4194303,8388607]
theorem dL.MK:fD .any (opsOf Tryz.f106 21)=dL.RN:=by kernel_rfl
theorem dL.Kg:jg dL.RN.2 dL.B21=true:=by kernel_rfl
theorem dL.calls (k:Nat)(a0 aI:ByteArray)(iD:Option Addr)(iy:Nat)(aT:List bN)(r:Int)(w:World)(vG:Kd.C jO w iD aT.length aT)(vF:aT.length≤iy)(H:dL.f k a0 aI aT=some r) :
  Calls Tryz.prog 106 #[.string a0,.agg #[.string aI,.slice iD aT.length iy]] w fun e w'=>e=.returned (.int .i64 r)∧Below w.heap.size w w':=by
 have r9:=Tryz.underlying62;have Dy:=Tryz.underlying97;have lU:=am vG;have qX:=am vF;clear vG vF;have HB:=am (Below.refl w.heap.size w);unfold dL.f at H
 revert H;refine gT ?_ ?_
 ·intro c3 H;have aY:decide (20000<(a0.size:Int))=true:=decide_eq_true c3;have dS:decide (20000<a0.size)=true:=decide_eq_true (by omega);clear c3;obtain rfl:=si H
  go_in
  go_wp2_with (first|((with_reducible refine aJ (N:=3) rfl ?_);(try (refine jc (by rfl) ?_;dsimp only));refine bz 3 (cs:=#[.string aI,.slice iD aT.length iy]) (t:=62) HB ?_;clear HB;intro xn hg w4 bC abL hb HB;clear hb hg))
  go_ret
  exact ⟨ff,bs HB⟩
 ·intro c3 H;have aY:decide (20000<(a0.size:Int))=false:=decide_eq_false c3;have dS:decide (20000<a0.size)=false:=decide_eq_false (by omega);clear c3;obtain ⟨y58,afs⟩:∃ y_:List Int,y_=(([]:List Int)):=⟨_,rfl⟩
  replace H:(dL.l0 k a0 y58 (-1) 0 aI aT)=some r:=ye afs H
  have aiK:=am afs;clear afs;have H':=am H;clear H
  go_in
  go_wp2_with (first|((with_reducible refine aJ (N:=3) rfl ?_);(try (refine jc (by rfl) ?_;dsimp only));refine bz 3 (cs:=#[.string aI,.slice iD aT.length iy]) (t:=62) HB ?_;clear HB;intro xn hg w5 bC abL hb HB;clear hb hg)|((with_reducible refine aJ (N:=13) rfl ?_);(try (refine jc (by rfl) ?_;dsimp only));refine rl (Kd.int .u8) 5 (N:=13) (xs:=([]:List Int)) (inner:=[]) ?hp ?_;(case hp=>exact (aV.none _ _));intro aMm w6 yt hb hg_ hnew_;clear hg_ hnew_;(first|rw [← aiK.o] at yt|(simp only [Int.reduceToNat] at yt;rw [← aiK.o] at yt));have aqy:=am (Kd.ic yt (bJ (bs HB)));replace bC:=bb bC hb;replace HB:=bq HB hb;clear hb yt))
  go_loopg [5,6,7] k (fun kq v5 v6 v7 w'=>∃ (ax:List Int) (dP:Int) (d9:Int),v6=.int .i64 dP∧v7=.int .i64 d9∧af (dL.l0 kq a0 ax dP d9 aI aT=some r)∧af (kq≤k)∧af (Kd.R (Kd.int .u8) 5 w' w.heap.size (fun _=>True) v5 ax)∧af (w'.heap[xn]? = some (.cells #[.string aI,(.slice iD aT.length iy)] 62 (0,0)))∧af (Below w.heap.size w w'))
  case atStart=>exact ⟨(y58),((-1)),(0),fg,fg,H',⟨Nat.le_refl _⟩,⟨rz aqy.o⟩,⟨ks bC⟩,⟨bs HB⟩⟩
  case round =>
   clear H'
   try clear c3
   try clear aY
   try clear dS
   try clear bC
   obtain ⟨ax,dP,d9,rfl,rfl,HA,aQ,bU,bC,HB⟩:=hrel
   cases gk with
   | zero=>exact absurd HA.o (by simp [dL.l0])
   | succ k1 =>
    have H:=HA.o;clear HA;simp only [dL.l0] at H
    revert H;refine bK ?_ ?_
    ·intro kr H
     revert H;refine bv ?_
     intro nN H
     revert H;refine bH ?_ ?_
     ·intro xh EO H
      revert H;refine gT ?_ ?_
      ·intro c12 H;have zk:decide (0≤dP)=true:=decide_eq_true c12;clear c12;obtain rfl:=si H;have jT:0≤(d9:Int):=oa;have jP:d9<(a0.size:Int):=oa;have Ff:=gX a0 d9;replace jT:=eq_true jT;replace jP:=eq_true jP
       go_wp2
       go_ret
       exact ⟨ff,bs HB⟩
      ·intro c12 H;have zk:decide (0≤dP)=false:=decide_eq_false c12;clear c12;have H':=am H;clear H;have jT:0≤(d9:Int):=oa;have jP:d9<(a0.size:Int):=oa;have Ff:=gX a0 d9;replace jT:=eq_true jT;replace jP:=eq_true jP;obtain ⟨Gt,Hl,Og⟩:=Kd.gW bU.o;subst Og
       go_wp2
       go_roundg k1
       case measure=>have:=aQ.o;omega
       case rel=>exact ⟨(ax),((ax.length:Int)),(wrap64 (d9+1)),fg,fg,H',⟨by have:=aQ.o;omega⟩,⟨rz bU.o⟩,⟨ks bC⟩,⟨bs HB⟩⟩
     ·intro c11 xh EO H
      revert H;refine bH ?_ ?_
      ·intro ry N8 H
       revert H;refine ku ?_
       intro c15 H;have arl:=am c15;clear c15;obtain ⟨y59,afv⟩:∃ y_:List Int,y_=(ax++[bt a0 d9]):=⟨_,rfl⟩
       replace H:(dL.l0 k1 a0 y59 dP (wrap64 (d9+1)) aI aT)=some r:=ye afv H
       have asf:=am afv;clear afv;have H':=am H;clear H;have jT:0≤(d9:Int):=oa;have jP:d9<(a0.size:Int):=oa;have Ff:=gX a0 d9;replace jT:=eq_true jT;replace jP:=eq_true jP
       go_wp2_with (first|((with_reducible refine rY (b:=.append) (xs:=#[.tmp 51,.tmp 53]) rfl ?_);(try (refine jc (by rfl) ?_;dsimp only));at_builtin;refine Kd.uy (Kd.int .u8) (w0:=w) w.heap.size rfl (.tmp 51) (.tmp 53) 124 5 (.int .u8 0) 1 rfl Tryz.underlying124 info5 rfl (by decide) (by omega) u5 ax (bt a0 d9) [.int .u8 (bt a0 d9)] (fun _=>True) (fun _=>False) rfl rfl ?aP (fun _ hk=>hk.elim) ?aF ?aO ?aB ?aS ?aL ?_;(case aP=>exact rfl);(case aB=>exact (bs HB));(case aF=>exact (fun _ _=>trivial));(case aO=>exact (rs bU));(case aS=>exact (bJ (bs HB)));(case aL=>have:=arl.o;omega);intro aMn w16 ho hb hg hat;rw [← asf.o] at ho;replace bC:=am (fV (ks bC) hg (Kd.ko bU.o bC.o (by decide)));replace HB:=am (hb);have aqz:=am (ho);clear bU;clear ho hb hg hat))
       go_roundg k1
       case measure=>have:=aQ.o;omega
       case rel=>exact ⟨(y59),(dP),(wrap64 (d9+1)),fg,fg,H',⟨by have:=aQ.o;omega⟩,⟨rz aqz.o⟩,⟨ks bC⟩,⟨bs HB⟩⟩
      ·intro c14 ry N8 H
       revert H;refine bH ?_ ?_
       ·intro qD Dp H
        revert H;refine ku ?_
        intro c18 H;have arn:=am c18;clear c18;obtain ⟨y60,afx⟩:∃ y_:List Int,y_=(ax++[bt a0 d9]):=⟨_,rfl⟩
        replace H:(dL.l0 k1 a0 y60 dP (wrap64 (d9+1)) aI aT)=some r:=ye afx H
        have ash:=am afx;clear afx;have H':=am H;clear H;have jT:0≤(d9:Int):=oa;have jP:d9<(a0.size:Int):=oa;have Ff:=gX a0 d9;replace jT:=eq_true jT;replace jP:=eq_true jP
        go_wp2_with (first|((with_reducible refine rY (b:=.append) (xs:=#[.tmp 51,.tmp 53]) rfl ?_);(try (refine jc (by rfl) ?_;dsimp only));at_builtin;refine Kd.uy (Kd.int .u8) (w0:=w) w.heap.size rfl (.tmp 51) (.tmp 53) 124 5 (.int .u8 0) 1 rfl Tryz.underlying124 info5 rfl (by decide) (by omega) u5 ax (bt a0 d9) [.int .u8 (bt a0 d9)] (fun _=>True) (fun _=>False) rfl rfl ?aP (fun _ hk=>hk.elim) ?aF ?aO ?aB ?aS ?aL ?_;(case aP=>exact rfl);(case aB=>exact (bs HB));(case aF=>exact (fun _ _=>trivial));(case aO=>exact (rs bU));(case aS=>exact (bJ (bs HB)));(case aL=>have:=arn.o;omega);intro aMo pz ho hb hg hat;rw [← ash.o] at ho;replace bC:=am (fV (ks bC) hg (Kd.ko bU.o bC.o (by decide)));replace HB:=am (hb);have Yc:=am (ho);clear bU;clear ho hb hg hat))
        go_roundg k1
        case measure=>have:=aQ.o;omega
        case rel=>exact ⟨(y60),(dP),(wrap64 (d9+1)),fg,fg,H',⟨by have:=aQ.o;omega⟩,⟨rz Yc.o⟩,⟨ks bC⟩,⟨bs HB⟩⟩
       ·intro c17 qD Dp H
        revert H;refine bH ?_ ?_
        ·intro vY Si H
         revert H;refine ku ?_
         intro c21 H;have aro:=am c21;clear c21;obtain ⟨y61,afz⟩:∃ y_:List Int,y_=(ax++[bt a0 d9]):=⟨_,rfl⟩
         replace H:(dL.l0 k1 a0 y61 dP (wrap64 (d9+1)) aI aT)=some r:=ye afz H
         have asj:=am afz;clear afz;have H':=am H;clear H;have jT:0≤(d9:Int):=oa;have jP:d9<(a0.size:Int):=oa;have Ff:=gX a0 d9;replace jT:=eq_true jT;replace jP:=eq_true jP
         go_wp2_with (first|((with_reducible refine rY (b:=.append) (xs:=#[.tmp 51,.tmp 53]) rfl ?_);(try (refine jc (by rfl) ?_;dsimp only));at_builtin;refine Kd.uy (Kd.int .u8) (w0:=w) w.heap.size rfl (.tmp 51) (.tmp 53) 124 5 (.int .u8 0) 1 rfl Tryz.underlying124 info5 rfl (by decide) (by omega) u5 ax (bt a0 d9) [.int .u8 (bt a0 d9)] (fun _=>True) (fun _=>False) rfl rfl ?aP (fun _ hk=>hk.elim) ?aF ?aO ?aB ?aS ?aL ?_;(case aP=>exact rfl);(case aB=>exact (bs HB));(case aF=>exact (fun _ _=>trivial));(case aO=>exact (rs bU));(case aS=>exact (bJ (bs HB)));(case aL=>have:=aro.o;omega);intro aMp CK ho hb hg hat;rw [← asj.o] at ho;replace bC:=am (fV (ks bC) hg (Kd.ko bU.o bC.o (by decide)));replace HB:=am (hb);have aqG:=am (ho);clear bU;clear ho hb hg hat))
         go_roundg k1
         case measure=>have:=aQ.o;omega
         case rel=>exact ⟨(y61),(dP),(wrap64 (d9+1)),fg,fg,H',⟨by have:=aQ.o;omega⟩,⟨rz aqG.o⟩,⟨ks bC⟩,⟨bs HB⟩⟩
        ·intro c20 vY Si H
         revert H;refine bH ?_ ?_
         ·intro G9 adp H
          revert H;refine ku ?_
          intro c24 H;have arp:=am c24;clear c24;obtain ⟨y63,afB⟩:∃ y_:List Int,y_=(ax++[bt a0 d9]):=⟨_,rfl⟩
          replace H:(dL.l0 k1 a0 y63 dP (wrap64 (d9+1)) aI aT)=some r:=ye afB H
          have asl:=am afB;clear afB;have H':=am H;clear H;have jT:0≤(d9:Int):=oa;have jP:d9<(a0.size:Int):=oa;have Ff:=gX a0 d9;replace jT:=eq_true jT;replace jP:=eq_true jP
          go_wp2_with (first|((with_reducible refine rY (b:=.append) (xs:=#[.tmp 51,.tmp 53]) rfl ?_);(try (refine jc (by rfl) ?_;dsimp only));at_builtin;refine Kd.uy (Kd.int .u8) (w0:=w) w.heap.size rfl (.tmp 51) (.tmp 53) 124 5 (.int .u8 0) 1 rfl Tryz.underlying124 info5 rfl (by decide) (by omega) u5 ax (bt a0 d9) [.int .u8 (bt a0 d9)] (fun _=>True) (fun _=>False) rfl rfl ?aP (fun _ hk=>hk.elim) ?aF ?aO ?aB ?aS ?aL ?_;(case aP=>exact rfl);(case aB=>exact (bs HB));(case aF=>exact (fun _ _=>trivial));(case aO=>exact (rs bU));(case aS=>exact (bJ (bs HB)));(case aL=>have:=arp.o;omega);intro aMq Je ho hb hg hat;rw [← asl.o] at ho;replace bC:=am (fV (ks bC) hg (Kd.ko bU.o bC.o (by decide)));replace HB:=am (hb);have aqH:=am (ho);clear bU;clear ho hb hg hat))
          go_roundg k1
          case measure=>have:=aQ.o;omega
          case rel=>exact ⟨(y63),(dP),(wrap64 (d9+1)),fg,fg,H',⟨by have:=aQ.o;omega⟩,⟨rz aqH.o⟩,⟨ks bC⟩,⟨bs HB⟩⟩
         ·intro c23 G9 adp H
          revert H;refine bH ?_ ?_
          ·intro Sk atG H
           revert H;refine ku ?_
           intro yl H;have art:=am yl;clear yl;obtain ⟨y65,afC⟩:∃ y_:List Int,y_=(ax++[bt a0 d9]):=⟨_,rfl⟩
           replace H:(dL.l0 k1 a0 y65 dP (wrap64 (d9+1)) aI aT)=some r:=ye afC H
           have asn:=am afC;clear afC;have H':=am H;clear H;have jT:0≤(d9:Int):=oa;have jP:d9<(a0.size:Int):=oa;have Ff:=gX a0 d9;replace jT:=eq_true jT;replace jP:=eq_true jP
           go_wp2_with (first|((with_reducible refine rY (b:=.append) (xs:=#[.tmp 51,.tmp 53]) rfl ?_);(try (refine jc (by rfl) ?_;dsimp only));at_builtin;refine Kd.uy (Kd.int .u8) (w0:=w) w.heap.size rfl (.tmp 51) (.tmp 53) 124 5 (.int .u8 0) 1 rfl Tryz.underlying124 info5 rfl (by decide) (by omega) u5 ax (bt a0 d9) [.int .u8 (bt a0 d9)] (fun _=>True) (fun _=>False) rfl rfl ?aP (fun _ hk=>hk.elim) ?aF ?aO ?aB ?aS ?aL ?_;(case aP=>exact rfl);(case aB=>exact (bs HB));(case aF=>exact (fun _ _=>trivial));(case aO=>exact (rs bU));(case aS=>exact (bJ (bs HB)));(case aL=>have:=art.o;omega);intro aMr MO ho hb hg hat;rw [← asn.o] at ho;replace bC:=am (fV (ks bC) hg (Kd.ko bU.o bC.o (by decide)));replace HB:=am (hb);have aqI:=am (ho);clear bU;clear ho hb hg hat))
           go_roundg k1
           case measure=>have:=aQ.o;omega
           case rel=>exact ⟨(y65),(dP),(wrap64 (d9+1)),fg,fg,H',⟨by have:=aQ.o;omega⟩,⟨rz aqI.o⟩,⟨ks bC⟩,⟨bs HB⟩⟩
          ·intro c26 Sk atG H
           revert H;refine bH ?_ ?_
           ·intro Ku atK H
            revert H;refine ku ?_
            intro c30 H;have arv:=am c30;clear c30;obtain ⟨y66,K9⟩:∃ y_:List Int,y_=(ax++[bt a0 d9]):=⟨_,rfl⟩
            replace H:(dL.l0 k1 a0 y66 dP (wrap64 (d9+1)) aI aT)=some r:=ye K9 H
            have Yo:=am K9;clear K9;have H':=am H;clear H;have jT:0≤(d9:Int):=oa;have jP:d9<(a0.size:Int):=oa;have Ff:=gX a0 d9;replace jT:=eq_true jT;replace jP:=eq_true jP
            go_wp2_with (first|((with_reducible refine rY (b:=.append) (xs:=#[.tmp 51,.tmp 53]) rfl ?_);(try (refine jc (by rfl) ?_;dsimp only));at_builtin;refine Kd.uy (Kd.int .u8) (w0:=w) w.heap.size rfl (.tmp 51) (.tmp 53) 124 5 (.int .u8 0) 1 rfl Tryz.underlying124 info5 rfl (by decide) (by omega) u5 ax (bt a0 d9) [.int .u8 (bt a0 d9)] (fun _=>True) (fun _=>False) rfl rfl ?aP (fun _ hk=>hk.elim) ?aF ?aO ?aB ?aS ?aL ?_;(case aP=>exact rfl);(case aB=>exact (bs HB));(case aF=>exact (fun _ _=>trivial));(case aO=>exact (rs bU));(case aS=>exact (bJ (bs HB)));(case aL=>have:=arv.o;omega);intro aMs MP ho hb hg hat;rw [← Yo.o] at ho;replace bC:=am (fV (ks bC) hg (Kd.ko bU.o bC.o (by decide)));replace HB:=am (hb);have aqJ:=am (ho);clear bU;clear ho hb hg hat))
            go_roundg k1
            case measure=>have:=aQ.o;omega
            case rel=>exact ⟨(y66),(dP),(wrap64 (d9+1)),fg,fg,H',⟨by have:=aQ.o;omega⟩,⟨rz aqJ.o⟩,⟨ks bC⟩,⟨bs HB⟩⟩
           ·intro vz Ku atK H;obtain rfl:=si H;have jT:0≤(d9:Int):=oa;have jP:d9<(a0.size:Int):=oa;have Ff:=gX a0 d9;replace jT:=eq_true jT;replace jP:=eq_true jP
            go_wp2
            go_ret
            exact ⟨ff,bs HB⟩
    ·intro kr H;have ab1:=am H;clear H
     go_upto_if 56 with (fail)
     go_cut [6] (fun v6 wc=>∃ (kq:Nat) (QI:Int),v6=.int .i64 QI∧af (dL.j1 kq ax QI aI aT=some r)∧af (kq≤k1)∧af (Kd.R (Kd.int .u8) 5 wc w.heap.size (fun _=>True) u5 ax)∧af (wc.heap[xn]? = some (.cells #[.string aI,(.slice iD aT.length iy)] 62 (0,0)))∧af (Below w.heap.size w wc))
     case first =>
      have H:=ab1.o;clear ab1
      revert H;refine bK ?_ ?_
      ·intro ES H
       (first|rw [ES]|(simp only [fC,gK];rw [ES])|skip)
       have H':=am H;clear H;obtain ⟨api,aut,adS⟩:=Kd.gW bU.o;subst adS
       go_wp2
       go_meet
       case rel=>exact ⟨_,((ax.length:Int)),fg,H',⟨by have:=aQ.o;first|omega|exact Nat.le_refl _⟩,⟨rz bU.o⟩,⟨ks bC⟩,⟨bs HB⟩⟩
      ·intro ES H
       (first|rw [ES]|(simp only [fC,gK];rw [ES])|skip)
       have H':=am H;clear H
       go_wp2
       go_meet
       case rel=>exact ⟨_,(dP),fg,H',⟨by have:=aQ.o;first|omega|exact Nat.le_refl _⟩,⟨rz bU.o⟩,⟨ks bC⟩,⟨bs HB⟩⟩
     case rest =>
      clear ab1
      try clear c3
      try clear aY
      try clear dS
      try clear kr
      obtain ⟨kq,QI,rfl,HA,XY,bU,bC,HB⟩:=hcut
      cases kq with
      | zero=>exact absurd HA.o (by simp [dL.j1])
      | succ ana =>
       have H:=HA.o;clear HA;simp only [dL.j1] at H;have H':=am H;clear H
       go_wp2
       go_loopg [9] ana (fun kq v9 w'=>∃ (rJ:Int),v9=.int .i64 rJ∧af (dL.l1 kq ax QI rJ aI aT=some r)∧af (kq≤ana)∧af (Kd.R (Kd.int .u8) 5 w' w.heap.size (fun _=>True) u5 ax)∧af (w'.heap[xn]? = some (.cells #[.string aI,(.slice iD aT.length iy)] 62 (0,0)))∧af (Below w.heap.size w w'))
       case atStart=>exact ⟨(0),fg,H',⟨Nat.le_refl _⟩,⟨rz bU.o⟩,⟨ks bC⟩,⟨bs HB⟩⟩
       case round =>
        clear H'
        try clear c3
        try clear aY
        try clear dS
        try clear kr
        try clear bC
        obtain ⟨rJ,rfl,HA,rU,bU,bC,HB⟩:=hrel
        cases gk with
        | zero=>exact absurd HA.o (by simp [dL.l1])
        | succ k3 =>
         have H:=HA.o;clear HA;simp only [dL.l1] at H;have ab2:=am H;clear H
         go_upto_region 19 with (fail)
         go_cut [68] (fun v68 wc=>∃ (kq:Nat) (abw:Bool),v68=.bool abw∧af (dL.j3 kq ax QI rJ abw aI aT=some r)∧af (kq≤k3)∧af (Kd.R (Kd.int .u8) 5 wc w.heap.size (fun _=>True) u5 ax)∧af (wc.heap[xn]? = some (.cells #[.string aI,(.slice iD aT.length iy)] 62 (0,0)))∧af (Below w.heap.size w wc))
         case first =>
          have H:=ab2.o;clear ab2
          revert H;refine bK ?_ ?_
          ·intro wm H
           (first|rw [wm]|(simp only [fC,gK];rw [wm])|skip)
           have H':=am H;clear H;have aec:=fM bC
           go_wp2
           go_meet
           case rel=>exact ⟨_,(true),fg,H',⟨by have:=aQ.o;have:=XY.o;have:=rU.o;first|omega|exact Nat.le_refl _⟩,⟨rz bU.o⟩,⟨ks bC⟩,⟨bs HB⟩⟩
          ·intro wm H
           (first|rw [wm]|(simp only [fC,gK];rw [wm])|skip)
           have H':=am H;clear H;have KS:=fM bC
           go_wp2
           go_meet
           case rel=>exact ⟨_,(decide (rJ<QI)),fg,H',⟨by have:=aQ.o;have:=XY.o;have:=rU.o;first|omega|exact Nat.le_refl _⟩,⟨rz bU.o⟩,⟨ks bC⟩,⟨bs HB⟩⟩
         case rest =>
          clear ab2
          try clear c3
          try clear aY
          try clear dS
          try clear kr
          obtain ⟨kq,abw,rfl,HA,ahR,bU,bC,HB⟩:=hcut
          cases kq with
          | zero=>exact absurd HA.o (by simp [dL.j3])
          | succ afR =>
           have H:=HA.o;clear HA;simp only [dL.j3] at H
           obtain rfl|rfl:=bt abw
           ·replace H:=dm H
            revert H;refine gT ?_ ?_
            ·intro c40 H;have BH:decide ((aT.length:Int)≤rJ)=true:=decide_eq_true c40;clear c40;obtain rfl:=si H
             try go_wp2
             replace bU:=am (Kd.eO bU.o);replace bC:=am (bD bC.o);replace HB:=am (cZ HB.o);refine gD 24 (hb2 bC) (fun hHeld=>?_);refine fu dL.MK dL.Kg (fun HT_ HW_=>?_)
             generalize wc.drew=w41 at bU bC HB hHeld ⊢
             refine jU 0 ?_;refine ta 2 ?_;refine mF 3 ?_;refine mF 11 ?_;refine jV 19 ?_;refine bQ 23 ?_;refine ek (fo HT_.o (by kernel_rfl)) ?_
             try go_wp2
             go_ret
             exact ⟨ff,bs HB⟩
            ·intro c40 H;have BH:decide ((aT.length:Int)≤rJ)=false:=decide_eq_false c40;clear c40
             revert H;refine gT ?_ ?_
             ·intro Oa H;have Ob:decide ((ax.length:Int)≤rJ)=true:=decide_eq_true Oa;clear Oa;obtain rfl:=si H
              try go_wp2
              replace bU:=am (Kd.eO bU.o);replace bC:=am (bD bC.o);replace HB:=am (cZ HB.o);obtain ⟨ahx,ajY,S9⟩:=Kd.gW bU.o
              (first|subst S9|(injection S9 with fO jy fP;have jA:=fO.symm;have jB:=fP.symm;clear fO jy fP;subst jA;subst jB))
              refine gD 24 (hb2 bC) (fun hHeld=>?_);refine fu dL.MK dL.Kg (fun HT_ HW_=>?_)
              generalize wc.drew=Qe at bU bC HB hHeld ⊢
              refine jU 0 ?_;refine ta 2 ?_;refine mF 3 ?_;refine mF 11 ?_;refine jV 19 ?_;refine bQ 23 ?_;refine ek (fo HT_.o (by kernel_rfl)) ?_
              try go_wp2
              go_ret
              exact ⟨ff,bs HB⟩
             ·intro Oa H;have Ob:decide ((ax.length:Int)≤rJ)=false:=decide_eq_false Oa;clear Oa
              revert H;refine bv ?_
              intro adv H
              revert H;refine bv ?_
              intro Oc H
              revert H;refine bv ?_
              intro aED H;replace H:=bo H;obtain ⟨agG,A48,H⟩:=H
              obtain rfl|rfl:=bt agG
              ·replace H:=dm H;have H':=am H;clear H
               try go_wp2
               replace bU:=am (Kd.eO bU.o);replace bC:=am (bD bC.o);replace HB:=am (cZ HB.o);obtain ⟨QZ,SI,Tc⟩:=Kd.gW bU.o
               (first|subst Tc|(injection Tc with fO jy fP;have jA:=fO.symm;have jB:=fP.symm;clear fO jy fP;subst jA;subst jB))
               obtain ⟨p57,q57,RV,e57,yA⟩:=wi (Kd.ajj (Kd.dH bU.o).2.2 rJ)
               cases e57
               obtain ⟨p49,q49,asW,abH,adw,e49,Fz,Uy,TY⟩:=wi (lN lU.o rJ);have Vq:=Fz
               cases e49
               replace Fz:=cb HB Fz;have Ro:=am TY;have ab7:=am Uy;clear TY Uy;refine gD 24 (KJ bC (aC yA (hc (cb HB Vq)))) (fun hHeld=>?_);refine fu dL.MK dL.Kg (fun HT_ HW_=>?_)
               generalize wc.drew=WY at bU bC HB Ro yA Fz hHeld ⊢
               refine jU 0 ?_;refine ta 2 ?_;refine mF 3 ?_;refine jV 11 ?_;refine bQ 16 ?_;refine bQ 18 ?_;refine ta 15 ?_;refine ta 17 ?_;refine bQ 19 ?_;refine ta 20 ?_;refine oA 21 92 HT_ (fun K hK=>?_);refine gA Tryz.func131 #[.int .u8 (rd ax rJ),.agg #[.slice abH ((aK aT rJ).f0).length adw]] ?_;(with_reducible refine (AP.calls afR (rd ax rJ) _ _ ((aK aT rJ).f0) true _ ?aR ?bg A48.o).mono ?_)
               (case aR=>exact sd (Kd.bi Ro.o HB.o))
               (case bg=>exact ab7.o)
               rintro e w52 ⟨rfl,hb⟩;have JI:=(hb.cell (World.block_lt_of_cell? _ _ (hHeld.2.2.1))).trans (hHeld.2.2.1);refine ⟨_,rfl,?_⟩;replace bU:=am (Kd.cu (rs bU) hb);replace bC:=bb bC hb;replace HB:=bq HB hb;(try clear hb);refine hK.out _ _ (anK bC ⟨JI,((cb HB Vq).trans rfl)⟩) (fun hHeld=>?_);clear hK K;refine nA 92 ?_;refine jU 22 ?_;refine ek (fo HT_.o (by kernel_rfl)) ?_
               try go_wp2
               go_roundg afR
               case measure=>have:=aQ.o;have:=XY.o;have:=rU.o;have:=ahR.o;omega
               case rel=>exact ⟨(wrap64 (rJ+1)),fg,H',⟨by have:=aQ.o;have:=XY.o;have:=rU.o;have:=ahR.o;omega⟩,⟨rz bU.o⟩,⟨ks bC⟩,⟨bs HB⟩⟩
              ·replace H:=di H;obtain rfl:=si H
               try go_wp2
               replace bU:=am (Kd.eO bU.o);replace bC:=am (bD bC.o);replace HB:=am (cZ HB.o);obtain ⟨ahy,ajZ,Td⟩:=Kd.gW bU.o
               (first|subst Td|(injection Td with fO jy fP;have jA:=fO.symm;have jB:=fP.symm;clear fO jy fP;subst jA;subst jB))
               obtain ⟨p57,q57,RV,e57,yA⟩:=wi (Kd.ajj (Kd.dH bU.o).2.2 rJ)
               cases e57
               obtain ⟨p49,q49,asW,abH,adw,e49,Fz,Uy,TY⟩:=wi (lN lU.o rJ);have Vq:=Fz
               cases e49
               replace Fz:=cb HB Fz;have Ro:=am TY;have ab7:=am Uy;clear TY Uy;refine gD 24 (KJ bC (aC yA (hc (cb HB Vq)))) (fun hHeld=>?_);refine fu dL.MK dL.Kg (fun HT_ HW_=>?_)
               generalize wc.drew=w53 at bU bC HB Ro yA Fz hHeld ⊢
               refine jU 0 ?_;refine ta 2 ?_;refine mF 3 ?_;refine jV 11 ?_;refine bQ 16 ?_;refine bQ 18 ?_;refine ta 15 ?_;refine ta 17 ?_;refine bQ 19 ?_;refine ta 20 ?_;refine oA 21 92 HT_ (fun K hK=>?_);refine gA Tryz.func131 #[.int .u8 (rd ax rJ),.agg #[.slice abH ((aK aT rJ).f0).length adw]] ?_;(with_reducible refine (AP.calls afR (rd ax rJ) _ _ ((aK aT rJ).f0) false _ ?aR ?bg A48.o).mono ?_)
               (case aR=>exact sd (Kd.bi Ro.o HB.o))
               (case bg=>exact ab7.o)
               rintro e w55 ⟨rfl,hb⟩;have JI:=(hb.cell (World.block_lt_of_cell? _ _ (hHeld.2.2.1))).trans (hHeld.2.2.1);refine ⟨_,rfl,?_⟩;replace bU:=am (Kd.cu (rs bU) hb);replace bC:=bb bC hb;replace HB:=bq HB hb;(try clear hb);refine hK.out _ _ (anK bC ⟨JI,((cb HB Vq).trans rfl)⟩) (fun hHeld=>?_);clear hK K;refine nA 92 ?_;refine jU 22 ?_;refine ek (fo HT_.o (by kernel_rfl)) ?_
               try go_wp2
               go_ret
               exact ⟨ff,bs HB⟩
           ·replace H:=di H;obtain rfl:=si H
            go_wp2
            go_ret
            exact ⟨ff,bs HB⟩
def eu.RL:Bool × List (List Nat × List Nat):=(true,[([],[]),([],[]),([],[]),([1,2],[1,2]),([3],[3]),([4],[4]),([0,5],[0,5]),([6],[6]),([7],[7]),([7],[7]),([9,7],[7,9]),([8,10,7],[7,8,10]),([7,11],[7,11]),([12,7],[12]),([13],[13]),([13],[13]),([14,15,13],[13,14,15]),([16,13],[13,16]),([17,13],[13,17]),([13],[13]),([13],[13]),([19,20,13],[13,19,20]),([21,13],[13,21]),([22,13],[13,22]),([18,23,13],[13,18,23]),([13,24],[13,24])])
def eu.B11:List Nat:=[0,0,0,6,14,30,63,127,255,255,767,2047,4095,8191,16383,16383,65535,131071,262143,16383,16383,1589247,3686399,7880703,16777215,33554431]
theorem eu.WS:fD .any (opsOf Tryz.f68 11)=eu.RL:=by kernel_rfl
theorem eu.R5:jg eu.RL.2 eu.B11=true:=by kernel_rfl
def eu.u7:Bool × List (List Nat × List Nat):=(true,[([],[]),([],[]),([0,1],[0,1]),([2],[2]),([3],[3]),([],[]),([],[]),([5,6],[5,6]),([7],[7]),([4,8],[4,8]),([9,9,0,1,2,3,4,5,6,7,8,9],[9])])
def eu.Bf:List Nat:=[0,0,3,7,15,0,0,96,224,511,1023]
theorem eu.yI:fD .any (opsOf Tryz.f68 12)=eu.u7:=by kernel_rfl
theorem eu.yf:jg eu.u7.2 eu.Bf=true:=by kernel_rfl
def eu.RN:Bool × List (List Nat × List Nat):=(true,[([],[]),([],[]),([0,1],[0,1]),([2],[2]),([3],[3]),([],[]),([],[]),([6],[6]),([7],[7]),([5,8],[5,8]),([9],[9]),([10],[10]),([4,11],[4,11])])
def eu.B21:List Nat:=[0,0,3,7,15,0,0,64,192,480,992,2016,4095]
theorem eu.MK:fD .any (opsOf Tryz.f68 21)=eu.RN:=by kernel_rfl
theorem eu.Kg:jg eu.RN.2 eu.B21=true:=by kernel_rfl
theorem eu.calls (k:Nat)(a0:Int)(A1:Option Addr)(c1:Nat)(l1:List bn)(r1 r2 r3:Int)(w:World)(hr1:Kd.C kP w A1 l1.length l1)(hc1:l1.length≤c1)(H:eu.f k a0 l1=some (r1,r2,r3)) :
  Calls Tryz.prog 68 #[.int .i64 a0,.slice A1 l1.length c1] w fun e w'=>e=.returned (.agg #[.int .i64 r1,.int .i64 r2,.int .i64 r3])∧Below w.heap.size w w':=by
 have amt:=Tryz.underlying78;have r9:=Tryz.underlying62;have HR1:=am hr1;have uY:=am hc1;clear hr1 hc1;have HB:=am (Below.refl w.heap.size w);unfold eu.f at H
 revert H;refine gT ?_ ?_
 ·intro c3 H;have aY:decide (400<(l1.length:Int))=true:=decide_eq_true c3;have dS:decide (400<l1.length)=true:=decide_eq_true (by omega);clear c3;replace H:=yF H;obtain ⟨rfl,rfl,rfl⟩:=H
  go_in
  go_wp2_with (first|((with_reducible refine aJ (N:=4) rfl ?_);(try (refine jc (by rfl) ?_;dsimp only));refine bz 4 (cs:=#[.int .i64 0,.int .i64 0,.int .i64 0]) (t:=78) HB ?_;clear HB;intro ym hg w4 bT ahJ hb HB;clear hb hg;have BQ:=lH bT))
  refine bodyPost_ret (results_cell_row rfl _ _ ym 78 #[.int .i64 0,.int .i64 0,.int .i64 2] (0,0) _ rfl (kp bT) Tryz.underlying78 rfl (by kernel_rfl)) rfl ?_
  exact ⟨ff,bs HB⟩
 ·intro c3 H;have aY:decide (400<(l1.length:Int))=false:=decide_eq_false c3;have dS:decide (400<l1.length)=false:=decide_eq_false (by omega);clear c3;replace H:=bo H;obtain ⟨t72,A6,H⟩:=H
  go_in
  try go_wp2_with (first|((with_reducible refine aJ (N:=4) rfl ?_);(try (refine jc (by rfl) ?_;dsimp only));refine bz 4 (cs:=#[.int .i64 0,.int .i64 0,.int .i64 0]) (t:=78) HB ?_;clear HB;intro ym hg w7 bT ahJ hb HB;clear hb hg))
  go_at_call 105;refine (vL.calls k a0 t72 _ A6.o).mono ?_;rintro e w8 ⟨v81,rfl,ho0,hb⟩;have Rb:=am (Kd.ic ho0 (bJ (bs HB)));replace bT:=bb bT hb;replace HB:=bq HB hb;(try clear hb);(try clear ho0)
  revert H;refine bH ?_ ?_
  ·intro nN EW H;replace H:=yF H;obtain ⟨rfl,rfl,rfl⟩:=H;obtain ⟨ahm,SC,KE⟩:=Kd.gW Rb.o;subst KE;have zq:=lH bT
   go_wp2
   refine bodyPost_ret (results_cell_row rfl _ _ ym 78 #[.int .i64 0,.int .i64 0,.int .i64 1] (0,0) _ rfl (kp bT) Tryz.underlying78 rfl (by kernel_rfl)) rfl ?_
   exact ⟨ff,bs HB⟩
  ·intro c9 nN EW H
   have ajM:¬ (t72=[]):=fun h_=>c9 (by rw [h_];rfl)
   have H':=am H;clear H;obtain ⟨Jy,KD,adQ⟩:=Kd.gW Rb.o;subst adQ
   go_wp2
   go_loopg [6,7] k (fun kq v6 v7 w'=>∃ (dP:Int) (d9:Int) (ag4:Int) (ag5:Int) (ag6:Int),v6=.int .i64 dP∧v7=.int .i64 d9∧af (eu.l0 kq l1 t72 dP d9=some (r1,r2,r3))∧af (kq≤k)∧af (Kd.R iR 111 w' w.heap.size (fun _=>True) (.slice Jy t72.length KD) t72)∧af (w'.heap[ym]? = some (.cells #[.int .i64 ag4,.int .i64 ag5,.int .i64 ag6] 78 (0,0)))∧af (Below w.heap.size w w'))
   case atStart=>exact ⟨(0),(0),(0),(0),(0),fg,fg,H',⟨Nat.le_refl _⟩,⟨rz Rb.o⟩,⟨ks bT⟩,⟨bs HB⟩⟩
   case round =>
    clear H'
    try clear c1
    try clear c3
    try clear aY
    try clear dS
    try clear c9
    try clear nN
    try clear EW
    try clear ajM
    try clear bT
    obtain ⟨dP,d9,ag4,ag5,ag6,rfl,rfl,HA,aQ,bU,bT,HB⟩:=hrel
    cases gk with
    | zero=>exact absurd HA.o (by simp [eu.l0])
    | succ k1 =>
     have H:=HA.o;clear HA;simp only [eu.l0] at H
     revert H;refine bK ?_ ?_
     ·intro mq H;have H':=am H;clear H
      go_wp2
      go_loopg [6,8] k1 (fun kq v6 v8 w'=>∃ (pF:Int) (XC:Int) (Xw:Int) (XA:Int) (XB:Int),v6=.int .i64 pF∧v8=.int .i64 XC∧af (eu.l1 kq l1 t72 pF d9 XC=some (r1,r2,r3))∧af (kq≤k1)∧af (Kd.R iR 111 w' w.heap.size (fun _=>True) (.slice Jy t72.length KD) t72)∧af (w'.heap[ym]? = some (.cells #[.int .i64 Xw,.int .i64 XA,.int .i64 XB] 78 (0,0)))∧af (Below w.heap.size w w'))
      case atStart=>exact ⟨(dP),(0),(ag4),(ag5),(ag6),fg,fg,H',⟨Nat.le_refl _⟩,⟨rz bU.o⟩,⟨ks bT⟩,⟨bs HB⟩⟩
      case round =>
       clear H'
       try clear c1
       try clear c3
       try clear aY
       try clear dS
       try clear c9
       try clear nN
       try clear EW
       try clear ajM
       try clear mq
       try clear bT
       obtain ⟨pF,XC,Xw,XA,XB,rfl,rfl,HA,dD,bU,bT,HB⟩:=hrel
       cases gk with
       | zero=>exact absurd HA.o (by simp [eu.l1])
       | succ k2 =>
        have H:=HA.o;clear HA;simp only [eu.l1] at H;have abS:=am H;clear H
        go_upto_region 11 with (fail)
        go_cut [52] (fun v52 wc=>∃ (kq:Nat) (abq:Bool),v52=.bool abq∧af (eu.j2 kq l1 t72 pF d9 XC abq=some (r1,r2,r3))∧af (kq≤k2)∧af (Kd.R iR 111 wc w.heap.size (fun _=>True) (.slice Jy t72.length KD) t72)∧af (wc.heap[ym]? = some (.cells #[.int .i64 Xw,.int .i64 XA,.int .i64 XB] 78 (0,0)))∧af (Below w.heap.size w wc))
        case first =>
         have H:=abS.o;clear abS
         revert H;refine bv ?_
         intro vX H
         (first|rw [vX]|(simp only [fC,gK];rw [vX])|skip)
         revert H;refine bv ?_
         intro yj H
         revert H;refine bK ?_ ?_
         ·intro qD H
          revert H;refine bK ?_ ?_
          ·intro xk H
           revert H;refine bv ?_
           intro vw H;have H':=am H;clear H
           try go_wp2
           replace bU:=am (Kd.eO bU.o);replace bT:=am (bD bT.o);replace HB:=am (cZ HB.o);obtain ⟨p66,q66,ac8,SQ,Io,Ip,Iq,Ir⟩:=wi (zT (Kd.dH bU.o).2.2 d9)
           cases SQ
           obtain ⟨p71,q71,aEn,aDk,aEP,e71,aao,aap,alI,ala⟩:=wi (kN HR1.o pF);have axC:=aap;have axB:=aao
           cases e71
           replace aao:=cb HB aao;replace aap:=cb HB aap;have aq8:=am ala;have aD0:=am alI;clear ala alI;obtain ⟨p74,q74,as5,e74,amR,amS,amT,amU⟩:=wi (zT (Kd.dH bU.o).2.2 d9);obtain rfl:ac8=as5:=(by injection e74);refine gD 26 (aC Io (aC Ip (aC Iq (aC Ir (aC (cb HB axB) (aC (cb HB axC) (aC amR (aC amS (aC amT (hc amU)))))))))) (fun hHeld=>?_);refine fu eu.WS eu.R5 (fun HT_ HW_=>?_)
           generalize wr.drew=uj at bU bT HB aq8 Io Ip Iq Ir aao aap amR amS amT amU hHeld ⊢
           refine jV 0 ?_;refine bQ 4 ?_;refine ta 5 ?_;refine mF 6 ?_;refine jV 14 ?_;refine jV 19 ?_;refine ta 18 ?_;refine ta 23 ?_;refine jU 24 ?_;refine ek (fo HT_.o (by kernel_rfl)) ?_
           try go_wp2
           go_meet
           case rel=>exact ⟨_,((((av l1 pF).f0).toList == ((dK t72 d9).f0).toList)),fg,H',⟨by have:=aQ.o;have:=dD.o;first|omega|exact Nat.le_refl _⟩,⟨rz bU.o⟩,⟨ks bT⟩,⟨bs HB⟩⟩
          ·intro xk H;have H':=am H;clear H
           try go_wp2
           replace bU:=am (Kd.eO bU.o);replace bT:=am (bD bT.o);replace HB:=am (cZ HB.o);obtain ⟨p66,q66,ac8,SQ,Io,Ip,Iq,Ir⟩:=wi (zT (Kd.dH bU.o).2.2 d9)
           cases SQ
           refine gD 26 (aC Io (aC Ip (aC Iq (hc Ir)))) (fun hHeld=>?_);refine fu eu.WS eu.R5 (fun HT_ HW_=>?_)
           generalize wr.drew=CJ at bU bT HB Io Ip Iq Ir hHeld ⊢
           refine jV 0 ?_;refine bQ 4 ?_;refine ta 5 ?_;refine mF 6 ?_;refine mF 14 ?_;refine jV 22 ?_;refine ek (fo HT_.o (by kernel_rfl)) ?_
           try go_wp2
           go_meet
           case rel=>exact ⟨_,(false),fg,H',⟨by have:=aQ.o;have:=dD.o;first|omega|exact Nat.le_refl _⟩,⟨rz bU.o⟩,⟨ks bT⟩,⟨bs HB⟩⟩
         ·intro qD H;have H':=am H;clear H
          try go_wp2
          replace bU:=am (Kd.eO bU.o);replace bT:=am (bD bT.o);replace HB:=am (cZ HB.o);obtain ⟨p66,q66,ac8,SQ,Io,Ip,Iq,Ir⟩:=wi (zT (Kd.dH bU.o).2.2 d9)
          cases SQ
          refine gD 26 (aC Io (aC Ip (aC Iq (hc Ir)))) (fun hHeld=>?_);refine fu eu.WS eu.R5 (fun HT_ HW_=>?_)
          generalize wr.drew=CK at bU bT HB Io Ip Iq Ir hHeld ⊢
          refine jV 0 ?_;refine bQ 4 ?_;refine ta 5 ?_;refine mF 6 ?_;refine mF 14 ?_;refine jV 22 ?_;refine ek (fo HT_.o (by kernel_rfl)) ?_
          try go_wp2
          go_meet
          case rel=>exact ⟨_,(false),fg,H',⟨by have:=aQ.o;have:=dD.o;first|omega|exact Nat.le_refl _⟩,⟨rz bU.o⟩,⟨ks bT⟩,⟨bs HB⟩⟩
        case rest =>
         clear abS
         try clear c1
         try clear c3
         obtain ⟨kq,abq,rfl,HA,XW,bU,bT,HB⟩:=hcut
         cases kq with
         | zero=>exact absurd HA.o (by simp [eu.j2])
         | succ aav =>
          have H:=HA.o;clear HA;simp only [eu.j2] at H
          obtain rfl|rfl:=bt abq
          ·replace H:=dm H
           revert H;refine bv ?_
           intro vZ H
           revert H;refine bv ?_
           intro Dq H
           revert H;refine bv ?_
           intro Sk H
           revert H;refine bv ?_
           intro Kt H;replace H:=bo H;obtain ⟨t79,CW,H⟩:=H
           revert H;refine gT ?_ ?_
           ·intro vz H;have Ku:decide (0≤t79)=true:=decide_eq_true vz;clear vz;replace H:=yF H;obtain ⟨rfl,rfl,rfl⟩:=H
            try go_wp2
            replace bU:=am (Kd.eO bU.o);replace bT:=am (bD bT.o);replace HB:=am (cZ HB.o);obtain ⟨p69,q69,as2,e69,VP,VQ,VR,VS⟩:=wi (zT (Kd.dH bU.o).2.2 d9)
            cases e69
            obtain ⟨p63,q63,asZ,abI,adB,e63,FC,FD,UA,Ua⟩:=wi (kN HR1.o pF);have Vs:=FD;have Vr:=FC
            cases e63
            replace FC:=cb HB FC;replace FD:=cb HB FD;have Rp:=am Ua;have ab8:=am UA;clear Ua UA;refine gD 11 (aC VP (aC VQ (aC VR (aC VS (aC (cb HB Vr) (hc (cb HB Vs))))))) (fun hHeld=>?_);refine fu eu.yI eu.yf (fun HT_ HW_=>?_)
            generalize wc.drew=uk at bU bT HB Rp VP VQ VR VS FC FD hHeld ⊢
            refine jV 0 ?_;refine jo 5 ?_;refine ta 4 ?_;refine ta 8 ?_;refine oA 9 62 HT_ (fun K hK=>?_);refine gA Tryz.func106 #[.string ((dK t72 d9).f3),.agg #[.string ((av l1 pF).f0),.slice abI ((av l1 pF).f1).length adB]] ?_;(with_reducible refine (dL.calls aav ((dK t72 d9).f3) ((av l1 pF).f0) _ _ ((av l1 pF).f1) t79 _ ?aR ?bg CW.o).mono ?_)
            (case aR=>exact sd (Kd.bi Rp.o HB.o))
            (case bg=>exact ab8.o)
            rintro e MP ⟨rfl,hb⟩;have acC:=(hb.cell (World.block_lt_of_cell? _ _ (hHeld.1))).trans (hHeld.1);have acD:=(hb.cell (World.block_lt_of_cell? _ _ (hHeld.2.1))).trans (hHeld.2.1);have JI:=(hb.cell (World.block_lt_of_cell? _ _ (hHeld.2.2.1))).trans (hHeld.2.2.1);have acE:=(hb.cell (World.block_lt_of_cell? _ _ (hHeld.2.2.2.1))).trans (hHeld.2.2.2.1);refine ⟨_,rfl,?_⟩;replace bU:=am (Kd.cu (rs bU) hb);replace bT:=bb bT hb;replace HB:=bq HB hb;(try clear hb);refine hK.out _ _ ⟨acC,acD,JI,acE,((cb HB Vr).trans rfl),((cb HB Vs).trans rfl)⟩ (fun hHeld=>?_);clear hK K;refine nA 62 ?_;refine bQ 10 ?_;refine ek (fo HT_.o (by kernel_rfl)) ?_;have Tz:=lH bT
            try go_wp2
            refine bodyPost_ret (results_cell_row rfl _ _ ym 78 #[.int .i64 pF,.int .i64 t79,.int .i64 3] (0,0) _ rfl (kp bT) Tryz.underlying78 rfl (by kernel_rfl)) rfl ?_
            exact ⟨ff,bs HB⟩
           ·intro vz H;have Ku:decide (0≤t79)=false:=decide_eq_false vz;clear vz;have H':=am H;clear H
            try go_wp2
            replace bU:=am (Kd.eO bU.o);replace bT:=am (bD bT.o);replace HB:=am (cZ HB.o);obtain ⟨p69,q69,as2,e69,VP,VQ,VR,VS⟩:=wi (zT (Kd.dH bU.o).2.2 d9)
            cases e69
            obtain ⟨p63,q63,asZ,abI,adB,e63,FC,FD,UA,Ua⟩:=wi (kN HR1.o pF);have Vs:=FD;have Vr:=FC
            cases e63
            replace FC:=cb HB FC;replace FD:=cb HB FD;have Rp:=am Ua;have ab8:=am UA;clear Ua UA;refine gD 11 (aC VP (aC VQ (aC VR (aC VS (aC (cb HB Vr) (hc (cb HB Vs))))))) (fun hHeld=>?_);refine fu eu.yI eu.yf (fun HT_ HW_=>?_)
            generalize wc.drew=Jf at bU bT HB Rp VP VQ VR VS FC FD hHeld ⊢
            refine jV 0 ?_;refine jo 5 ?_;refine ta 4 ?_;refine ta 8 ?_;refine oA 9 62 HT_ (fun K hK=>?_);refine gA Tryz.func106 #[.string ((dK t72 d9).f3),.agg #[.string ((av l1 pF).f0),.slice abI ((av l1 pF).f1).length adB]] ?_;(with_reducible refine (dL.calls aav ((dK t72 d9).f3) ((av l1 pF).f0) _ _ ((av l1 pF).f1) t79 _ ?aR ?bg CW.o).mono ?_)
            (case aR=>exact sd (Kd.bi Rp.o HB.o))
            (case bg=>exact ab8.o)
            rintro e CO ⟨rfl,hb⟩;have acC:=(hb.cell (World.block_lt_of_cell? _ _ (hHeld.1))).trans (hHeld.1);have acD:=(hb.cell (World.block_lt_of_cell? _ _ (hHeld.2.1))).trans (hHeld.2.1);have JI:=(hb.cell (World.block_lt_of_cell? _ _ (hHeld.2.2.1))).trans (hHeld.2.2.1);have acE:=(hb.cell (World.block_lt_of_cell? _ _ (hHeld.2.2.2.1))).trans (hHeld.2.2.2.1);refine ⟨_,rfl,?_⟩;replace bU:=am (Kd.cu (rs bU) hb);replace bT:=bb bT hb;replace HB:=bq HB hb;(try clear hb);refine hK.out _ _ ⟨acC,acD,JI,acE,((cb HB Vr).trans rfl),((cb HB Vs).trans rfl)⟩ (fun hHeld=>?_);clear hK K;refine nA 62 ?_;refine bQ 10 ?_;refine ek (fo HT_.o (by kernel_rfl)) ?_
            try go_wp2
            go_roundg aav
            case measure=>have:=aQ.o;have:=dD.o;have:=XW.o;omega
            case rel=>exact ⟨(wrap64 (pF+1)),(wrap64 (XC+1)),(Xw),(XA),(XB),fg,fg,H',⟨by have:=aQ.o;have:=dD.o;have:=XW.o;omega⟩,⟨rz bU.o⟩,⟨ks bT⟩,⟨bs HB⟩⟩
          ·replace H:=di H
           revert H;refine bv ?_
           intro Zd H
           revert H;refine bv ?_
           intro wm H
           revert H;refine bK ?_ ?_
           ·intro ET H;replace H:=yF H;obtain ⟨rfl,rfl,rfl⟩:=H;obtain ⟨p73,q73,as4,e73,axG,axH,axI,axJ⟩:=wi (zT (Kd.dH bU.o).2.2 d9)
            cases e73
            have KS:=lH bT
            go_wp2
            refine bodyPost_ret (results_cell_row rfl _ _ ym 78 #[.int .i64 pF,.int .i64 0,.int .i64 4] (0,0) _ rfl (kp bT) Tryz.underlying78 rfl (by kernel_rfl)) rfl ?_
            exact ⟨ff,bs HB⟩
           ·intro ET H;have H':=am H;clear H;obtain ⟨p73,q73,as4,e73,axG,axH,axI,axJ⟩:=wi (zT (Kd.dH bU.o).2.2 d9)
            cases e73
            go_wp2
            go_roundg aav
            case measure=>have:=aQ.o;have:=dD.o;have:=XW.o;omega
            case rel=>exact ⟨(pF),(wrap64 (d9+1)),(Xw),(XA),(XB),fg,fg,H',⟨by have:=aQ.o;have:=dD.o;have:=XW.o;omega⟩,⟨rz bU.o⟩,⟨ks bT⟩,⟨bs HB⟩⟩
     ·intro mq H
      revert H;refine bK ?_ ?_
      ·intro Sm H
       revert H;refine bv ?_
       intro BH H;obtain ⟨Pv,Ug⟩:∃ j_:Int,(wrap64 ((t72.length:Int) - 1))=j_:=⟨_,rfl⟩
       replace H:(if 0≤(Pv) then (if (Pv)<(t72.length:Int) then (if ((av l1 dP).f0).toList=((dK t72 (Pv)).f0).toList then (some (dP,0,7)) else (some (dP,0,3))) else none) else none)=some (r1,r2,r3):=by first|(rw [Ug] at H;exact H)|(simp only [Ug] at H ⊢;exact H)
       have aH6:(IntKind.i64.wrap ((t72.length:Int) - 1))=Pv:=(fC _).trans Ug
       revert H;refine bv ?_
       intro Ob H
       revert H;refine bv ?_
       intro atV H
       revert H;refine bH ?_ ?_
       ·intro adu atX H;replace H:=yF H;obtain ⟨rfl,rfl,rfl⟩:=H
        try go_wp2
        replace bU:=am (Kd.eO bU.o);replace bT:=am (bD bT.o);replace HB:=am (cZ HB.o);obtain ⟨p65,PL,Kb,ahj,ajL,e65,pW,Ak,Ib,H7⟩:=wi (kN HR1.o dP);have aeR:=Ak;have aeQ:=pW
        cases e65
        replace pW:=cb HB pW;replace Ak:=cb HB Ak;have Ye:=am H7;have ahO:=am Ib;clear H7 Ib;obtain ⟨p70,q70,as3,e70,VU,VV,VW,VX⟩:=wi (zT (Kd.dH bU.o).2.2 (Pv))
        cases e70
        refine gD 13 (aC (cb HB aeQ) (aC (cb HB aeR) (aC VU (aC VV (aC VW (hc VX)))))) (fun hHeld=>?_);refine fu eu.MK eu.Kg (fun HT_ HW_=>?_)
        generalize wr.drew=w45 at bU bT HB Ye pW Ak VU VV VW VX hHeld ⊢
        refine jV 0 ?_;refine jV 5 ?_;refine jU 9 ?_;refine ta 4 ?_;refine ta 11 ?_;refine bQ 12 ?_;refine ek (fo HT_.o (by kernel_rfl)) ?_;have akD:=lH bT
        try go_wp2
        refine bodyPost_ret (results_cell_row rfl _ _ ym 78 #[.int .i64 dP,.int .i64 0,.int .i64 7] (0,0) _ rfl (kp bT) Tryz.underlying78 rfl (by kernel_rfl)) rfl ?_
        exact ⟨by first|rfl|(simp [qF,qG] <;> rfl)|(simp only [← Ug];first|rfl|(simp [qF,qG] <;> rfl))|(simp [*,qF,qG] <;> rfl),bs HB⟩
       ·intro c44 adu atX H;replace H:=yF H;obtain ⟨rfl,rfl,rfl⟩:=H
        try go_wp2
        replace bU:=am (Kd.eO bU.o);replace bT:=am (bD bT.o);replace HB:=am (cZ HB.o);obtain ⟨p65,PL,Kb,ahj,ajL,e65,pW,Ak,Ib,H7⟩:=wi (kN HR1.o dP);have aeR:=Ak;have aeQ:=pW
        cases e65
        replace pW:=cb HB pW;replace Ak:=cb HB Ak;have Ye:=am H7;have ahO:=am Ib;clear H7 Ib;obtain ⟨p70,q70,as3,e70,VU,VV,VW,VX⟩:=wi (zT (Kd.dH bU.o).2.2 (Pv))
        cases e70
        refine gD 13 (aC (cb HB aeQ) (aC (cb HB aeR) (aC VU (aC VV (aC VW (hc VX)))))) (fun hHeld=>?_);refine fu eu.MK eu.Kg (fun HT_ HW_=>?_)
        generalize wr.drew=WW at bU bT HB Ye pW Ak VU VV VW VX hHeld ⊢
        refine jV 0 ?_;refine jV 5 ?_;refine jU 9 ?_;refine ta 4 ?_;refine ta 11 ?_;refine bQ 12 ?_;refine ek (fo HT_.o (by kernel_rfl)) ?_;have Ov:=lH bT
        try go_wp2
        refine bodyPost_ret (results_cell_row rfl _ _ ym 78 #[.int .i64 dP,.int .i64 0,.int .i64 3] (0,0) _ rfl (kp bT) Tryz.underlying78 rfl (by kernel_rfl)) rfl ?_
        exact ⟨by first|rfl|(simp [qF,qG] <;> rfl)|(simp only [← Ug];first|rfl|(simp [qF,qG] <;> rfl))|(simp [*,qF,qG] <;> rfl),bs HB⟩
      ·intro Sm H;replace H:=yF H;obtain ⟨rfl,rfl,rfl⟩:=H;have akE:=lH bT
       go_wp2
       refine bodyPost_ret (results_cell_row rfl _ _ ym 78 #[.int .i64 0,.int .i64 0,.int .i64 0] (0,0) _ rfl (kp bT) Tryz.underlying78 rfl (by kernel_rfl)) rfl ?_
       exact ⟨ff,bs HB⟩
theorem qd.calls (ag:ByteArray)(gN:Option Addr)(fZ:Nat)(aN:List bN)(a1 a2:Int)(r:ByteArray)(w:World)(lW:Kd.C jO w gN aN.length aN)(lV:aN.length≤fZ)(H:qd.f ag aN a1 a2=some r) :
  Calls Tryz.prog 69 #[.agg #[.string ag,.slice gN aN.length fZ],.int .i64 a1,.int .i64 a2] w fun e w'=>e=.returned (.string r)∧Below w.heap.size w w':=by
 have r9:=Tryz.underlying62;have lZ:=am lW;have uu:=am lV;clear lW lV;have HB:=am (Below.refl w.heap.size w);unfold qd.f at H
 revert H;refine bK ?_ ?_
 ·intro dF H;obtain rfl:=si H
  go_in
  go_wp2_with (first|((with_reducible refine aJ (N:=3) rfl ?_);(try (refine jc (by rfl) ?_;dsimp only));refine bz 3 (cs:=#[.string ag,.slice gN aN.length fZ]) (t:=62) HB ?_;clear HB;intro om hg w5 jr Eu hb HB;clear hb hg))
  go_ret
  exact ⟨ff,bs HB⟩
 ·intro dF H
  revert H;refine gT ?_ ?_
  ·intro c6 H;have gu:decide ((aN.length:Int)≤a1)=true:=decide_eq_true c6;clear c6;obtain rfl:=si H
   go_in
   go_wp2_with (first|((with_reducible refine aJ (N:=3) rfl ?_);(try (refine jc (by rfl) ?_;dsimp only));refine bz 3 (cs:=#[.string ag,.slice gN aN.length fZ]) (t:=62) HB ?_;clear HB;intro om hg w7 jr Eu hb HB;clear hb hg;have BU:=fM jr))
   go_ret
   exact ⟨ff,bs HB⟩
  ·intro c6 H;have gu:decide ((aN.length:Int)≤a1)=false:=decide_eq_false c6;clear c6
   revert H;refine bK ?_ ?_
   ·intro nN H;obtain rfl:=si H
    go_in
    go_wp2_with (first|((with_reducible refine aJ (N:=3) rfl ?_);(try (refine jc (by rfl) ?_;dsimp only));refine bz 3 (cs:=#[.string ag,.slice gN aN.length fZ]) (t:=62) HB ?_;clear HB;intro om hg qo jr Eu hb HB;clear hb hg;have zq:=fM jr))
    go_ret
    exact ⟨ff,bs HB⟩
   ·intro nN H
    by_cases c12:0≤a1
    ·rw [if_pos c12] at H;have zk:decide (0≤a1)=true:=decide_eq_true c12;clear c12
     revert H;refine bv ?_
     intro mq H
     revert H;refine gT ?_ ?_
     ·intro c14 H;have ry:decide ((((aK aN a1).f0).length:Int)≤a2)=true:=decide_eq_true c14;clear c14;obtain rfl:=si H
      go_in
      go_wp2_with (first|((with_reducible refine aJ (N:=3) rfl ?_);(try (refine jc (by rfl) ?_;dsimp only));refine bz 3 (cs:=#[.string ag,.slice gN aN.length fZ]) (t:=62) HB ?_;clear HB;intro om hg CG jr Eu hb HB;clear hb hg;have zt:=fM jr;obtain ⟨p21,q21,YD,ao0,atF,e21,Fs,Uq,TP⟩:=wi (lN lZ.o a1);cases e21;replace Fs:=cb HB Fs;have aqR:=am TP;have apU:=am Uq;clear TP Uq))
      go_ret
      exact ⟨ff,bs HB⟩
     ·intro c14 H;have ry:decide ((((aK aN a1).f0).length:Int)≤a2)=false:=decide_eq_false c14;clear c14
      revert H;refine bv ?_
      intro qD H
      revert H;refine bv ?_
      intro xk H;obtain rfl:=si H
      go_in
      go_wp2_with (first|((with_reducible refine aJ (N:=3) rfl ?_);(try (refine jc (by rfl) ?_;dsimp only));refine bz 3 (cs:=#[.string ag,.slice gN aN.length fZ]) (t:=62) HB ?_;clear HB;intro om hg pz jr Eu hb HB;clear hb hg;have Hw:=fM jr;obtain ⟨p21,q21,YD,ao0,atF,e21,Fs,Uq,TP⟩:=wi (lN lZ.o a1);cases e21;replace Fs:=cb HB Fs;have aqR:=am TP;have apU:=am Uq;clear TP Uq;obtain ⟨p22,q22,asL,aC5,aEw,e22,aeU,aln,akQ⟩:=wi (lN lZ.o a1);obtain rfl:YD=asL:=(by injection e22);replace aeU:=cb HB aeU;have aqT:=am akQ;have aDQ:=am aln;clear akQ aln;have ea_:=Option.some.inj (Fs.symm.trans aeU);injection ea_ with ea_ en_ ec_;subst ea_;subst ec_;clear en_;obtain ⟨p24,q24,aEc,e24,amz⟩:=wi (Kd.jw aqT.o a2);cases e24;replace amz:=cb HB amz))
      go_ret
      exact ⟨ff,bs HB⟩
    ·rw [if_neg c12] at H
     exact absurd H (by simp)
theorem kQ.calls (k:Nat)(ag:ByteArray)(gN:Option Addr)(fZ:Nat)(aN:List bN)(a1 r:Int)(w:World)(lW:Kd.C jO w gN aN.length aN)(lV:aN.length≤fZ)(H:kQ.f k ag aN a1=some r) :
  Calls Tryz.prog 70 #[.agg #[.string ag,.slice gN aN.length fZ],.int .i64 a1] w fun e w'=>e=.returned (.int .i64 r)∧Below w.heap.size w w':=by
 have r9:=Tryz.underlying62;have lZ:=am lW;have uu:=am lV;clear lW lV;have HB:=am (Below.refl w.heap.size w);unfold kQ.f at H;replace H:=bo H;obtain ⟨t12,A3,H⟩:=H;replace H:=bo H;obtain ⟨⟨CF,I6⟩,A4,H⟩:=H;(try dsimp only at H);obtain rfl:=si H
 go_in
 go_wp2_with (first|((with_reducible refine aJ (N:=2) rfl ?_);refine bz 2 (cs:=#[.string ag,.slice gN aN.length fZ]) (t:=62) HB ?_;clear HB;intro vE hg w5 eG Q6 hb HB;clear hb hg;have av7:w5.cell? ⟨vE,0,none⟩=some (.string ag):=(aA eG.o 0).trans rfl;have av8:w5.cell? ⟨vE,1,none⟩=some (.slice gN aN.length fZ):=(aA eG.o 1).trans rfl;have awz:=bu eG.o 0;have awC:=bu eG.o 1)|((go_at_call 69;refine (qd.calls ag _ _ aN a1 0 t12 _ (Kd.bi lZ.o (bs HB)) uu.o A3.o).mono ?_;rintro e w7 ⟨rfl,hb⟩);replace eG:=bb eG hb;replace HB:=bq HB hb;(try clear hb))|((go_at_call 107;refine (il.calls k t12 CF I6 _ A4.o).mono ?_;rintro e w8 ⟨rfl,hb⟩);replace eG:=bb eG hb;replace HB:=bq HB hb;(try clear hb)))
 go_ret
 exact ⟨ff,bs HB⟩
end Go.Proofs.YtapilmimgiaglaaGreatDoor.QX
