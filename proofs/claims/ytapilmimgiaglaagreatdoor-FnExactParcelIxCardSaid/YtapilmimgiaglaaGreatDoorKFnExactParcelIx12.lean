import Derived.Test.YtapilmimgiaglaaGreatDoorKFnExactParcelIx11
set_option maxHeartbeats 8000000
set_option maxRecDepth 100000
set_option linter.unusedSimpArgs false
set_option linter.unusedVariables false
namespace Go.Proofs.YtapilmimgiaglaaGreatDoor.QX
open Go.RowKit Go.Proofs.bB.eH Go.Proofs.bB.PrintLast Go.Proofs.bB.PrintMore
attribute [local go_sem] oU o5 oZ o8 oW o7 oV o6
def jJ.T3:Bool × List (List Nat × List Nat):=(true,[([],[]),([0],[0]),([],[]),([2,1],[2]),([],[]),([4,3],[4]),([],[]),([6,5],[6]),([1,3,5,7],[1,3,5,7]),([8,7,0,1,2,3,4,5,6,7,8],[8])])
def jJ.B3:List Nat:=[0,1,0,7,0,31,0,127,255,511]
theorem jJ.WT:fD .any (opsOf Tryz.f71 3)=jJ.T3:=by kernel_rfl
theorem jJ.R6:jg jJ.T3.2 jJ.B3=true:=by kernel_rfl
def jJ.T7:Bool × List (List Nat × List Nat):=(true,[([],[]),([0],[0]),([],[]),([2,1],[2]),([],[]),([4,3],[4]),([1,3,5],[1,3,5]),([6,5,0,1,2,3,4,5,6],[6])])
def jJ.B7:List Nat:=[0,1,0,7,0,31,63,127]
theorem jJ.aCd:fD .any (opsOf Tryz.f71 7)=jJ.T7:=by kernel_rfl
theorem jJ.ath:jg jJ.T7.2 jJ.B7=true:=by kernel_rfl
def jJ.T9:Bool × List (List Nat × List Nat):=(true,[([],[]),([0],[0]),([],[]),([2,1],[2]),([],[]),([4,3],[4]),([1,3,5],[1,3,5]),([6,5,0,1,2,3,4,5,6],[6])])
def jJ.B9:List Nat:=[0,1,0,7,0,31,63,127]
theorem jJ.aCe:fD .any (opsOf Tryz.f71 9)=jJ.T9:=by kernel_rfl
theorem jJ.ati:jg jJ.T9.2 jJ.B9=true:=by kernel_rfl
def jJ.GU:Bool × List (List Nat × List Nat):=(true,[([],[]),([0],[0]),([],[]),([2,1],[2]),([],[]),([4,3],[4]),([1,3,5],[1,3,5]),([6,5,0,1,2,3,4,5,6],[6])])
def jJ.B10:List Nat:=[0,1,0,7,0,31,63,127]
theorem jJ.MJ:fD .any (opsOf Tryz.f71 10)=jJ.GU:=by kernel_rfl
theorem jJ.Ke:jg jJ.GU.2 jJ.B10=true:=by kernel_rfl
theorem jJ.calls (k:Nat)(a0:Int)(aI:ByteArray)(iD:Option Addr)(iy:Nat)(aT:List bN)(r1:Int)(r2:ByteArray)(r3 r4:Int)(r5:ByteArray)(w:World)(vG:Kd.C jO w iD aT.length aT)(vF:aT.length≤iy)(H:jJ.f k a0 aI aT=some (r1,r2,r3,r4,r5)) :
  Calls Tryz.prog 71 #[.int .i64 a0,.agg #[.string aI,.slice iD aT.length iy]] w fun e w'=>e=.returned (.agg #[.int .i64 r1,.string r2,.int .i64 r3,.int .i64 r4,.string r5])∧Below w.heap.size w w':=by
 have r9:=Tryz.underlying62;have Dx:=Tryz.underlying95;have lU:=am vG;have qX:=am vF;clear vG vF;have HB:=am (Below.refl w.heap.size w);unfold jJ.f at H
 revert H;refine bH ?_ ?_
 ·intro aY dS H;replace H:=bo H;obtain ⟨t79,A4,H⟩:=H;replace H:=bo H;obtain ⟨t80,A5,H⟩:=H;replace H:=bo H;obtain ⟨zL,A6,H⟩:=H;replace H:=bo H;obtain ⟨t82,A7,H⟩:=H;replace H:=IY H;obtain ⟨rfl,rfl,rfl,rfl,rfl⟩:=H
  go_in
  try go_wp2_with (first|((with_reducible refine aJ (N:=3) rfl ?_);refine bz 3 (cs:=#[.string aI,.slice iD aT.length iy]) (t:=62) HB ?_;clear HB;intro ZG hg w8 dQ XT hb HB;clear hb hg)|((with_reducible refine aJ (N:=4) rfl ?_);refine bz 4 (cs:=#[.int .i64 0,.string (⟨#[]⟩:ByteArray),.int .i64 0,.int .i64 0,.string (⟨#[]⟩:ByteArray)]) (t:=95) HB ?_;clear HB;intro dX hg w9 dh XR hb HB;have eD:=na hg dQ;have mI:=nc hg dQ;replace dQ:=bb dQ hb;clear hb hg))
  replace dQ:=am (bD dQ.o);replace dh:=am (bD dh.o);replace HB:=am (cZ HB.o);refine gD 10 (hb2 dQ) (fun hHeld=>?_);refine fu jJ.WT jJ.R6 (fun HT_ HW_=>?_)
  generalize w9.drew=qo at dQ dh HB hHeld ⊢
  refine ta 0 ?_;refine ta 2 ?_;refine ta 4 ?_;refine ta 6 ?_;refine oA 1 9 HT_ (fun K hK=>?_);refine gA Tryz.func70 #[.agg #[.string aI,.slice iD aT.length iy],.int .i64 0] ?_;(with_reducible refine (kQ.calls k aI _ _ aT 0 t79 _ ?aR ?bg A4.o).mono ?_)
  (case aR=>exact sd (Kd.bi lU.o HB.o))
  (case bg=>exact qX.o)
  rintro e jY ⟨rfl,hb⟩;refine ⟨_,rfl,?_⟩;replace dQ:=bb dQ hb;replace dh:=bb dh hb;replace HB:=bq HB hb;(try clear hb);refine hK.out _ _ (hb2 dQ).o (fun hHeld=>?_);clear hK K;refine nA 9 ?_;refine oA 3 11 HT_ (fun K hK=>?_);refine gA Tryz.func69 #[.agg #[.string aI,.slice iD aT.length iy],.int .i64 1,.int .i64 0] ?_;(with_reducible refine (qd.calls aI _ _ aT 1 0 t80 _ ?aR ?bg A5.o).mono ?_)
  (case aR=>exact sd (Kd.bi lU.o HB.o))
  (case bg=>exact qX.o)
  rintro e nZ ⟨rfl,hb⟩;refine ⟨_,rfl,?_⟩;replace dQ:=bb dQ hb;replace dh:=bb dh hb;replace HB:=bq HB hb;(try clear hb);refine hK.out _ _ (hb2 dQ).o (fun hHeld=>?_);clear hK K;refine nA 11 ?_;refine oA 5 13 HT_ (fun K hK=>?_);refine gA Tryz.func70 #[.agg #[.string aI,.slice iD aT.length iy],.int .i64 2] ?_;(with_reducible refine (kQ.calls k aI _ _ aT 2 zL _ ?aR ?bg A6.o).mono ?_)
  (case aR=>exact sd (Kd.bi lU.o HB.o))
  (case bg=>exact qX.o)
  rintro e tC ⟨rfl,hb⟩;refine ⟨_,rfl,?_⟩;replace dQ:=bb dQ hb;replace dh:=bb dh hb;replace HB:=bq HB hb;(try clear hb);refine hK.out _ _ (hb2 dQ).o (fun hHeld=>?_);clear hK K;refine nA 13 ?_;refine oA 7 15 HT_ (fun K hK=>?_);refine gA Tryz.func70 #[.agg #[.string aI,.slice iD aT.length iy],.int .i64 3] ?_;(with_reducible refine (kQ.calls k aI _ _ aT 3 t82 _ ?aR ?bg A7.o).mono ?_)
  (case aR=>exact sd (Kd.bi lU.o HB.o))
  (case bg=>exact qX.o)
  rintro e tF ⟨rfl,hb⟩;refine ⟨_,rfl,?_⟩;replace dQ:=bb dQ hb;replace dh:=bb dh hb;replace HB:=bq HB hb;(try clear hb);refine hK.out _ _ (hb2 dQ).o (fun hHeld=>?_);clear hK K;refine nA 15 ?_;refine bQ 8 ?_;refine o9 (i:=9) (N:=none) #[true,true,true,true,true,true,true,true,true,true] rfl rfl (xH HT_.o (by kernel_rfl)) (by decide) (fun K hK=>?_);have aK3:tF.cell? ⟨dX,0,none⟩=some (.int .i64 0):=(aA dh.o 0).trans rfl;have aGE:=bu dh.o 0;have aKl:=eD.o;have aH9:=mI.o;have axu:tF.cell? ⟨dX,1,none⟩=some (.string (⟨#[]⟩:ByteArray)):=(aA dh.o 1).trans rfl;have awu:=bu dh.o 1;have axq:=eD.o;have awF:=mI.o;have aK4:tF.cell? ⟨dX,2,none⟩=some (.int .i64 0):=(aA dh.o 2).trans rfl;have aGF:=bu dh.o 2;have aKm:=eD.o;have aIa:=mI.o;have aK5:tF.cell? ⟨dX,3,none⟩=some (.int .i64 0):=(aA dh.o 3).trans rfl;have aGG:=bu dh.o 3;have aKn:=eD.o;have aIb:=mI.o;have aK6:tF.cell? ⟨dX,4,none⟩=some (.string (⟨#[]⟩:ByteArray)):=(aA dh.o 4).trans rfl;have aGH:=bu dh.o 4;have aKo:=eD.o;have aIc:=mI.o;refine xJ (w1:=?_) (by rfl) rfl ?_ ?_
  rotate_left
  ·go_simp
   rfl
  refine hK.out _ _ ⟨((cell_far (p:=⟨dX,_,none⟩) eD.o _).trans (((cell_far (p:=⟨dX,_,none⟩) eD.o _).trans (((cell_far (p:=⟨dX,_,none⟩) eD.o _).trans (((cell_far (p:=⟨dX,_,none⟩) eD.o _).trans (((cell_far (p:=⟨dX,_,none⟩) eD.o _).trans (hHeld.1)))))))))),((cell_far (p:=⟨dX,_,none⟩) eD.o _).trans (((cell_far (p:=⟨dX,_,none⟩) eD.o _).trans (((cell_far (p:=⟨dX,_,none⟩) eD.o _).trans (((cell_far (p:=⟨dX,_,none⟩) eD.o _).trans (((cell_far (p:=⟨dX,_,none⟩) eD.o _).trans (hHeld.2))))))))))⟩ (fun hHeld=>?_);clear hK K;refine ek (fo HT_.o (by kernel_rfl)) ?_
  try go_wp2
  refine bodyPost_ret (results_cell_row rfl _ _ dX 95 #[.int .i64 t79,.string t80,.int .i64 zL,.int .i64 t82,.string (⟨#[]⟩:ByteArray)] (0,0) _ rfl (kp dh) Tryz.underlying95 rfl (by kernel_rfl)) rfl ?_
  exact ⟨ff,bs HB⟩
 ·intro c3 aY dS H
  revert H;refine bH ?_ ?_
  ·intro vY Si H;replace H:=bo H;obtain ⟨t83,A21,H⟩:=H;replace H:=bo H;obtain ⟨t84,Ej,H⟩:=H;replace H:=IY H;obtain ⟨rfl,rfl,rfl,rfl,rfl⟩:=H
   go_in
   try go_wp2_with (first|((with_reducible refine aJ (N:=3) rfl ?_);refine bz 3 (cs:=#[.string aI,.slice iD aT.length iy]) (t:=62) HB ?_;clear HB;intro ZG hg tH dQ XT hb HB;clear hb hg)|((with_reducible refine aJ (N:=4) rfl ?_);refine bz 4 (cs:=#[.int .i64 0,.string (⟨#[]⟩:ByteArray),.int .i64 0,.int .i64 0,.string (⟨#[]⟩:ByteArray)]) (t:=95) HB ?_;clear HB;intro dX hg CL dh XR hb HB;have eD:=na hg dQ;have mI:=nc hg dQ;replace dQ:=bb dQ hb;clear hb hg))
   replace dQ:=am (bD dQ.o);replace dh:=am (bD dh.o);replace HB:=am (cZ HB.o);refine gD 6 (hb2 dQ) (fun hHeld=>?_)
   generalize CL.drew=Je at dQ dh HB hHeld ⊢
   refine tu 0 19 #[true,false,false,false,false,false] ?_
   refine tu 2 21 #[true,false,true,false,false,false] ?_
   refine o9 (i:=1) (N:=some 20) #[true,true,true,false,false,false] rfl rfl (by kernel_rfl) (by decide) (fun K hK=>?_);refine gA Tryz.func69 #[.agg #[.string aI,.slice iD aT.length iy],.int .i64 0,.int .i64 0] ?_;(with_reducible refine (qd.calls aI _ _ aT 0 0 t83 _ ?aR ?bg A21.o).mono ?_)
   (case aR=>exact sd (Kd.bi lU.o HB.o))
   (case bg=>exact qX.o)
   rintro e Qc ⟨rfl,hb⟩;refine ⟨_,rfl,?_⟩;replace dQ:=bb dQ hb;replace dh:=bb dh hb;replace HB:=bq HB hb;(try clear hb);refine hK.out _ _ (hb2 dQ).o (fun hHeld=>?_);clear hK K;refine nA 20 ?_;refine o9 (i:=3) (N:=some 22) #[true,true,true,true,false,false] rfl rfl (by kernel_rfl) (by decide) (fun K hK=>?_);refine gA Tryz.func70 #[.agg #[.string aI,.slice iD aT.length iy],.int .i64 1] ?_;(with_reducible refine (kQ.calls k aI _ _ aT 1 t84 _ ?aR ?bg Ej.o).mono ?_)
   (case aR=>exact sd (Kd.bi lU.o HB.o))
   (case bg=>exact qX.o)
   rintro e Ec ⟨rfl,hb⟩;refine ⟨_,rfl,?_⟩;replace dQ:=bb dQ hb;replace dh:=bb dh hb;replace HB:=bq HB hb;(try clear hb);refine hK.out _ _ (hb2 dQ).o (fun hHeld=>?_);clear hK K;refine nA 22 ?_;refine pu 4 23 #[true,true,true,true,true,false] ?_
   refine o9 (i:=5) (N:=none) #[true,true,true,true,true,true] rfl rfl (by kernel_rfl) (by decide) (fun K hK=>?_);have aLe:Ec.cell? ⟨dX,0,none⟩=some (.int .i64 0):=(aA dh.o 0).trans rfl;have aGP:=bu dh.o 0;have aKD:=eD.o;have aIr:=mI.o;have aLf:Ec.cell? ⟨dX,1,none⟩=some (.string (⟨#[]⟩:ByteArray)):=(aA dh.o 1).trans rfl;have aGQ:=bu dh.o 1;have aKE:=eD.o;have aIs:=mI.o;have aLg:Ec.cell? ⟨dX,2,none⟩=some (.int .i64 0):=(aA dh.o 2).trans rfl;have aGR:=bu dh.o 2;have aKF:=eD.o;have aIt:=mI.o;have aLh:Ec.cell? ⟨dX,3,none⟩=some (.int .i64 0):=(aA dh.o 3).trans rfl;have aGS:=bu dh.o 3;have aKG:=eD.o;have aIu:=mI.o;have aLi:Ec.cell? ⟨dX,4,none⟩=some (.string (⟨#[]⟩:ByteArray)):=(aA dh.o 4).trans rfl;have aGT:=bu dh.o 4;have aKH:=eD.o;have aIv:=mI.o;refine xJ (w1:=?_) (by rfl) rfl ?_ ?_
   rotate_left
   ·go_simp
    rfl
   refine hK.out _ _ ⟨((cell_far (p:=⟨dX,_,none⟩) eD.o _).trans (((cell_far (p:=⟨dX,_,none⟩) eD.o _).trans (((cell_far (p:=⟨dX,_,none⟩) eD.o _).trans (((cell_far (p:=⟨dX,_,none⟩) eD.o _).trans (((cell_far (p:=⟨dX,_,none⟩) eD.o _).trans (hHeld.1)))))))))),((cell_far (p:=⟨dX,_,none⟩) eD.o _).trans (((cell_far (p:=⟨dX,_,none⟩) eD.o _).trans (((cell_far (p:=⟨dX,_,none⟩) eD.o _).trans (((cell_far (p:=⟨dX,_,none⟩) eD.o _).trans (((cell_far (p:=⟨dX,_,none⟩) eD.o _).trans (hHeld.2))))))))))⟩ (fun hHeld=>?_);clear hK K;refine ek (by kernel_rfl) ?_
   try go_wp2
   refine bodyPost_ret (results_cell_row rfl _ _ dX 95 #[.int .i64 0,.string t83,.int .i64 t84,.int .i64 0,.string (⟨#[]⟩:ByteArray)] (0,0) _ rfl (kp dh) Tryz.underlying95 rfl (by kernel_rfl)) rfl ?_
   exact ⟨ff,bs HB⟩
  ·intro c20 vY Si H
   revert H;refine bH ?_ ?_
   ·intro ES ads H;replace H:=bo H;obtain ⟨t85,QP,H⟩:=H;replace H:=bo H;obtain ⟨t86,A35,H⟩:=H;replace H:=bo H;obtain ⟨t87,A36,H⟩:=H;replace H:=IY H;obtain ⟨rfl,rfl,rfl,rfl,rfl⟩:=H
    go_in
    try go_wp2_with (first|((with_reducible refine aJ (N:=3) rfl ?_);refine bz 3 (cs:=#[.string aI,.slice iD aT.length iy]) (t:=62) HB ?_;clear HB;intro ZG hg Qd dQ XT hb HB;clear hb hg)|((with_reducible refine aJ (N:=4) rfl ?_);refine bz 4 (cs:=#[.int .i64 0,.string (⟨#[]⟩:ByteArray),.int .i64 0,.int .i64 0,.string (⟨#[]⟩:ByteArray)]) (t:=95) HB ?_;clear HB;intro dX hg w38 dh XR hb HB;have eD:=na hg dQ;have mI:=nc hg dQ;replace dQ:=bb dQ hb;clear hb hg))
    replace dQ:=am (bD dQ.o);replace dh:=am (bD dh.o);replace HB:=am (cZ HB.o);refine gD 8 (hb2 dQ) (fun hHeld=>?_);refine fu jJ.aCd jJ.ath (fun HT_ HW_=>?_)
    generalize w38.drew=w39 at dQ dh HB hHeld ⊢
    refine ta 0 ?_;refine ta 2 ?_;refine ta 4 ?_;refine oA 1 27 HT_ (fun K hK=>?_);refine gA Tryz.func69 #[.agg #[.string aI,.slice iD aT.length iy],.int .i64 0,.int .i64 0] ?_;(with_reducible refine (qd.calls aI _ _ aT 0 0 t85 _ ?aR ?bg QP.o).mono ?_)
    (case aR=>exact sd (Kd.bi lU.o HB.o))
    (case bg=>exact qX.o)
    rintro e Jg ⟨rfl,hb⟩;refine ⟨_,rfl,?_⟩;replace dQ:=bb dQ hb;replace dh:=bb dh hb;replace HB:=bq HB hb;(try clear hb);refine hK.out _ _ (hb2 dQ).o (fun hHeld=>?_);clear hK K;refine nA 27 ?_;refine oA 3 29 HT_ (fun K hK=>?_);refine gA Tryz.func70 #[.agg #[.string aI,.slice iD aT.length iy],.int .i64 1] ?_;(with_reducible refine (kQ.calls k aI _ _ aT 1 t86 _ ?aR ?bg A35.o).mono ?_)
    (case aR=>exact sd (Kd.bi lU.o HB.o))
    (case bg=>exact qX.o)
    rintro e w41 ⟨rfl,hb⟩;refine ⟨_,rfl,?_⟩;replace dQ:=bb dQ hb;replace dh:=bb dh hb;replace HB:=bq HB hb;(try clear hb);refine hK.out _ _ (hb2 dQ).o (fun hHeld=>?_);clear hK K;refine nA 29 ?_;refine oA 5 31 HT_ (fun K hK=>?_);refine gA Tryz.func69 #[.agg #[.string aI,.slice iD aT.length iy],.int .i64 2,.int .i64 0] ?_;(with_reducible refine (qd.calls aI _ _ aT 2 0 t87 _ ?aR ?bg A36.o).mono ?_)
    (case aR=>exact sd (Kd.bi lU.o HB.o))
    (case bg=>exact qX.o)
    rintro e vN ⟨rfl,hb⟩;refine ⟨_,rfl,?_⟩;replace dQ:=bb dQ hb;replace dh:=bb dh hb;replace HB:=bq HB hb;(try clear hb);refine hK.out _ _ (hb2 dQ).o (fun hHeld=>?_);clear hK K;refine nA 31 ?_;refine bQ 6 ?_;refine o9 (i:=7) (N:=none) #[true,true,true,true,true,true,true,true] rfl rfl (xH HT_.o (by kernel_rfl)) (by decide) (fun K hK=>?_);have aLj:vN.cell? ⟨dX,0,none⟩=some (.int .i64 0):=(aA dh.o 0).trans rfl;have aGU:=bu dh.o 0;have aKI:=eD.o;have aIw:=mI.o;have aLk:vN.cell? ⟨dX,1,none⟩=some (.string (⟨#[]⟩:ByteArray)):=(aA dh.o 1).trans rfl;have aGV:=bu dh.o 1;have aKJ:=eD.o;have aIx:=mI.o;have axv:vN.cell? ⟨dX,2,none⟩=some (.int .i64 0):=(aA dh.o 2).trans rfl;have awv:=bu dh.o 2;have axr:=eD.o;have awG:=mI.o;have aLl:vN.cell? ⟨dX,3,none⟩=some (.int .i64 0):=(aA dh.o 3).trans rfl;have aGW:=bu dh.o 3;have aKL:=eD.o;have aIz:=mI.o;have aLm:vN.cell? ⟨dX,4,none⟩=some (.string (⟨#[]⟩:ByteArray)):=(aA dh.o 4).trans rfl;have aGX:=bu dh.o 4;have aKM:=eD.o;have aIA:=mI.o;refine xJ (w1:=?_) (by rfl) rfl ?_ ?_
    rotate_left
    ·go_simp
     rfl
    refine hK.out _ _ ⟨((cell_far (p:=⟨dX,_,none⟩) eD.o _).trans (((cell_far (p:=⟨dX,_,none⟩) eD.o _).trans (((cell_far (p:=⟨dX,_,none⟩) eD.o _).trans (((cell_far (p:=⟨dX,_,none⟩) eD.o _).trans (((cell_far (p:=⟨dX,_,none⟩) eD.o _).trans (hHeld.1)))))))))),((cell_far (p:=⟨dX,_,none⟩) eD.o _).trans (((cell_far (p:=⟨dX,_,none⟩) eD.o _).trans (((cell_far (p:=⟨dX,_,none⟩) eD.o _).trans (((cell_far (p:=⟨dX,_,none⟩) eD.o _).trans (((cell_far (p:=⟨dX,_,none⟩) eD.o _).trans (hHeld.2))))))))))⟩ (fun hHeld=>?_);clear hK K;refine ek (fo HT_.o (by kernel_rfl)) ?_
    try go_wp2
    refine bodyPost_ret (results_cell_row rfl _ _ dX 95 #[.int .i64 0,.string t85,.int .i64 t86,.int .i64 0,.string t87] (0,0) _ rfl (kp dh) Tryz.underlying95 rfl (by kernel_rfl)) rfl ?_
    exact ⟨ff,bs HB⟩
   ·intro c33 ES ads H
    revert H;refine bH ?_ ?_
    ·intro atZ at1 H;replace H:=bo H;obtain ⟨D9,A49,H⟩:=H;replace H:=bo H;obtain ⟨t89,A50,H⟩:=H;replace H:=bo H;obtain ⟨Ea,A51,H⟩:=H;replace H:=IY H;obtain ⟨rfl,rfl,rfl,rfl,rfl⟩:=H
     go_in
     try go_wp2_with (first|((with_reducible refine aJ (N:=3) rfl ?_);refine bz 3 (cs:=#[.string aI,.slice iD aT.length iy]) (t:=62) HB ?_;clear HB;intro ZG hg w52 dQ XT hb HB;clear hb hg)|((with_reducible refine aJ (N:=4) rfl ?_);refine bz 4 (cs:=#[.int .i64 0,.string (⟨#[]⟩:ByteArray),.int .i64 0,.int .i64 0,.string (⟨#[]⟩:ByteArray)]) (t:=95) HB ?_;clear HB;intro dX hg w53 dh XR hb HB;have eD:=na hg dQ;have mI:=nc hg dQ;replace dQ:=bb dQ hb;clear hb hg))
     replace dQ:=am (bD dQ.o);replace dh:=am (bD dh.o);replace HB:=am (cZ HB.o);refine gD 8 (hb2 dQ) (fun hHeld=>?_);refine fu jJ.aCe jJ.ati (fun HT_ HW_=>?_)
     generalize w53.drew=Ga at dQ dh HB hHeld ⊢
     refine ta 0 ?_;refine ta 2 ?_;refine ta 4 ?_;refine oA 1 36 HT_ (fun K hK=>?_);refine gA Tryz.func70 #[.agg #[.string aI,.slice iD aT.length iy],.int .i64 0] ?_;(with_reducible refine (kQ.calls k aI _ _ aT 0 D9 _ ?aR ?bg A49.o).mono ?_)
     (case aR=>exact sd (Kd.bi lU.o HB.o))
     (case bg=>exact qX.o)
     rintro e w55 ⟨rfl,hb⟩;refine ⟨_,rfl,?_⟩;replace dQ:=bb dQ hb;replace dh:=bb dh hb;replace HB:=bq HB hb;(try clear hb);refine hK.out _ _ (hb2 dQ).o (fun hHeld=>?_);clear hK K;refine nA 36 ?_;refine oA 3 38 HT_ (fun K hK=>?_);refine gA Tryz.func70 #[.agg #[.string aI,.slice iD aT.length iy],.int .i64 1] ?_;(with_reducible refine (kQ.calls k aI _ _ aT 1 t89 _ ?aR ?bg A50.o).mono ?_)
     (case aR=>exact sd (Kd.bi lU.o HB.o))
     (case bg=>exact qX.o)
     rintro e w56 ⟨rfl,hb⟩;refine ⟨_,rfl,?_⟩;replace dQ:=bb dQ hb;replace dh:=bb dh hb;replace HB:=bq HB hb;(try clear hb);refine hK.out _ _ (hb2 dQ).o (fun hHeld=>?_);clear hK K;refine nA 38 ?_;refine oA 5 40 HT_ (fun K hK=>?_);refine gA Tryz.func70 #[.agg #[.string aI,.slice iD aT.length iy],.int .i64 2] ?_;(with_reducible refine (kQ.calls k aI _ _ aT 2 Ea _ ?aR ?bg A51.o).mono ?_)
     (case aR=>exact sd (Kd.bi lU.o HB.o))
     (case bg=>exact qX.o)
     rintro e Qg ⟨rfl,hb⟩;refine ⟨_,rfl,?_⟩;replace dQ:=bb dQ hb;replace dh:=bb dh hb;replace HB:=bq HB hb;(try clear hb);refine hK.out _ _ (hb2 dQ).o (fun hHeld=>?_);clear hK K;refine nA 40 ?_;refine bQ 6 ?_;refine o9 (i:=7) (N:=none) #[true,true,true,true,true,true,true,true] rfl rfl (xH HT_.o (by kernel_rfl)) (by decide) (fun K hK=>?_);have aLo:Qg.cell? ⟨dX,0,none⟩=some (.int .i64 0):=(aA dh.o 0).trans rfl;have aGZ:=bu dh.o 0;have aKQ:=eD.o;have aIE:=mI.o;have aLp:Qg.cell? ⟨dX,1,none⟩=some (.string (⟨#[]⟩:ByteArray)):=(aA dh.o 1).trans rfl;have aG0:=bu dh.o 1;have aKR:=eD.o;have aIF:=mI.o;have aLq:Qg.cell? ⟨dX,2,none⟩=some (.int .i64 0):=(aA dh.o 2).trans rfl;have aG1:=bu dh.o 2;have aKS:=eD.o;have aIG:=mI.o;have aLr:Qg.cell? ⟨dX,3,none⟩=some (.int .i64 0):=(aA dh.o 3).trans rfl;have aG2:=bu dh.o 3;have aKT:=eD.o;have aIH:=mI.o;have aLs:Qg.cell? ⟨dX,4,none⟩=some (.string (⟨#[]⟩:ByteArray)):=(aA dh.o 4).trans rfl;have aG3:=bu dh.o 4;have aKU:=eD.o;have aII:=mI.o;refine xJ (w1:=?_) (by rfl) rfl ?_ ?_
     rotate_left
     ·go_simp
      rfl
     refine hK.out _ _ ⟨((cell_far (p:=⟨dX,_,none⟩) eD.o _).trans (((cell_far (p:=⟨dX,_,none⟩) eD.o _).trans (((cell_far (p:=⟨dX,_,none⟩) eD.o _).trans (((cell_far (p:=⟨dX,_,none⟩) eD.o _).trans (((cell_far (p:=⟨dX,_,none⟩) eD.o _).trans (hHeld.1)))))))))),((cell_far (p:=⟨dX,_,none⟩) eD.o _).trans (((cell_far (p:=⟨dX,_,none⟩) eD.o _).trans (((cell_far (p:=⟨dX,_,none⟩) eD.o _).trans (((cell_far (p:=⟨dX,_,none⟩) eD.o _).trans (((cell_far (p:=⟨dX,_,none⟩) eD.o _).trans (hHeld.2))))))))))⟩ (fun hHeld=>?_);clear hK K;refine ek (fo HT_.o (by kernel_rfl)) ?_
     try go_wp2
     refine bodyPost_ret (results_cell_row rfl _ _ dX 95 #[.int .i64 D9,.string (⟨#[]⟩:ByteArray),.int .i64 t89,.int .i64 Ea,.string (⟨#[]⟩:ByteArray)] (0,0) _ rfl (kp dh) Tryz.underlying95 rfl (by kernel_rfl)) rfl ?_
     exact ⟨ff,bs HB⟩
    ·intro c48 atZ at1 H;replace H:=bo H;obtain ⟨t91,A63,H⟩:=H;replace H:=bo H;obtain ⟨Eb,A64,H⟩:=H;replace H:=bo H;obtain ⟨t93,A65,H⟩:=H;replace H:=IY H;obtain ⟨rfl,rfl,rfl,rfl,rfl⟩:=H
     go_in
     try go_wp2_with (first|((with_reducible refine aJ (N:=3) rfl ?_);refine bz 3 (cs:=#[.string aI,.slice iD aT.length iy]) (t:=62) HB ?_;clear HB;intro ZG hg w66 dQ XT hb HB;clear hb hg)|((with_reducible refine aJ (N:=4) rfl ?_);refine bz 4 (cs:=#[.int .i64 0,.string (⟨#[]⟩:ByteArray),.int .i64 0,.int .i64 0,.string (⟨#[]⟩:ByteArray)]) (t:=95) HB ?_;clear HB;intro dX hg w67 dh XR hb HB;have eD:=na hg dQ;have mI:=nc hg dQ;replace dQ:=bb dQ hb;clear hb hg))
     replace dQ:=am (bD dQ.o);replace dh:=am (bD dh.o);replace HB:=am (cZ HB.o);refine gD 8 (hb2 dQ) (fun hHeld=>?_);refine fu jJ.MJ jJ.Ke (fun HT_ HW_=>?_)
     generalize w67.drew=w68 at dQ dh HB hHeld ⊢
     refine ta 0 ?_;refine ta 2 ?_;refine ta 4 ?_;refine oA 1 43 HT_ (fun K hK=>?_);refine gA Tryz.func70 #[.agg #[.string aI,.slice iD aT.length iy],.int .i64 0] ?_;(with_reducible refine (kQ.calls k aI _ _ aT 0 t91 _ ?aR ?bg A63.o).mono ?_)
     (case aR=>exact sd (Kd.bi lU.o HB.o))
     (case bg=>exact qX.o)
     rintro e w69 ⟨rfl,hb⟩;refine ⟨_,rfl,?_⟩;replace dQ:=bb dQ hb;replace dh:=bb dh hb;replace HB:=bq HB hb;(try clear hb);refine hK.out _ _ (hb2 dQ).o (fun hHeld=>?_);clear hK K;refine nA 43 ?_;refine oA 3 45 HT_ (fun K hK=>?_);refine gA Tryz.func70 #[.agg #[.string aI,.slice iD aT.length iy],.int .i64 1] ?_;(with_reducible refine (kQ.calls k aI _ _ aT 1 Eb _ ?aR ?bg A64.o).mono ?_)
     (case aR=>exact sd (Kd.bi lU.o HB.o))
     (case bg=>exact qX.o)
     rintro e w70 ⟨rfl,hb⟩;refine ⟨_,rfl,?_⟩;replace dQ:=bb dQ hb;replace dh:=bb dh hb;replace HB:=bq HB hb;(try clear hb);refine hK.out _ _ (hb2 dQ).o (fun hHeld=>?_);clear hK K;refine nA 45 ?_;refine oA 5 47 HT_ (fun K hK=>?_);refine gA Tryz.func69 #[.agg #[.string aI,.slice iD aT.length iy],.int .i64 2,.int .i64 0] ?_;(with_reducible refine (qd.calls aI _ _ aT 2 0 t93 _ ?aR ?bg A65.o).mono ?_)
     (case aR=>exact sd (Kd.bi lU.o HB.o))
     (case bg=>exact qX.o)
     rintro e Qh ⟨rfl,hb⟩;refine ⟨_,rfl,?_⟩;replace dQ:=bb dQ hb;replace dh:=bb dh hb;replace HB:=bq HB hb;(try clear hb);refine hK.out _ _ (hb2 dQ).o (fun hHeld=>?_);clear hK K;refine nA 47 ?_;refine bQ 6 ?_;refine o9 (i:=7) (N:=none) #[true,true,true,true,true,true,true,true] rfl rfl (xH HT_.o (by kernel_rfl)) (by decide) (fun K hK=>?_);have aLv:Qh.cell? ⟨dX,0,none⟩=some (.int .i64 0):=(aA dh.o 0).trans rfl;have aG5:=bu dh.o 0;have aKY:=eD.o;have aIM:=mI.o;have aLw:Qh.cell? ⟨dX,1,none⟩=some (.string (⟨#[]⟩:ByteArray)):=(aA dh.o 1).trans rfl;have aG6:=bu dh.o 1;have aKZ:=eD.o;have aIN:=mI.o;have aLx:Qh.cell? ⟨dX,2,none⟩=some (.int .i64 0):=(aA dh.o 2).trans rfl;have aG7:=bu dh.o 2;have aK0:=eD.o;have aIO:=mI.o;have aLy:Qh.cell? ⟨dX,3,none⟩=some (.int .i64 0):=(aA dh.o 3).trans rfl;have aG8:=bu dh.o 3;have aK1:=eD.o;have aIP:=mI.o;have aLz:Qh.cell? ⟨dX,4,none⟩=some (.string (⟨#[]⟩:ByteArray)):=(aA dh.o 4).trans rfl;have aG9:=bu dh.o 4;have aK2:=eD.o;have aIQ:=mI.o;refine xJ (w1:=?_) (by rfl) rfl ?_ ?_
     rotate_left
     ·go_simp
      rfl
     refine hK.out _ _ ⟨((cell_far (p:=⟨dX,_,none⟩) eD.o _).trans (((cell_far (p:=⟨dX,_,none⟩) eD.o _).trans (((cell_far (p:=⟨dX,_,none⟩) eD.o _).trans (((cell_far (p:=⟨dX,_,none⟩) eD.o _).trans (((cell_far (p:=⟨dX,_,none⟩) eD.o _).trans (hHeld.1)))))))))),((cell_far (p:=⟨dX,_,none⟩) eD.o _).trans (((cell_far (p:=⟨dX,_,none⟩) eD.o _).trans (((cell_far (p:=⟨dX,_,none⟩) eD.o _).trans (((cell_far (p:=⟨dX,_,none⟩) eD.o _).trans (((cell_far (p:=⟨dX,_,none⟩) eD.o _).trans (hHeld.2))))))))))⟩ (fun hHeld=>?_);clear hK K;refine ek (fo HT_.o (by kernel_rfl)) ?_
     try go_wp2
     refine bodyPost_ret (results_cell_row rfl _ _ dX 95 #[.int .i64 t91,.string (⟨#[]⟩:ByteArray),.int .i64 Eb,.int .i64 0,.string t93] (0,0) _ rfl (kp dh) Tryz.underlying95 rfl (by kernel_rfl)) rfl ?_
     exact ⟨ff,bs HB⟩
theorem Md.calls (a0:Int)(r:Bool)(w:World)(H:Md.f a0=some r) :
  Calls Tryz.prog 72 #[.int .i64 a0] w fun e w'=>e=.returned (.bool r)∧aW w w':=by
 unfold Md.f at H
 revert H;refine gT ?_ ?_
 ·intro c2 H;have gQ:decide (1≤a0)=true:=decide_eq_true c2;clear c2;obtain rfl:=si H
  go_in
  go_wp2
  go_ret
  exact ⟨fg,dr⟩
 ·intro c2 H;have gQ:decide (1≤a0)=false:=decide_eq_false c2;clear c2;obtain rfl:=si H
  go_in
  go_wp2
  go_ret
  exact ⟨fg,dr⟩
theorem Me.calls (a0:Int)(r:Bool)(w:World)(H:Me.f a0=some r) :
  Calls Tryz.prog 73 #[.int .i64 a0] w fun e w'=>e=.returned (.bool r)∧aW w w':=by
 unfold Me.f at H
 revert H;refine bH ?_ ?_
 ·intro gQ jE H;obtain rfl:=si H
  go_in
  go_wp2
  go_ret
  exact ⟨fg,dr⟩
 ·intro c2 gQ jE H
  revert H;refine bH ?_ ?_
  ·intro aY dS H;obtain rfl:=si H
   go_in
   go_wp2
   go_ret
   exact ⟨fg,dr⟩
  ·intro c3 aY dS H;obtain rfl:=si H
   go_in
   go_wp2
   go_ret
   exact ⟨fg,dr⟩
theorem lJ.calls (k:Nat)(ag:ByteArray)(gN:Option Addr)(fZ:Nat)(aN:List bN)(aI:ByteArray)(iD:Option Addr)(iy:Nat)(aT:List bN)(r:Bool)(w:World)(lW:Kd.C jO w gN aN.length aN)(lV:aN.length≤fZ)(vG:Kd.C jO w iD aT.length aT)(vF:aT.length≤iy)(H:lJ.f k ag aN aI aT=some r) :
  Calls Tryz.prog 74 #[.agg #[.string ag,.slice gN aN.length fZ],.agg #[.string aI,.slice iD aT.length iy]] w fun e w'=>e=.returned (.bool r)∧Below w.heap.size w w':=by
 have r9:=Tryz.underlying62;have lZ:=am lW;have uu:=am lV;clear lW lV;have lU:=am vG;have qX:=am vF;clear vG vF;have HB:=am (Below.refl w.heap.size w);unfold lJ.f at H;have rT:=am H;clear H
 go_in
 go_upto_region 1 with (first|((with_reducible refine aJ (N:=2) rfl ?_);(try (refine jc (by rfl) ?_;dsimp only));refine bz 2 (cs:=#[.string ag,.slice gN aN.length fZ]) (t:=62) HB ?_;clear HB;intro Tj hg w4 lM ahG hb HB;clear hb hg)|((with_reducible refine aJ (N:=3) rfl ?_);(try (refine jc (by rfl) ?_;dsimp only));refine bz 3 (cs:=#[.string aI,.slice iD aT.length iy]) (t:=62) HB ?_;clear HB;intro Tk hg w5 tL ahH hb HB;have Df:=na hg lM;have Dh:=nc hg lM;replace lM:=bb lM hb;clear hb hg))
 repeat (go_quiet (first|((with_reducible refine aJ (N:=2) rfl ?_);(try (refine jc (by rfl) ?_;dsimp only));refine bz 2 (cs:=#[.string ag,.slice gN aN.length fZ]) (t:=62) HB ?_;clear HB;intro Tj hg w4 lM ahG hb HB;clear hb hg)|((with_reducible refine aJ (N:=3) rfl ?_);(try (refine jc (by rfl) ?_;dsimp only));refine bz 3 (cs:=#[.string aI,.slice iD aT.length iy]) (t:=62) HB ?_;clear HB;intro Tk hg w5 tL ahH hb HB;have Df:=na hg lM;have Dh:=nc hg lM;replace lM:=bb lM hb;clear hb hg));go_upto_region 1 with (first|((with_reducible refine aJ (N:=2) rfl ?_);(try (refine jc (by rfl) ?_;dsimp only));refine bz 2 (cs:=#[.string ag,.slice gN aN.length fZ]) (t:=62) HB ?_;clear HB;intro Tj hg w4 lM ahG hb HB;clear hb hg)|((with_reducible refine aJ (N:=3) rfl ?_);(try (refine jc (by rfl) ?_;dsimp only));refine bz 3 (cs:=#[.string aI,.slice iD aT.length iy]) (t:=62) HB ?_;clear HB;intro Tk hg w5 tL ahH hb HB;have Df:=na hg lM;have Dh:=nc hg lM;replace lM:=bb lM hb;clear hb hg)))
 (try simp only [Act.put,List.setIfInBounds_toArray,List.set_cons_zero,List.set_cons_succ])
 go_cut [20] (fun v20 wc=>∃ (kq:Nat) (abg:Bool),v20=.bool abg∧af (lJ.j0 kq abg ag aN aI aT=some r)∧af (kq≤k)∧af (wc.heap[Tj]? = some (.cells #[.string ag,(.slice gN aN.length fZ)] 62 (0,0)))∧af (wc.heap[Tk]? = some (.cells #[.string aI,(.slice iD aT.length iy)] 62 (0,0)))∧af (Below w.heap.size w wc))
 case first =>
  have H:=rT.o;clear rT
  revert H;refine bH ?_ ?_
  ·intro gu nM H
   (first|rw [gu]|(simp only [fC,gK];rw [gu])|rw [nM]|skip)
   have H':=am H;clear H;have ZW:=Df.o;have ZY:=Dh.o;have BU:=fM lM;have zZ:=fM tL
   go_wp2
   repeat (go_quiet (fail);try go_wp2)
   go_meet
   case rel=>exact ⟨_,(((aN.length:Int) != (aT.length:Int))),fg,H',⟨fl⟩,⟨ks lM⟩,⟨ks tL⟩,⟨bs HB⟩⟩
  ·intro c6 gu nM H
   (first|rw [gu]|(simp only [fC,gK];rw [gu])|rw [nM]|skip)
   have H':=am H;clear H;have OE:=Df.o;have OG:=Dh.o;have zq:=fM lM;have Fe:=fM tL
   go_wp2
   repeat (go_quiet (fail);try go_wp2)
   go_meet
   case rel=>exact ⟨_,(true),fg,H',⟨fl⟩,⟨ks lM⟩,⟨ks tL⟩,⟨bs HB⟩⟩
 case rest =>
  clear rT
  obtain ⟨kq,abg,rfl,HA,HJ2,lM,tL,HB⟩:=hcut
  cases kq with
  | zero=>exact absurd HA.o (by simp [lJ.j0])
  | succ FO =>
   have H:=HA.o;clear HA;simp only [lJ.j0] at H
   obtain rfl|rfl:=bt abg
   ·replace H:=dm H;obtain rfl:=si H
    go_wp2
    repeat (go_quiet (fail);try go_wp2)
    go_ret
    exact ⟨ff,bs HB⟩
   ·replace H:=di H;have H':=am H;clear H
    go_wp2
    repeat (go_quiet (fail);try go_wp2)
    go_loopg [5] FO (fun kq v5 w'=>∃ (fw:Int),v5=.int .i64 fw∧af (lJ.l0 kq fw ag aN aI aT=some r)∧af (kq≤FO)∧af (w'.heap[Tj]? = some (.cells #[.string ag,(.slice gN aN.length fZ)] 62 (0,0)))∧af (w'.heap[Tk]? = some (.cells #[.string aI,(.slice iD aT.length iy)] 62 (0,0)))∧af (Below w.heap.size w w'))
    case atStart=>exact ⟨(0),fg,H',⟨Nat.le_refl _⟩,⟨ks lM⟩,⟨ks tL⟩,⟨bs HB⟩⟩
    case round =>
     clear H'
     try clear lM
     try clear tL
     obtain ⟨fw,rfl,HA,dD,lM,tL,HB⟩:=hrel
     cases gk with
     | zero=>exact absurd HA.o (by simp [lJ.l0])
     | succ k2 =>
      have H:=HA.o;clear HA;simp only [lJ.l0] at H
      revert H;refine bK ?_ ?_
      ·intro ry H
       revert H;refine bv ?_
       intro vX H
       revert H;refine bv ?_
       intro yj H
       revert H;refine zz ?_ ?_
       ·intro c17 qD Dp H
        have ajD:(((aK aN fw).f0).length == ((aK aT fw).f0).length)=true:=by first|simpa using c17|(simp at c17 ⊢;omega)
        clear c17;have H':=am H;clear H;have awL:=Df.o;have aw7:=Dh.o;have Oo:=fM lM;obtain ⟨p42,q42,vv,ao4,atS,e42,Fy,Uu,TT⟩:=wi (lN lZ.o fw)
        cases e42
        replace Fy:=cb HB Fy;have aqZ:=am TT;have ap4:=am Uu;clear TT Uu;have Hw:=fM tL;obtain ⟨p43,q43,YE,ao5,atU,e43,O5,Uv,TU⟩:=wi (lN lU.o fw)
        cases e43
        replace O5:=cb HB O5;have aq0:=am TU;have ap5:=am Uv;clear TU Uv
        go_wp2
        repeat (go_quiet (fail);try go_wp2)
        go_loopg [6] k2 (fun kq v6 w'=>∃ (iC:Int),v6=.int .i64 iC∧af (lJ.l1 kq fw iC ag aN aI aT=some r)∧af (kq≤k2)∧af (w'.heap[Tj]? = some (.cells #[.string ag,(.slice (some vv) aN.length fZ)] 62 (0,0)))∧af (w'.heap[Tk]? = some (.cells #[.string aI,(.slice (some YE) aT.length iy)] 62 (0,0)))∧af (Below w.heap.size w w'))
        case atStart=>exact ⟨(0),fg,H',⟨Nat.le_refl _⟩,⟨ks lM⟩,⟨ks tL⟩,⟨bs HB⟩⟩
        case round =>
         clear H'
         try clear ry
         try clear vX
         try clear yj
         try clear c17
         try clear qD
         try clear Dp
         try clear ajD
         try clear Oo
         try clear Hw
         try clear Fy
         try clear O5
         try clear p42
         try clear p43
         try clear q42
         try clear q43
         try clear lM
         try clear tL
         obtain ⟨iC,rfl,HA,rU,lM,tL,HB⟩:=hrel
         cases gk with
         | zero=>exact absurd HA.o (by simp [lJ.l1])
         | succ k3 =>
          have H:=HA.o;clear HA;simp only [lJ.l1] at H
          revert H;refine bv ?_
          intro zm H
          revert H;refine bv ?_
          intro N9 H
          revert H;refine bK ?_ ?_
          ·intro G9 H
           revert H;refine bv ?_
           intro vZ H
           revert H;refine bv ?_
           intro Dq H
           revert H;refine bv ?_
           intro Sk H
           revert H;refine bH ?_ ?_
           ·intro Kt atH H;have H':=am H;clear H;have UF:=Df.o;have UJ:=Dh.o;have KR:=fM lM;obtain ⟨AA,AC,xc,M8,N7,e13,gY,yo,yn⟩:=wi (lN lZ.o fw);obtain rfl:vv=xc:=(by injection e13);replace gY:=cb HB gY;have Gx:=am yn;have Nl:=am yo;clear yn yo;obtain ⟨p44,q44,ac5,ao6,atW,e44,K4,Uw,TV⟩:=wi (lN lZ.o fw);obtain rfl:vv=ac5:=(by injection e44);replace K4:=cb HB K4;have acx:=am TV;have ap6:=am Uw;clear TV Uw;(try (have ea_:=Option.some.inj (gY.symm.trans K4);injection ea_ with ea_ en_ ec_;subst ea_;subst ec_;clear en_));obtain ⟨p47,q47,asU,e47,VB⟩:=wi (Kd.jw acx.o iC)
            cases e47
            replace VB:=cb HB VB;have akB:=fM tL;obtain ⟨p45,q45,ac6,ao7,atY,e45,VA,Ux,TW⟩:=wi (lN lU.o fw);obtain rfl:YE=ac6:=(by injection e45);replace VA:=cb HB VA;have acy:=am TW;have ap7:=am Ux;clear TW Ux;obtain ⟨p48,q48,asV,e48,VC⟩:=wi (Kd.jw acy.o iC)
            cases e48
            replace VC:=cb HB VC
            go_wp2
            repeat (go_quiet (fail);try go_wp2)
            go_roundg k3
            case measure=>have:=HJ2.o;have:=dD.o;have:=rU.o;omega
            case rel=>exact ⟨(wrap64 (iC+1)),fg,H',⟨by have:=HJ2.o;have:=dD.o;have:=rU.o;omega⟩,⟨ks lM⟩,⟨ks tL⟩,⟨bs HB⟩⟩
           ·intro yl Kt atH H;obtain rfl:=si H;have UG:=Df.o;have UK:=Dh.o;have Tz:=fM lM;obtain ⟨AA,AC,xc,M8,N7,e13,gY,yo,yn⟩:=wi (lN lZ.o fw);obtain rfl:vv=xc:=(by injection e13);replace gY:=cb HB gY;have Gx:=am yn;have Nl:=am yo;clear yn yo;obtain ⟨p44,q44,ac5,ao6,atW,e44,K4,Uw,TV⟩:=wi (lN lZ.o fw);obtain rfl:vv=ac5:=(by injection e44);replace K4:=cb HB K4;have acx:=am TV;have ap6:=am Uw;clear TV Uw;(try (have ea_:=Option.some.inj (gY.symm.trans K4);injection ea_ with ea_ en_ ec_;subst ea_;subst ec_;clear en_));obtain ⟨p47,q47,asU,e47,VB⟩:=wi (Kd.jw acx.o iC)
            cases e47
            replace VB:=cb HB VB;have ZM:=fM tL;obtain ⟨p45,q45,ac6,ao7,atY,e45,VA,Ux,TW⟩:=wi (lN lU.o fw);obtain rfl:YE=ac6:=(by injection e45);replace VA:=cb HB VA;have acy:=am TW;have ap7:=am Ux;clear TW Ux;obtain ⟨p48,q48,asV,e48,VC⟩:=wi (Kd.jw acy.o iC)
            cases e48
            replace VC:=cb HB VC
            go_wp2
            repeat (go_quiet (fail);try go_wp2)
            go_ret
            exact ⟨ff,bs HB⟩
          ·intro G9 H;have H':=am H;clear H;have aez:=Df.o;have aeF:=Dh.o;have ZN:=fM lM;obtain ⟨AA,AC,xc,M8,N7,e13,gY,yo,yn⟩:=wi (lN lZ.o fw);obtain rfl:vv=xc:=(by injection e13);replace gY:=cb HB gY;have Gx:=am yn;have Nl:=am yo;clear yn yo
           go_wp2
           repeat (go_quiet (fail);try go_wp2)
           go_roundg k3
           case measure=>have:=HJ2.o;have:=dD.o;have:=rU.o;omega
           case rel=>exact ⟨(wrap64 (fw+1)),fg,H',⟨by have:=HJ2.o;have:=dD.o;have:=rU.o;omega⟩,⟨ks lM⟩,⟨ks tL⟩,⟨bs HB⟩⟩
       ·intro c17 qD Dp H
        have ajD:(((aK aN fw).f0).length == ((aK aT fw).f0).length)=false:=by first|simpa using c17|(simp at c17 ⊢;omega)
        obtain rfl:=si H;have awQ:=Df.o;have axc:=Dh.o;have aec:=fM lM;obtain ⟨p42,q42,vv,ao4,atS,e42,Fy,Uu,TT⟩:=wi (lN lZ.o fw)
        cases e42
        replace Fy:=cb HB Fy;have aqZ:=am TT;have ap4:=am Uu;clear TT Uu;have KS:=fM tL;obtain ⟨p43,q43,YE,ao5,atU,e43,O5,Uv,TU⟩:=wi (lN lU.o fw)
        cases e43
        replace O5:=cb HB O5;have aq0:=am TU;have ap5:=am Uv;clear TU Uv
        go_wp2
        repeat (go_quiet (fail);try go_wp2)
        go_ret
        exact ⟨ff,bs HB⟩
      ·intro ry H;obtain rfl:=si H;have aI9:=Df.o;have aJT:=Dh.o;have aF6:=fM lM
       go_wp2
       repeat (go_quiet (fail);try go_wp2)
       go_ret
       exact ⟨ff,bs HB⟩
end Go.Proofs.YtapilmimgiaglaaGreatDoor.QX
