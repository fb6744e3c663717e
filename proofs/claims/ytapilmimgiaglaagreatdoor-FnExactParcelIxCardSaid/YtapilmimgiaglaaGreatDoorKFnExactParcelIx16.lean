import Derived.Test.YtapilmimgiaglaaGreatDoorKFnExactParcelIx15
set_option maxHeartbeats 8000000
set_option maxRecDepth 100000
set_option linter.unusedSimpArgs false
set_option linter.unusedVariables false
namespace Go.Proofs.YtapilmimgiaglaaGreatDoor.QX
open Go.RowKit Go.Proofs.bB.eH Go.Proofs.bB.PrintLast Go.Proofs.bB.PrintMore
attribute [local go_sem] oU o5 oZ o8 oW o7 oV o6
theorem tX.calls (k:Nat)(a0:Int)(r:List aH)(w:World)(H:tX.f k a0=some r) :
  Calls Tryz.prog 83 #[.int .i64 a0] w fun e w'=>∃ lX:Value,e=.returned (lX)∧Kd.R iR 111 w' w.heap.size (fun _=>True) lX r∧Below w.heap.size w w':=by
 have ZZ:=Tryz.underlying111;have HB:=am (Below.refl w.heap.size w);unfold tX.f at H
 revert H;refine bH ?_ ?_
 ·intro gQ jE H;replace H:=bo H;obtain ⟨⟨t58,t59,t60,t61⟩,A3,H⟩:=H;(try dsimp only at H);replace H:=bo H;obtain ⟨⟨t62,t66,t68,t69⟩,A4,H⟩:=H;(try dsimp only at H);obtain ⟨y52,afj⟩:∃ y_:List aH,y_=(([(⟨t58,t59,t60,t61⟩:aH),(⟨(⟨#[78,79,84]⟩:ByteArray),0,2,(⟨#[116]⟩:ByteArray)⟩:aH),(⟨t62,t66,t68,t69⟩:aH)]:List aH)):=⟨_,rfl⟩
  replace H:(some y52)=some r:=ye afj H
  have aiD:=am afj;clear afj;obtain rfl:=si H
  go_in
  try go_wp2_with (first|((with_reducible refine aJ (N:=4) rfl ?_);refine bz 4 (cs:=#[.string (⟨#[]⟩:ByteArray),.int .i64 0,.int .i64 0,.string (⟨#[]⟩:ByteArray)]) (t:=111) HB ?_;clear HB;intro gy hg w5 bR Bi hb HB;clear hb hg;have Dw:=aX bR))
  have cK:af (((((w5.setCell ⟨gy,0,none⟩ (.string (⟨#[78,79,84]⟩:ByteArray))).setCell ⟨gy,1,none⟩ (.int .i64 0)).setCell ⟨gy,2,none⟩ (.int .i64 2)).setCell ⟨gy,3,none⟩ (.string (⟨#[116]⟩:ByteArray))).heap[gy]? = some (.cells #[.string (⟨#[78,79,84]⟩:ByteArray),.int .i64 0,.int .i64 2,.string (⟨#[116]⟩:ByteArray)] 111 (0,0))):=⟨kp bR⟩;have cO:af (Below w.heap.size w ((((w5.setCell ⟨gy,0,none⟩ (.string (⟨#[78,79,84]⟩:ByteArray))).setCell ⟨gy,1,none⟩ (.int .i64 0)).setCell ⟨gy,2,none⟩ (.int .i64 2)).setCell ⟨gy,3,none⟩ (.string (⟨#[116]⟩:ByteArray)))):=⟨bs HB⟩;(try clear bR);(try clear HB)
  generalize ((((w5.setCell ⟨gy,0,none⟩ (.string (⟨#[78,79,84]⟩:ByteArray))).setCell ⟨gy,1,none⟩ (.int .i64 0)).setCell ⟨gy,2,none⟩ (.int .i64 2)).setCell ⟨gy,3,none⟩ (.string (⟨#[116]⟩:ByteArray)))=w7 at cK cO ⊢
  have bR:=cK;have HB:=cO;clear cK cO;replace bR:=am (bD bR.o);replace HB:=am (cZ HB.o);refine gD 7 (hb4 bR) (fun hHeld=>?_)
  generalize w7.drew=w8 at bR HB hHeld ⊢
  refine pu 0 10 #[true,false,false,false,false,false,false] ?_
  refine pu 3 13 #[true,false,false,true,false,false,false] ?_
  refine tu 2 12 #[true,false,true,true,false,false,false] ?_
  refine o9 (i:=1) (N:=some 11) #[true,true,true,true,false,false,false] rfl rfl (by kernel_rfl) (by decide) (fun K hK=>?_);refine ZJ Tryz.func114 (by kernel_rfl) rfl #[.string (⟨#[114,100]⟩:ByteArray)] (by rfl) rfl rfl (by rfl) (by (try simp only [List.map_toArray,List.map_cons,List.map_nil]);first|done|rfl|(simp only [List.length_drop,List.length_take];rfl)) ?_;(with_reducible refine (uI.calls (⟨#[114,100]⟩:ByteArray) t58 t59 t60 t61 _ A3.o).mono ?_);rintro e w9 ⟨rfl,hb⟩;refine ⟨_,rfl,?_⟩;replace bR:=am (aU (g:=gy) (o:=.cells #[.string (⟨#[78,79,84]⟩:ByteArray),.int .i64 0,.int .i64 2,.string (⟨#[116]⟩:ByteArray)] 111 (0,0)) (ks bR) hb);replace HB:=bq HB hb;(try clear hb);refine hK.out _ _ (hb4 bR).o (fun hHeld=>?_);clear hK K;refine nA 11 ?_;refine o9 (i:=4) (N:=some 14) #[true,true,true,true,true,false,false] rfl rfl (by kernel_rfl) (by decide) (fun K hK=>?_);refine ZJ Tryz.func115 (by kernel_rfl) rfl #[.string (⟨#[76,73,78]⟩:ByteArray),.string (⟨#[110,114,113,63,110]⟩:ByteArray)] (by rfl) rfl rfl (by rfl) (by (try simp only [List.map_toArray,List.map_cons,List.map_nil]);first|done|rfl|(simp only [List.length_drop,List.length_take];rfl)) ?_;(with_reducible refine (wD.calls (⟨#[76,73,78]⟩:ByteArray) (⟨#[110,114,113,63,110]⟩:ByteArray) t62 t66 t68 t69 _ A4.o).mono ?_);rintro e qo ⟨rfl,hb⟩;refine ⟨_,rfl,?_⟩;replace bR:=am (aU (g:=gy) (o:=.cells #[.string (⟨#[78,79,84]⟩:ByteArray),.int .i64 0,.int .i64 2,.string (⟨#[116]⟩:ByteArray)] 111 (0,0)) (ks bR) hb);replace HB:=bq HB hb;(try clear hb);refine hK.out _ _ (hb4 bR).o (fun hHeld=>?_);clear hK K;refine nA 14 ?_;refine o9 (i:=5) (N:=some 15) #[true,true,true,true,true,true,false] rfl rfl (by kernel_rfl) (by decide) (fun K hK=>?_);refine Kd.zR iR _ 111 ?hg (N:=15) ?hd (xs:=([(⟨t58,t59,t60,t61⟩:aH),(⟨(⟨#[78,79,84]⟩:ByteArray),0,2,(⟨#[116]⟩:ByteArray)⟩:aH),(⟨t62,t66,t68,t69⟩:aH)]:List aH)) (inner:=[.string t58,.int .i64 t59,.int .i64 t60,.string t61,.string (⟨#[78,79,84]⟩:ByteArray),.int .i64 0,.int .i64 2,.string (⟨#[116]⟩:ByteArray),.string t62,.int .i64 t66,.int .i64 t68,.string t69]) (ok:=fun _=>True) (okp:=fun _=>True) ?hr ?hp (fun _ hk=>hk) trivial (Below.refl _ _) (Nat.le_refl _) (by simp) ?_;(case hd=>rfl);(case hg=>rfl);(case hr=>first|(go_simp;done)|(go_simp;rfl));(case hp=>exact (aV.c4 (show Kd.M iR _ _ _ (⟨t58,t59,t60,t61⟩:aH) [.string t58,.int .i64 t59,.int .i64 t60,.string t61] from (nE _ _ _ (⟨t58,t59,t60,t61⟩:aH) )) (aV.c4 (show Kd.M iR _ _ _ (⟨(⟨#[78,79,84]⟩:ByteArray),0,2,(⟨#[116]⟩:ByteArray)⟩:aH) [.string (⟨#[78,79,84]⟩:ByteArray),.int .i64 0,.int .i64 2,.string (⟨#[116]⟩:ByteArray)] from (nE _ _ _ (⟨(⟨#[78,79,84]⟩:ByteArray),0,2,(⟨#[116]⟩:ByteArray)⟩:aH) )) (aV.c4 (show Kd.M iR _ _ _ (⟨t62,t66,t68,t69⟩:aH) [.string t62,.int .i64 t66,.int .i64 t68,.string t69] from (nE _ _ _ (⟨t62,t66,t68,t69⟩:aH) )) (aV.none _ _)))));intro aMv jY z8 hb hg_ hnew_;clear hg_ hnew_
  (first|rw [← aiD.o] at z8|(simp only [Int.reduceToNat] at z8;rw [← aiD.o] at z8))
  have aqm:=am (Kd.ic (Kd.nL z8 (g:=gy) (o:=.cells #[.string (⟨#[78,79,84]⟩:ByteArray),.int .i64 0,.int .i64 2,.string (⟨#[116]⟩:ByteArray)] 111 (0,0)) (ks bR)) (bJ (bs HB)));replace bR:=am (aU (g:=gy) (o:=.cells #[.string (⟨#[78,79,84]⟩:ByteArray),.int .i64 0,.int .i64 2,.string (⟨#[116]⟩:ByteArray)] 111 (0,0)) (ks bR) hb);replace HB:=bq HB hb;clear hb z8;refine hK.out _ _ (hb4 bR).o (fun hHeld=>?_);clear hK K;refine nA 15 ?_;refine pu 6 2 #[true,true,true,true,true,true,true] ?_
  refine ek (by kernel_rfl) ?_
  try go_wp2
  go_ret
  exact ⟨_,ff,by (with_reducible repeat (first|apply Kd.kM|apply Kd.jK|apply Kd.eO));exact Kd.dE aqm.o (fun _ hk=>trivial),bs HB⟩
 ·intro c2 gQ jE H;have abO:=am H;clear H
  go_in
  go_upto_if 16 with (first|((with_reducible refine aJ (N:=4) rfl ?_);refine bz 4 (cs:=#[.string (⟨#[]⟩:ByteArray),.int .i64 0,.int .i64 0,.string (⟨#[]⟩:ByteArray)]) (t:=111) HB ?_;clear HB;intro gy hg tF bR Bi hb HB;clear hb hg;have KO:=aX bR))
  (try simp only [Act.put,List.setIfInBounds_toArray,List.set_cons_zero,List.set_cons_succ])
  go_cut [16] (fun v16 wc=>∃ (kq:Nat) (abd:Bool),v16=.bool abd∧af (tX.j0 kq a0 abd (⟨#[78,79,84]⟩:ByteArray) 0 2 (⟨#[116]⟩:ByteArray)=some r)∧af (kq≤k)∧af (wc.heap[gy]? = some (.cells #[.string (⟨#[78,79,84]⟩:ByteArray),.int .i64 0,.int .i64 2,.string (⟨#[116]⟩:ByteArray)] 111 (0,0)))∧af (Below w.heap.size w wc))
  case first =>
   have H:=abO.o;clear abO
   revert H;refine bH ?_ ?_
   ·intro yj Y9 H
    (first|rw [yj]|(simp only [fC,gK];rw [yj])|rw [Y9]|skip)
    have H':=am H;clear H
    go_wp2
    go_meet
    case rel=>exact ⟨_,((a0 == 2)),fg,H',⟨fl⟩,⟨kp bR⟩,⟨bs HB⟩⟩
   ·intro c16 yj Y9 H
    (first|rw [yj]|(simp only [fC,gK];rw [yj])|rw [Y9]|skip)
    have H':=am H;clear H
    go_wp2
    go_meet
    case rel=>exact ⟨_,((a0 == 4)),fg,H',⟨fl⟩,⟨kp bR⟩,⟨bs HB⟩⟩
  case rest =>
   clear abO
   try clear c2
   try clear gQ
   try clear jE
   try clear KO
   obtain ⟨kq,abd,rfl,HA,aD4,bR,HB⟩:=hcut
   cases kq with
   | zero=>exact absurd HA.o (by simp [tX.j0])
   | succ aLK =>
    have H:=HA.o;clear HA;simp only [tX.j0] at H
    obtain rfl|rfl:=bt abd
    ·replace H:=dm H;replace H:=bo H;obtain ⟨⟨t70,t71,t72,t74⟩,A18,H⟩:=H;(try dsimp only at H);replace H:=bo H;obtain ⟨⟨t80,zL,t82,t85⟩,A19,H⟩:=H;(try dsimp only at H);obtain ⟨y53,afk⟩:∃ y_:List aH,y_=(([(⟨t70,t71,t72,t74⟩:aH),(⟨t80,zL,t82,t85⟩:aH)]:List aH)):=⟨_,rfl⟩
     replace H:(some y53)=some r:=ye afk H
     have aiE:=am afk;clear afk;obtain rfl:=si H
     go_wp2_with (first|(go_at_call 114;refine (uI.calls (⟨#[114,114,100]⟩:ByteArray) t70 t71 t72 t74 _ A18.o).mono ?_;rintro e uj ⟨rfl,hb⟩;replace bR:=am (aU (g:=gy) (o:=.cells #[.string (⟨#[78,79,84]⟩:ByteArray),.int .i64 0,.int .i64 2,.string (⟨#[116]⟩:ByteArray)] 111 (0,0)) (ks bR) hb);replace HB:=bq HB hb;(try clear hb))|(go_at_call 115;refine (wD.calls (⟨#[76,73,78]⟩:ByteArray) (⟨#[110,113,63,116]⟩:ByteArray) t80 zL t82 t85 _ A19.o).mono ?_;rintro e CJ ⟨rfl,hb⟩;replace bR:=am (aU (g:=gy) (o:=.cells #[.string (⟨#[78,79,84]⟩:ByteArray),.int .i64 0,.int .i64 2,.string (⟨#[116]⟩:ByteArray)] 111 (0,0)) (ks bR) hb);replace HB:=bq HB hb;(try clear hb))|((with_reducible refine aJ (N:=23) rfl ?_);refine rl iR 111 (N:=23) (xs:=([(⟨t70,t71,t72,t74⟩:aH),(⟨t80,zL,t82,t85⟩:aH)]:List aH)) (inner:=[.string t70,.int .i64 t71,.int .i64 t72,.string t74,.string t80,.int .i64 zL,.int .i64 t82,.string t85]) ?hp ?_;(case hp=>exact (aV.c4 (show Kd.M iR _ _ _ (⟨t70,t71,t72,t74⟩:aH) [.string t70,.int .i64 t71,.int .i64 t72,.string t74] from (nE _ _ _ (⟨t70,t71,t72,t74⟩:aH) )) (aV.c4 (show Kd.M iR _ _ _ (⟨t80,zL,t82,t85⟩:aH) [.string t80,.int .i64 zL,.int .i64 t82,.string t85] from (nE _ _ _ (⟨t80,zL,t82,t85⟩:aH) )) (aV.none _ _))));intro aMw CK Cg hb hg_ hnew_;clear hg_ hnew_;(first|rw [← aiE.o] at Cg|(simp only [Int.reduceToNat] at Cg;rw [← aiE.o] at Cg));have aqn:=am (Kd.ic (Kd.nL Cg (g:=gy) (o:=.cells #[.string (⟨#[78,79,84]⟩:ByteArray),.int .i64 0,.int .i64 2,.string (⟨#[116]⟩:ByteArray)] 111 (0,0)) (ks bR)) (bJ (bs HB)));replace bR:=am (aU (g:=gy) (o:=.cells #[.string (⟨#[78,79,84]⟩:ByteArray),.int .i64 0,.int .i64 2,.string (⟨#[116]⟩:ByteArray)] 111 (0,0)) (ks bR) hb);replace HB:=bq HB hb;clear hb Cg))
     go_ret
     exact ⟨_,ff,by (with_reducible repeat (first|apply Kd.kM|apply Kd.jK|apply Kd.eO));exact Kd.dE aqn.o (fun _ hk=>trivial),bs HB⟩
    ·replace H:=di H
     revert H;refine bH ?_ ?_
     ·intro vZ Kr H;replace H:=bo H;obtain ⟨⟨t86,t87,D9,t89⟩,Na,H⟩:=H;(try dsimp only at H);replace H:=bo H;obtain ⟨⟨Ea,t91,Eb,t93⟩,A26,H⟩:=H;(try dsimp only at H);obtain ⟨y54,afl⟩:∃ y_:List aH,y_=(([(⟨t86,t87,D9,t89⟩:aH),(⟨(⟨#[78,79,84]⟩:ByteArray),0,2,(⟨#[116]⟩:ByteArray)⟩:aH),(⟨Ea,t91,Eb,t93⟩:aH)]:List aH)):=⟨_,rfl⟩
      replace H:(some y54)=some r:=ye afl H
      have aiF:=am afl;clear afl;obtain rfl:=si H
      try go_wp2
      replace bR:=am (bD bR.o);replace HB:=am (cZ HB.o);refine gD 7 (hb4 bR) (fun hHeld=>?_)
      generalize wc.drew=Ec at bR HB hHeld ⊢
      refine pu 0 26 #[true,false,false,false,false,false,false] ?_
      refine pu 3 29 #[true,false,false,true,false,false,false] ?_
      refine tu 2 28 #[true,false,true,true,false,false,false] ?_
      refine o9 (i:=1) (N:=some 27) #[true,true,true,true,false,false,false] rfl rfl (by kernel_rfl) (by decide) (fun K hK=>?_);refine ZJ Tryz.func114 (by kernel_rfl) rfl #[.string (⟨#[114,114,100]⟩:ByteArray)] (by rfl) rfl rfl (by rfl) (by (try simp only [List.map_toArray,List.map_cons,List.map_nil]);first|done|rfl|(simp only [List.length_drop,List.length_take];rfl)) ?_;(with_reducible refine (uI.calls (⟨#[114,114,100]⟩:ByteArray) t86 t87 D9 t89 _ Na.o).mono ?_);rintro e MO ⟨rfl,hb⟩;refine ⟨_,rfl,?_⟩;replace bR:=am (aU (g:=gy) (o:=.cells #[.string (⟨#[78,79,84]⟩:ByteArray),.int .i64 0,.int .i64 2,.string (⟨#[116]⟩:ByteArray)] 111 (0,0)) (ks bR) hb);replace HB:=bq HB hb;(try clear hb);refine hK.out _ _ (hb4 bR).o (fun hHeld=>?_);clear hK K;refine nA 27 ?_;refine o9 (i:=4) (N:=some 30) #[true,true,true,true,true,false,false] rfl rfl (by kernel_rfl) (by decide) (fun K hK=>?_);refine ZJ Tryz.func115 (by kernel_rfl) rfl #[.string (⟨#[76,73,78]⟩:ByteArray),.string (⟨#[110,113]⟩:ByteArray)] (by rfl) rfl rfl (by rfl) (by (try simp only [List.map_toArray,List.map_cons,List.map_nil]);first|done|rfl|(simp only [List.length_drop,List.length_take];rfl)) ?_;(with_reducible refine (wD.calls (⟨#[76,73,78]⟩:ByteArray) (⟨#[110,113]⟩:ByteArray) Ea t91 Eb t93 _ A26.o).mono ?_);rintro e w29 ⟨rfl,hb⟩;refine ⟨_,rfl,?_⟩;replace bR:=am (aU (g:=gy) (o:=.cells #[.string (⟨#[78,79,84]⟩:ByteArray),.int .i64 0,.int .i64 2,.string (⟨#[116]⟩:ByteArray)] 111 (0,0)) (ks bR) hb);replace HB:=bq HB hb;(try clear hb);refine hK.out _ _ (hb4 bR).o (fun hHeld=>?_);clear hK K;refine nA 30 ?_;refine o9 (i:=5) (N:=some 31) #[true,true,true,true,true,true,false] rfl rfl (by kernel_rfl) (by decide) (fun K hK=>?_);refine Kd.zR iR _ 111 ?hg (N:=31) ?hd (xs:=([(⟨t86,t87,D9,t89⟩:aH),(⟨(⟨#[78,79,84]⟩:ByteArray),0,2,(⟨#[116]⟩:ByteArray)⟩:aH),(⟨Ea,t91,Eb,t93⟩:aH)]:List aH)) (inner:=[.string t86,.int .i64 t87,.int .i64 D9,.string t89,.string (⟨#[78,79,84]⟩:ByteArray),.int .i64 0,.int .i64 2,.string (⟨#[116]⟩:ByteArray),.string Ea,.int .i64 t91,.int .i64 Eb,.string t93]) (ok:=fun _=>True) (okp:=fun _=>True) ?hr ?hp (fun _ hk=>hk) trivial (Below.refl _ _) (Nat.le_refl _) (by simp) ?_;(case hd=>rfl);(case hg=>rfl);(case hr=>first|(go_simp;done)|(go_simp;rfl));(case hp=>exact (aV.c4 (show Kd.M iR _ _ _ (⟨t86,t87,D9,t89⟩:aH) [.string t86,.int .i64 t87,.int .i64 D9,.string t89] from (nE _ _ _ (⟨t86,t87,D9,t89⟩:aH) )) (aV.c4 (show Kd.M iR _ _ _ (⟨(⟨#[78,79,84]⟩:ByteArray),0,2,(⟨#[116]⟩:ByteArray)⟩:aH) [.string (⟨#[78,79,84]⟩:ByteArray),.int .i64 0,.int .i64 2,.string (⟨#[116]⟩:ByteArray)] from (nE _ _ _ (⟨(⟨#[78,79,84]⟩:ByteArray),0,2,(⟨#[116]⟩:ByteArray)⟩:aH) )) (aV.c4 (show Kd.M iR _ _ _ (⟨Ea,t91,Eb,t93⟩:aH) [.string Ea,.int .i64 t91,.int .i64 Eb,.string t93] from (nE _ _ _ (⟨Ea,t91,Eb,t93⟩:aH) )) (aV.none _ _)))));intro aMx uk oL hb hg_ hnew_;clear hg_ hnew_
      (first|rw [← aiF.o] at oL|(simp only [Int.reduceToNat] at oL;rw [← aiF.o] at oL))
      have aqp:=am (Kd.ic (Kd.nL oL (g:=gy) (o:=.cells #[.string (⟨#[78,79,84]⟩:ByteArray),.int .i64 0,.int .i64 2,.string (⟨#[116]⟩:ByteArray)] 111 (0,0)) (ks bR)) (bJ (bs HB)));replace bR:=am (aU (g:=gy) (o:=.cells #[.string (⟨#[78,79,84]⟩:ByteArray),.int .i64 0,.int .i64 2,.string (⟨#[116]⟩:ByteArray)] 111 (0,0)) (ks bR) hb);replace HB:=bq HB hb;clear hb oL;refine hK.out _ _ (hb4 bR).o (fun hHeld=>?_);clear hK K;refine nA 31 ?_;refine pu 6 2 #[true,true,true,true,true,true,true] ?_
      refine ek (by kernel_rfl) ?_
      try go_wp2
      go_ret
      exact ⟨_,ff,by (with_reducible repeat (first|apply Kd.kM|apply Kd.jK|apply Kd.eO));exact Kd.dE aqp.o (fun _ hk=>trivial),bs HB⟩
     ·intro c24 vZ Kr H
      revert H;refine bH ?_ ?_
      ·intro Sl Zc H;replace H:=bo H;obtain ⟨⟨MC,ME,MF,MG⟩,QO,H⟩:=H;(try dsimp only at H);replace H:=bo H;obtain ⟨⟨MH,MI,Mh,Mi⟩,QP,H⟩:=H;(try dsimp only at H);obtain ⟨y55,afm⟩:∃ y_:List aH,y_=(([(⟨MC,ME,MF,MG⟩:aH),(⟨MH,MI,Mh,Mi⟩:aH)]:List aH)):=⟨_,rfl⟩
       replace H:(some y55)=some r:=ye afm H
       have aiG:=am afm;clear afm;obtain rfl:=si H
       go_wp2_with (first|(go_at_call 114;refine (uI.calls (⟨#[114,100]⟩:ByteArray) MC ME MF MG _ QO.o).mono ?_;rintro e w35 ⟨rfl,hb⟩;replace bR:=am (aU (g:=gy) (o:=.cells #[.string (⟨#[78,79,84]⟩:ByteArray),.int .i64 0,.int .i64 2,.string (⟨#[116]⟩:ByteArray)] 111 (0,0)) (ks bR) hb);replace HB:=bq HB hb;(try clear hb))|(go_at_call 115;refine (wD.calls (⟨#[73,84,77]⟩:ByteArray) (⟨#[114,110]⟩:ByteArray) MH MI Mh Mi _ QP.o).mono ?_;rintro e w36 ⟨rfl,hb⟩;replace bR:=am (aU (g:=gy) (o:=.cells #[.string (⟨#[78,79,84]⟩:ByteArray),.int .i64 0,.int .i64 2,.string (⟨#[116]⟩:ByteArray)] 111 (0,0)) (ks bR) hb);replace HB:=bq HB hb;(try clear hb))|((with_reducible refine aJ (N:=38) rfl ?_);refine rl iR 111 (N:=38) (xs:=([(⟨MC,ME,MF,MG⟩:aH),(⟨MH,MI,Mh,Mi⟩:aH)]:List aH)) (inner:=[.string MC,.int .i64 ME,.int .i64 MF,.string MG,.string MH,.int .i64 MI,.int .i64 Mh,.string Mi]) ?hp ?_;(case hp=>exact (aV.c4 (show Kd.M iR _ _ _ (⟨MC,ME,MF,MG⟩:aH) [.string MC,.int .i64 ME,.int .i64 MF,.string MG] from (nE _ _ _ (⟨MC,ME,MF,MG⟩:aH) )) (aV.c4 (show Kd.M iR _ _ _ (⟨MH,MI,Mh,Mi⟩:aH) [.string MH,.int .i64 MI,.int .i64 Mh,.string Mi] from (nE _ _ _ (⟨MH,MI,Mh,Mi⟩:aH) )) (aV.none _ _))));intro aMy Qd UQ hb hg_ hnew_;clear hg_ hnew_;(first|rw [← aiG.o] at UQ|(simp only [Int.reduceToNat] at UQ;rw [← aiG.o] at UQ));have aqr:=am (Kd.ic (Kd.nL UQ (g:=gy) (o:=.cells #[.string (⟨#[78,79,84]⟩:ByteArray),.int .i64 0,.int .i64 2,.string (⟨#[116]⟩:ByteArray)] 111 (0,0)) (ks bR)) (bJ (bs HB)));replace bR:=am (aU (g:=gy) (o:=.cells #[.string (⟨#[78,79,84]⟩:ByteArray),.int .i64 0,.int .i64 2,.string (⟨#[116]⟩:ByteArray)] 111 (0,0)) (ks bR) hb);replace HB:=bq HB hb;clear hb UQ))
       go_ret
       exact ⟨_,ff,by (with_reducible repeat (first|apply Kd.kM|apply Kd.jK|apply Kd.eO));exact Kd.dE aqr.o (fun _ hk=>trivial),bs HB⟩
      ·intro c32 Sl Zc H
       revert H;refine bH ?_ ?_
       ·intro Sm ajI H;replace H:=bo H;obtain ⟨⟨Mj,Mk,Ml,Mm⟩,A40,H⟩:=H;(try dsimp only at H);replace H:=bo H;obtain ⟨⟨Mo,Mq,Mr,Ms⟩,QQ,H⟩:=H;(try dsimp only at H);obtain ⟨y56,afn⟩:∃ y_:List aH,y_=(([(⟨Mj,Mk,Ml,Mm⟩:aH),(⟨Mo,Mq,Mr,Ms⟩:aH)]:List aH)):=⟨_,rfl⟩
        replace H:(some y56)=some r:=ye afn H
        have aiH:=am afn;clear afn;obtain rfl:=si H
        go_wp2_with (first|(go_at_call 114;refine (uI.calls (⟨#[114,100]⟩:ByteArray) Mj Mk Ml Mm _ A40.o).mono ?_;rintro e vN ⟨rfl,hb⟩;replace bR:=am (aU (g:=gy) (o:=.cells #[.string (⟨#[78,79,84]⟩:ByteArray),.int .i64 0,.int .i64 2,.string (⟨#[116]⟩:ByteArray)] 111 (0,0)) (ks bR) hb);replace HB:=bq HB hb;(try clear hb))|(go_at_call 115;refine (wD.calls (⟨#[73,84,77]⟩:ByteArray) (⟨#[114,122,63,116]⟩:ByteArray) Mo Mq Mr Ms _ QQ.o).mono ?_;rintro e Qe ⟨rfl,hb⟩;replace bR:=am (aU (g:=gy) (o:=.cells #[.string (⟨#[78,79,84]⟩:ByteArray),.int .i64 0,.int .i64 2,.string (⟨#[116]⟩:ByteArray)] 111 (0,0)) (ks bR) hb);replace HB:=bq HB hb;(try clear hb))|((with_reducible refine aJ (N:=45) rfl ?_);refine rl iR 111 (N:=45) (xs:=([(⟨Mj,Mk,Ml,Mm⟩:aH),(⟨Mo,Mq,Mr,Ms⟩:aH)]:List aH)) (inner:=[.string Mj,.int .i64 Mk,.int .i64 Ml,.string Mm,.string Mo,.int .i64 Mq,.int .i64 Mr,.string Ms]) ?hp ?_;(case hp=>exact (aV.c4 (show Kd.M iR _ _ _ (⟨Mj,Mk,Ml,Mm⟩:aH) [.string Mj,.int .i64 Mk,.int .i64 Ml,.string Mm] from (nE _ _ _ (⟨Mj,Mk,Ml,Mm⟩:aH) )) (aV.c4 (show Kd.M iR _ _ _ (⟨Mo,Mq,Mr,Ms⟩:aH) [.string Mo,.int .i64 Mq,.int .i64 Mr,.string Ms] from (nE _ _ _ (⟨Mo,Mq,Mr,Ms⟩:aH) )) (aV.none _ _))));intro aMz F9 Ch hb hg_ hnew_;clear hg_ hnew_;(first|rw [← aiH.o] at Ch|(simp only [Int.reduceToNat] at Ch;rw [← aiH.o] at Ch));have aqs:=am (Kd.ic (Kd.nL Ch (g:=gy) (o:=.cells #[.string (⟨#[78,79,84]⟩:ByteArray),.int .i64 0,.int .i64 2,.string (⟨#[116]⟩:ByteArray)] 111 (0,0)) (ks bR)) (bJ (bs HB)));replace bR:=am (aU (g:=gy) (o:=.cells #[.string (⟨#[78,79,84]⟩:ByteArray),.int .i64 0,.int .i64 2,.string (⟨#[116]⟩:ByteArray)] 111 (0,0)) (ks bR) hb);replace HB:=bq HB hb;clear hb Ch))
        go_ret
        exact ⟨_,ff,by (with_reducible repeat (first|apply Kd.kM|apply Kd.jK|apply Kd.eO));exact Kd.dE aqs.o (fun _ hk=>trivial),bs HB⟩
       ·intro c39 Sm ajI H
        revert H;refine bH ?_ ?_
        ·intro Oc Sq H;replace H:=bo H;obtain ⟨⟨Mt,Mv,Mw,Mx⟩,A47,H⟩:=H;(try dsimp only at H);obtain ⟨y57,afq⟩:∃ y_:List aH,y_=(([(⟨Mt,Mv,Mw,Mx⟩:aH),(⟨(⟨#[65,67,75]⟩:ByteArray),1,1,(⟨#[110,110,63,110]⟩:ByteArray)⟩:aH)]:List aH)):=⟨_,rfl⟩
         replace H:(some y57)=some r:=ye afq H
         have aiJ:=am afq;clear afq;obtain rfl:=si H
         go_wp2_with (first|(go_at_call 114;refine (uI.calls (⟨#[114,100]⟩:ByteArray) Mt Mv Mw Mx _ A47.o).mono ?_;rintro e WX ⟨rfl,hb⟩;replace bR:=am (aU (g:=gy) (o:=.cells #[.string (⟨#[78,79,84]⟩:ByteArray),.int .i64 0,.int .i64 2,.string (⟨#[116]⟩:ByteArray)] 111 (0,0)) (ks bR) hb);replace HB:=bq HB hb;(try clear hb))|((with_reducible refine aJ (N:=51) rfl ?_);refine rl iR 111 (N:=51) (xs:=([(⟨Mt,Mv,Mw,Mx⟩:aH),(⟨(⟨#[65,67,75]⟩:ByteArray),1,1,(⟨#[110,110,63,110]⟩:ByteArray)⟩:aH)]:List aH)) (inner:=[.string Mt,.int .i64 Mv,.int .i64 Mw,.string Mx,.string (⟨#[65,67,75]⟩:ByteArray),.int .i64 1,.int .i64 1,.string (⟨#[110,110,63,110]⟩:ByteArray)]) ?hp ?_;(case hp=>exact (aV.c4 (show Kd.M iR _ _ _ (⟨Mt,Mv,Mw,Mx⟩:aH) [.string Mt,.int .i64 Mv,.int .i64 Mw,.string Mx] from (nE _ _ _ (⟨Mt,Mv,Mw,Mx⟩:aH) )) (aV.c4 (show Kd.M iR _ _ _ (⟨(⟨#[65,67,75]⟩:ByteArray),1,1,(⟨#[110,110,63,110]⟩:ByteArray)⟩:aH) [.string (⟨#[65,67,75]⟩:ByteArray),.int .i64 1,.int .i64 1,.string (⟨#[110,110,63,110]⟩:ByteArray)] from (nE _ _ _ (⟨(⟨#[65,67,75]⟩:ByteArray),1,1,(⟨#[110,110,63,110]⟩:ByteArray)⟩:aH) )) (aV.none _ _))));intro aMA Qf UT hb hg_ hnew_;clear hg_ hnew_;(first|rw [← aiJ.o] at UT|(simp only [Int.reduceToNat] at UT;rw [← aiJ.o] at UT));have aqt:=am (Kd.ic (Kd.nL UT (g:=gy) (o:=.cells #[.string (⟨#[78,79,84]⟩:ByteArray),.int .i64 0,.int .i64 2,.string (⟨#[116]⟩:ByteArray)] 111 (0,0)) (ks bR)) (bJ (bs HB)));replace bR:=am (aU (g:=gy) (o:=.cells #[.string (⟨#[78,79,84]⟩:ByteArray),.int .i64 0,.int .i64 2,.string (⟨#[116]⟩:ByteArray)] 111 (0,0)) (ks bR) hb);replace HB:=bq HB hb;clear hb UT))
         go_ret
         exact ⟨_,ff,by (with_reducible repeat (first|apply Kd.kM|apply Kd.jK|apply Kd.eO));exact Kd.dE aqt.o (fun _ hk=>trivial),bs HB⟩
        ·intro c46 Oc Sq H;obtain rfl:=si H
         go_wp2
         go_ret
         exact ⟨_,ff,by first|exact Kd.rq _ _ _ _ _|exact Kd.uZ _ _ _ _ _|exact Kd.vk _ _ _ _ _|exact Kd.u6 _ _ _ _ _|exact Kd.rX _ _ _ _ _,bs HB⟩
theorem Li.calls (k:Nat)(a0:Int)(r:ByteArray)(w:World)(H:Li.f k a0=some r) :
  Calls Tryz.prog 80 #[.int .i64 a0] w fun e w'=>e=.returned (.string r)∧Below w.heap.size w w':=by
 have HB:=am (Below.refl w.heap.size w);unfold Li.f at H;replace H:=bo H;obtain ⟨t9,A2,H⟩:=H;obtain ⟨Lm,Uf⟩:∃ j_:Int,(wrap64 ((t9.length:Int) - 1))=j_:=⟨_,rfl⟩
 replace H:(if 0≤(Lm) then (if (Lm)<(t9.length:Int) then (some ((dK t9 (Lm)).f0)) else none) else none)=some r:=by first|(rw [Uf] at H;exact H)|(simp only [Uf] at H ⊢;exact H)
 (try rw [Uf] at A2)
 have aH5:(IntKind.i64.wrap ((t9.length:Int) - 1))=Lm:=(fC _).trans Uf
 by_cases c4:0≤(Lm)
 ·rw [if_pos c4] at H;have dF:decide (0≤(Lm))=true:=decide_eq_true c4;clear c4
  revert H;refine bv ?_
  intro ja H;obtain rfl:=si H
  go_in
  go_wp2_with (first|((go_at_call 83;refine (tX.calls k a0 t9 _ A2.o).mono ?_;rintro e w6 ⟨v11,rfl,ho0,hb⟩);have ahT:=am (Kd.ic ho0 (bJ (bs HB)));replace HB:=bq HB hb;(try clear hb);(try clear ho0);obtain ⟨Ao7,co7,eo7⟩:=Kd.gW ahT.o;subst eo7;obtain ⟨p8,q8,YF,e8,DJ,aLD,aLE,aLF⟩:=wi (zT (Kd.dH ahT.o).2.2 (Lm));cases e8))
  go_ret
  exact ⟨by first|rfl|(simp [qF,qG] <;> rfl)|(simp only [← Uf];first|rfl|(simp [qF,qG] <;> rfl))|(simp [*,qF,qG] <;> rfl),bs HB⟩
 ·rw [if_neg c4] at H
  exact absurd H (by simp)
theorem sO.calls (k:Nat)(a0:Int)(r:ByteArray)(w:World)(H:sO.f k a0=some r) :
  Calls Tryz.prog 110 #[.int .i64 a0] w fun e w'=>e=.returned (.string r)∧aW w w':=by
 unfold sO.f at H
 revert H;refine bH ?_ ?_
 ·intro gQ jE H;obtain rfl:=si H
  go_in
  go_wp2
  go_ret
  exact ⟨fg,dr⟩
 ·intro c2 gQ jE H;have rT:=am H;clear H
  go_in
  go_upto_if 6 with (fail)
  go_cut [6] (fun v6 wc=>∃ (kq:Nat) (pF:Bool),v6=.bool pF∧af (sO.j0 kq a0 pF=some r)∧af (kq≤k)∧aW w wc)
  case first =>
   have H:=rT.o;clear rT
   revert H;refine bH ?_ ?_
   ·intro dF kV H
    (first|rw [dF]|(simp only [fC,gK];rw [dF])|rw [kV]|skip)
    have H':=am H;clear H
    go_wp2
    go_meet
    case rel=>exact ⟨_,((a0 == 2)),fg,H',⟨fl⟩,by repeat (first|exact aW.refl _|apply aW.step)⟩
   ·intro c4 dF kV H
    (first|rw [dF]|(simp only [fC,gK];rw [dF])|rw [kV]|skip)
    have H':=am H;clear H
    go_wp2
    go_meet
    case rel=>exact ⟨_,((a0 == 4)),fg,H',⟨fl⟩,by repeat (first|exact aW.refl _|apply aW.step)⟩
  case rest =>
   clear rT
   try clear c2
   try clear gQ
   try clear jE
   obtain ⟨kq,pF,rfl,HA,HJ2,⟨mc2,rfl⟩⟩:=hcut
   cases kq with
   | zero=>exact absurd HA.o (by simp [sO.j0])
   | succ FO =>
    have H:=HA.o;clear HA;simp only [sO.j0] at H
    obtain rfl|rfl:=bt pF
    ·replace H:=dm H;obtain rfl:=si H
     go_wp2
     go_ret
     exact ⟨fg,dr⟩
    ·replace H:=di H
     revert H;refine bH ?_ ?_
     ·intro gu nM H;obtain rfl:=si H
      go_wp2
      go_ret
      exact ⟨fg,dr⟩
     ·intro c6 gu nM H
      revert H;refine bH ?_ ?_
      ·intro kH zV H;obtain rfl:=si H
       go_wp2
       go_ret
       exact ⟨fg,dr⟩
      ·intro c7 kH zV H
       revert H;refine bH ?_ ?_
       ·intro kr wo H;obtain rfl:=si H
        go_wp2
        go_ret
        exact ⟨fg,dr⟩
       ·intro c8 kr wo H
        revert H;refine bH ?_ ?_
        ·intro nN EW H;obtain rfl:=si H
         go_wp2
         go_ret
         exact ⟨fg,dr⟩
        ·intro c9 nN EW H;obtain rfl:=si H
         go_wp2
         go_ret
         exact ⟨fg,dr⟩
theorem zB.calls (a0:Int)(r:Bool)(w:World)(H:zB.f a0=some r) :
  Calls Tryz.prog 111 #[.int .i32 a0] w fun e w'=>e=.returned (.bool r)∧aW w w':=by
 unfold zB.f at H
 revert H;refine bH ?_ ?_
 ·intro gQ jE H;obtain rfl:=si H
  go_in
  go_wp2
  go_ret
  exact ⟨fg,dr⟩
 ·intro c2 gQ jE H;obtain rfl:=si H
  go_in
  go_wp2
  go_ret
  exact ⟨fg,dr⟩
theorem aas (g:Nat)(x:Int)(w:World):Calls Tryz.prog 112 #[.pointer (some ⟨g,0,none⟩),.int .i32 x] w fun e w'=>e=.returned (.pointer (some ⟨g,if x=73 then 1 else 4,none⟩))∧w'=w:=by
 have hu:=Tryz.underlying95
 by_cases c:x=73
 ·subst c
  go_enter Tryz.func112,Tryz.ntmps112
  go_wp2
  go_ret
  exact ⟨rfl,rfl⟩
 ·have c1:(x == 73)=false:=beq_eq_false_iff_ne.mpr c;rw [if_neg c]
  go_enter Tryz.func112,Tryz.ntmps112
  go_wp2
  go_ret
  exact ⟨rfl,rfl⟩
theorem Pm (g:Nat)(x:Int)(w:World):Calls Tryz.prog 113 #[.pointer (some ⟨g,0,none⟩),.int .i32 x] w fun e w'=>e=.returned (.pointer (some ⟨g,if x=78 then 0 else if x=81 then 2 else 3,none⟩))∧w'=w:=by
 have hu:=Tryz.underlying95
 by_cases c:x=78
 ·subst c
  go_enter Tryz.func113,Tryz.ntmps113
  go_wp2
  go_ret
  exact ⟨rfl,rfl⟩
 ·have c1:(x == 78)=false:=beq_eq_false_iff_ne.mpr c;rw [if_neg c]
  by_cases d:x=81
  ·subst d
   go_enter Tryz.func113,Tryz.ntmps113
   go_wp2
   go_ret
   exact ⟨rfl,rfl⟩
  ·have d1:(x == 81)=false:=beq_eq_false_iff_ne.mpr d;rw [if_neg d]
   go_enter Tryz.func113,Tryz.ntmps113
   go_wp2
   go_ret
   exact ⟨rfl,rfl⟩
theorem amY {s:ByteArray}{p:Nat}{c:UInt8}{cs:List UInt8}(h:s.data.toList.drop p=c :: cs):∃ hp:p<s.size,s[p]'hp=c∧s.data.toList.drop (p+1)=cs:=by
 have hl:=congrArg List.length h
 rw [List.length_drop,List.length_cons] at hl
 have hs:s.data.toList.length=s.size:=rfl
 have hp:p<s.size:=by omega
 have e:=List.drop_eq_getElem_cons (l:=s.data.toList) (i:=p) (by omega)
 rw [h] at e
 injection e with e1 e2
 exact ⟨hp,by rw [e1];rfl,e2.symm⟩
theorem Lh {s:ByteArray}{p k kb:Nat}{W:World}{t:TypeId}{cs:Array Value}{z:Nat × Nat}(hit:W.heap[kb]? = some (.stringIter s p))(h:W.heap[k]? = some (.cells cs t z)):k≠kb:=by
 rintro rfl
 rw [hit] at h
 cases h
theorem axO {α:Type}{d:Kd α}{e base:Nat}{ok:Nat→Prop}{W:World}{v:Value}{xs:List α}{s:ByteArray}{p kb:Nat}(q:Nat)(h:d.R e W base ok v xs)(hit:W.heap[kb]? = some (.stringIter s p)):d.R e (W.iterAt kb s q) base ok v xs :=
 Kd.dE (Kd.NJ (Kd.rV h) (fun k hk _=>by
  obtain ⟨_,_,_,_,_,c,hc⟩:=hk
  exact Lib.iterAt_other W kb k s q (Lh hit hc))) (fun _ hk=>hk.1)
theorem V6 {α:Type}{d:Kd α}{e base:Nat}{ok:Nat→Prop}{W:World}{v:Value}{xs:List α}{s:ByteArray}{p kb:Nat}(h:d.R e W base ok v xs)(hit:W.heap[kb]? = some (.stringIter s p)):some kb≠v.ownBlock:=fun e_=>by
 obtain ⟨c,hc⟩:=Kd.J9 h kb e_.symm
 exact Lh hit hc rfl
theorem amZ {s:ByteArray}{p kb:Nat}{W:World}(hit:W.heap[kb]? = some (.stringIter s p)):kb<W.heap.size:=by
 obtain ⟨h,_⟩:=Array.getElem?_eq_some_iff.mp hit
 exact h
theorem Pk {s:ByteArray}{p kb:Nat}{W W1:World}(hit:W.heap[kb]? = some (.stringIter s p))(hb:Below W.heap.size W W1):W1.heap[kb]? = some (.stringIter s p):=(hb.block kb (amZ hit)).trans hit
theorem V5 {s:ByteArray}{p kb:Nat}{W W1:World}{row:Option Nat}(hit:W.heap[kb]? = some (.stringIter s p))(hg:W.grownBy W1 row)(hne:some kb≠row):W1.heap[kb]? = some (.stringIter s p):=(hg.block kb (amZ hit) hne).trans hit
theorem oM.calls (k:Nat)(a0 f0:Int)(f1:ByteArray)(f2 f3:Int)(f4:ByteArray)(r:List ByteArray)(w:World)(hTF:uz w)(h:oM.f k a0 f0 f1 f2 f3 f4=some r) :
  Calls Tryz.prog 81 #[.int .i64 a0,.agg #[.int .i64 f0,.string f1,.int .i64 f2,.int .i64 f3,.string f4]] w fun e w'=>∃ lX:Value,e=.returned (lX)∧Kd.R Kd.string 9 w' w.heap.size (fun _=>True) lX r∧Below w.heap.size w w':=by
 have HTF:=am hTF;clear hTF;have hu:=Tryz.underlying95;have hu9:=Tryz.underlying9;have HB:=am (Below.refl w.heap.size w);obtain ⟨s,A1,H⟩:=Option.bind_eq_some_iff.mp (show (sO.f k a0).bind (fun s=>oM.l0 f0 f1 f2 f3 f4 s.data.toList [])=some r from h);clear h;replace A1:=am A1;replace H:=am H
 go_in
 go_wp2_with (first|((with_reducible refine aJ (N:=3) rfl ?_);refine bx 3 (cs:=#[.int .i64 f0,.string f1,.int .i64 f2,.int .i64 f3,.string f4]) (t:=95) ?_;intro gb hg w3 hbox hb;have BK:=am (hbox);have GE:=am ((gs hg (bs HB)));replace HB:=bq HB hb;clear hb hbox hg)|((with_reducible refine aJ (N:=8) rfl ?_);refine rl Kd.string 9 (N:=8) (xs:=([]:List ByteArray)) (inner:=[]) ?hp ?_;(case hp=>exact (aV.none _ _));intro v1 w6 yt hb hg_ hnew_;clear hg_ hnew_;have HO:=am (Kd.ic yt (bJ (bs HB)));replace BK:=am (aU (ks BK) hb);replace HB:=bq HB hb;clear hb yt)|(go_at_call 110;refine (sO.calls k a0 s _ A1.o).mono ?_;rintro e w' ⟨rfl,⟨nd,rfl⟩⟩))
 have hbk:gb<w6.heap.size:=pR BK.o;have hit:((w6.drewN nd).iter s 0).heap[w6.heap.size]? = some (.stringIter s 0):=World.iter_heap (w6.drewN nd) s 0;have hge:w.heap.size≤w6.heap.size:=HB.o.size;replace HO:=am (show Kd.R Kd.string 9 ((w6.drewN nd).iter s 0) w.heap.size (fun _=>True) v1 [] from by show Kd.R Kd.string 9 ((w6.drewN nd).alloc (.stringIter s 0)) w.heap.size (fun _=>True) v1 [];exact rs HO);replace BK:=am (show ((w6.drewN nd).iter s 0).heap[gb]? = _ from eY (mo BK.o _) _);replace HB:=am (show Below w.heap.size w ((w6.drewN nd).iter s 0) from by show Below w.heap.size w ((w6.drewN nd).alloc (.stringIter s 0));exact bs HB)
 generalize (w6.drewN nd).iter s 0=W at hit HO BK HB ⊢
 generalize w6.heap.size=kb at hit hge hbk ⊢
 go_loopg [5] s.size (fun gk v5 wx=>∃ (p:Nat) (acc:List ByteArray),af (oM.l0 f0 f1 f2 f3 f4 (s.data.toList.drop p) acc=some r)∧af (s.size≤p+gk)∧af (Kd.R Kd.string 9 wx w.heap.size (fun _=>True) v5 acc)∧af (wx.heap[kb]? = some (.stringIter s p))∧af (wx.heap[gb]? = some (.cells #[.int .i64 f0,.string f1,.int .i64 f2,.int .i64 f3,.string f4] 95 (0,0)))∧af (Below w.heap.size w wx))
 case atStart=>exact ⟨0,[],H,⟨by omega⟩,HO,⟨hit⟩,BK,HB⟩
 case round =>
  clear H HO BK HB hit;obtain ⟨p,acc,H,HG,HO,hit,BK,HB⟩:=hrel
  cases hd:s.data.toList.drop p with
  | nil =>
   have hp:¬ p<s.size:=by have:=congrArg List.length hd;rw [List.length_drop,List.length_nil,show s.data.toList.length=s.size from rfl] at this;omega
   replace H:=H.o;rw [hd] at H;obtain rfl:=si H;clear H
   have hnx:∀ ty,(Instr.next (.pointer (some ⟨kb,0,none⟩)) true ty).run Tryz.prog wr=_:=fun ty=>Lib.run_next_end_at wr kb s p ty hit.o hp
   go_wp2
   go_ret
   exact ⟨_,rfl,HO.o,HB.o⟩
  | cons c cs =>
   obtain ⟨hp,hc,hdr⟩:=amY hd;replace H:=H.o;rw [hd] at H;clear hd
   unfold oM.l0 at H
   revert H;refine ku ?_
   intro hl H;replace hl:=am hl
   have HU:∀ z:Nat,c.toNat=z→z<128→∀ ty,(Instr.next (.pointer (some ⟨kb,0,none⟩)) true ty).run Tryz.prog wr=.ok (.tuple #[.bool true,.int .i64 p,.int .i32 z]) (wr.iterAt kb s (p+1)):=by
    intro z hz hlt ty;have e:=decode_ascii s p hp (by rw [hc];omega)
    rw [hc,hz] at e
    have:=Lib.run_next_any_at (P:=Tryz.prog) wr kb s p ty hit.o hp
    rw [e] at this
    exact this
   have hit2:=Lib.iterAt_heap wr kb s p (p+1) hit.o;have fB:=am (show (wr.iterAt kb s (p+1)).heap[gb]? = _ from (Lib.iterAt_other wr kb gb s (p+1) (Lh hit.o BK.o)).trans BK.o);replace HO:=am (axO (p+1) HO.o hit.o);replace HB:=am (Lib.below_iterAt HB.o (k:=kb) hge s (p+1));clear hit BK hc
   generalize wr.iterAt kb s (p+1)=W1 at HU hit2 fB HO HB
   replace hit2:=am hit2;replace hdr:=am hdr;obtain ⟨g1,rfl⟩:∃ g1,gk=g1+1:=⟨gk - 1,by have:=HG.o;omega⟩
   revert H;refine gT ?_ ?_
   ·intro c1 H;have hnx:=HU 77 (by rw [c1];rfl) (by omega);clear HU
    revert H;refine gT ?_ ?_
    ·intro c2 H;have H':=am H;clear H;have hcz:=kW fB;have b0:(f3 == 0)=true:=beq_iff_eq.mpr c2;have b1:(f3 != 0)=false:=bne_eq_false_iff_eq.mpr c2;clear c1 c2
     go_wp2
     go_roundg g1
     case measure=>omega
     case rel=>exact ⟨p+1,acc,by rw [hdr.o];exact H',⟨by have:=HG.o;omega⟩,HO,hit2,fB,HB⟩
    ·intro c2 H;replace H:=bo H;obtain ⟨d,A2,H⟩:=H;have H':=am H;clear H;have hcz:=kW fB;have b0:(f3 == 0)=false:=beq_eq_false_iff_ne.mpr c2;have b1:(f3 != 0)=true:=bne_iff_ne.mpr c2;clear c1 c2
     go_wp2_with (first|(go_at_call 111;refine (zB.calls _ false _ rfl).mono ?_;rintro e w' ⟨rfl,⟨iN,rfl⟩⟩;replace hit2:=am (show (W1.drewN iN).heap[kb]? = _ from hit2.o);replace fB:=am (mo fB.o iN);replace HO:=am (Kd.jK HO.o iN);replace HB:=am (jH HB.o iN))|(go_at_call 113;refine (Pm gb _ _).mono ?_;rintro e w' ⟨rfl,rfl⟩)|(go_at_call 79;refine (yC.calls f3 d _ (uQ HTF HB.o) A2.o).mono ?_;rintro e w8 ⟨rfl,hb⟩;replace hit2:=am (Pk hit2.o hb);replace fB:=bb fB hb;replace HO:=am (Kd.cu HO.o hb);replace HB:=am (gP HB.o hb);clear hb)|((with_reducible refine rY (b:=.append) (xs:=#[.tmp 15,.tmp 21]) rfl ?_);at_builtin;refine Kd.uy Kd.string (w0:=w) w.heap.size rfl (.tmp 15) (.tmp 21) 42 9 (.string ⟨#[]⟩) 16 rfl Tryz.underlying42 zC rfl (by decide) (by omega) u5 acc d [.string d] (fun _=>True) (fun _=>False) rfl rfl ?aP (fun _ hk=>hk.elim) (fun _ _=>trivial) ?aO ?aB ?aS ?aL ?_;(case aP=>exact rfl);(case aB=>exact HB.o);(case aO=>exact HO.o);(case aS=>exact HB.o.size);(case aL=>have:=hl.o;omega);intro v2 w9 ho hb hg hat;replace hit2:=am (V5 hit2.o hg (V6 HO.o hit2.o));replace fB:=am (fV (ks fB) hg (Kd.ko HO.o fB.o (by decide)));replace HO:=am ho;replace HB:=am hb;clear ho hb hg hat))
     go_roundg g1
     case measure=>omega
     case rel=>exact ⟨p+1,acc++[d],by rw [hdr.o];exact H',⟨by have:=HG.o;omega⟩,HO,hit2,fB,HB⟩
   ·intro c1 H
    revert H;refine gT ?_ ?_
    ·intro c3 H;have hnx:=HU 84 (by rw [c3];rfl) (by omega);clear HU
     revert H;refine gT ?_ ?_
     ·intro c2 H;have H':=am H;clear H;have hcz:=kW fB;have b0:(f4.toList == ([]:List UInt8))=true:=beq_iff_eq.mpr c2;have b1:(f4.toList != ([]:List UInt8))=false:=bne_eq_false_iff_eq.mpr c2;have b2:f4.toList.isEmpty=true:=List.isEmpty_iff.mpr c2;clear c1 c2 c3
      go_wp2
      go_roundg g1
      case measure=>omega
      case rel=>exact ⟨p+1,acc,by rw [hdr.o];exact H',⟨by have:=HG.o;omega⟩,HO,hit2,fB,HB⟩
     ·intro c2 H;have H':=am H;clear H;have hcz:=kW fB;have b0:(f4.toList == ([]:List UInt8))=false:=beq_eq_false_iff_ne.mpr c2;have b1:(f4.toList != ([]:List UInt8))=true:=bne_iff_ne.mpr c2
      have b2:f4.toList.isEmpty=false:=by cases h:f4.toList with|nil=>exact absurd h c2|cons _ _=>rfl
      clear c1 c2 c3
      go_wp2_with (first|(go_at_call 111;refine (zB.calls _ true _ rfl).mono ?_;rintro e w' ⟨rfl,⟨iN,rfl⟩⟩;replace hit2:=am (show (W1.drewN iN).heap[kb]? = _ from hit2.o);replace fB:=am (mo fB.o iN);replace HO:=am (Kd.jK HO.o iN);replace HB:=am (jH HB.o iN))|(go_at_call 112;refine (aas gb _ _).mono ?_;rintro e w' ⟨rfl,rfl⟩)|((with_reducible refine rY (b:=.append) (xs:=#[.tmp 43,.tmp 48]) rfl ?_);at_builtin;refine Kd.uy Kd.string (w0:=w) w.heap.size rfl (.tmp 43) (.tmp 48) 42 9 (.string ⟨#[]⟩) 16 rfl Tryz.underlying42 zC rfl (by decide) (by omega) u5 acc f4 [.string f4] (fun _=>True) (fun _=>False) rfl rfl ?aP (fun _ hk=>hk.elim) (fun _ _=>trivial) ?aO ?aB ?aS ?aL ?_;(case aP=>exact rfl);(case aB=>exact HB.o);(case aO=>exact HO.o);(case aS=>exact HB.o.size);(case aL=>have:=hl.o;omega);intro v2 w9 ho hb hg hat;replace hit2:=am (V5 hit2.o hg (V6 HO.o hit2.o));replace fB:=am (fV (ks fB) hg (Kd.ko HO.o fB.o (by decide)));replace HO:=am ho;replace HB:=am hb;clear ho hb hg hat))
      go_roundg g1
      case measure=>omega
      case rel=>exact ⟨p+1,acc++[f4],by rw [hdr.o];exact H',⟨by have:=HG.o;omega⟩,HO,hit2,fB,HB⟩
    ·intro c3 H
     revert H;refine gT ?_ ?_
     ·intro c4 H;have hnx:=HU 73 (by rw [c4];rfl) (by omega);clear HU;have H':=am H;clear H;have hcz:=kW fB;clear c1 c3 c4
      go_wp2_with (first|(go_at_call 111;refine (zB.calls _ true _ rfl).mono ?_;rintro e w' ⟨rfl,⟨iN,rfl⟩⟩;replace hit2:=am (show (W1.drewN iN).heap[kb]? = _ from hit2.o);replace fB:=am (mo fB.o iN);replace HO:=am (Kd.jK HO.o iN);replace HB:=am (jH HB.o iN))|(go_at_call 112;refine (aas gb _ _).mono ?_;rintro e w' ⟨rfl,rfl⟩)|((with_reducible refine rY (b:=.append) (xs:=#[.tmp 43,.tmp 48]) rfl ?_);at_builtin;refine Kd.uy Kd.string (w0:=w) w.heap.size rfl (.tmp 43) (.tmp 48) 42 9 (.string ⟨#[]⟩) 16 rfl Tryz.underlying42 zC rfl (by decide) (by omega) u5 acc f1 [.string f1] (fun _=>True) (fun _=>False) rfl rfl ?aP (fun _ hk=>hk.elim) (fun _ _=>trivial) ?aO ?aB ?aS ?aL ?_;(case aP=>exact rfl);(case aB=>exact HB.o);(case aO=>exact HO.o);(case aS=>exact HB.o.size);(case aL=>have:=hl.o;omega);intro v2 w9 ho hb hg hat;replace hit2:=am (V5 hit2.o hg (V6 HO.o hit2.o));replace fB:=am (fV (ks fB) hg (Kd.ko HO.o fB.o (by decide)));replace HO:=am ho;replace HB:=am hb;clear ho hb hg hat))
      go_roundg g1
      case measure=>omega
      case rel=>exact ⟨p+1,acc++[f1],by rw [hdr.o];exact H',⟨by have:=HG.o;omega⟩,HO,hit2,fB,HB⟩
     ·intro c4 H
      revert H;refine gT ?_ ?_
      ·intro c5 H;have hnx:=HU 78 (by rw [c5];rfl) (by omega);clear HU;replace H:=bo H;obtain ⟨d,A2,H⟩:=H;have H':=am H;clear H;have hcz:=kW fB;clear c1 c3 c4 c5
       go_wp2_with (first|(go_at_call 111;refine (zB.calls _ false _ rfl).mono ?_;rintro e w' ⟨rfl,⟨iN,rfl⟩⟩;replace hit2:=am (show (W1.drewN iN).heap[kb]? = _ from hit2.o);replace fB:=am (mo fB.o iN);replace HO:=am (Kd.jK HO.o iN);replace HB:=am (jH HB.o iN))|(go_at_call 113;refine (Pm gb _ _).mono ?_;rintro e w' ⟨rfl,rfl⟩)|(go_at_call 79;refine (yC.calls f0 d _ (uQ HTF HB.o) A2.o).mono ?_;rintro e w8 ⟨rfl,hb⟩;replace hit2:=am (Pk hit2.o hb);replace fB:=bb fB hb;replace HO:=am (Kd.cu HO.o hb);replace HB:=am (gP HB.o hb);clear hb)|((with_reducible refine rY (b:=.append) (xs:=#[.tmp 15,.tmp 21]) rfl ?_);at_builtin;refine Kd.uy Kd.string (w0:=w) w.heap.size rfl (.tmp 15) (.tmp 21) 42 9 (.string ⟨#[]⟩) 16 rfl Tryz.underlying42 zC rfl (by decide) (by omega) u5 acc d [.string d] (fun _=>True) (fun _=>False) rfl rfl ?aP (fun _ hk=>hk.elim) (fun _ _=>trivial) ?aO ?aB ?aS ?aL ?_;(case aP=>exact rfl);(case aB=>exact HB.o);(case aO=>exact HO.o);(case aS=>exact HB.o.size);(case aL=>have:=hl.o;omega);intro v2 w9 ho hb hg hat;replace hit2:=am (V5 hit2.o hg (V6 HO.o hit2.o));replace fB:=am (fV (ks fB) hg (Kd.ko HO.o fB.o (by decide)));replace HO:=am ho;replace HB:=am hb;clear ho hb hg hat))
       go_roundg g1
       case measure=>omega
       case rel=>exact ⟨p+1,acc++[d],by rw [hdr.o];exact H',⟨by have:=HG.o;omega⟩,HO,hit2,fB,HB⟩
      ·intro c5 H
       revert H;refine gT ?_ ?_
       ·intro c6 H;have hnx:=HU 81 (by rw [c6];rfl) (by omega);clear HU;replace H:=bo H;obtain ⟨d,A2,H⟩:=H;have H':=am H;clear H;have hcz:=kW fB;clear c1 c3 c4 c5 c6
        go_wp2_with (first|(go_at_call 111;refine (zB.calls _ false _ rfl).mono ?_;rintro e w' ⟨rfl,⟨iN,rfl⟩⟩;replace hit2:=am (show (W1.drewN iN).heap[kb]? = _ from hit2.o);replace fB:=am (mo fB.o iN);replace HO:=am (Kd.jK HO.o iN);replace HB:=am (jH HB.o iN))|(go_at_call 113;refine (Pm gb _ _).mono ?_;rintro e w' ⟨rfl,rfl⟩)|(go_at_call 79;refine (yC.calls f2 d _ (uQ HTF HB.o) A2.o).mono ?_;rintro e w8 ⟨rfl,hb⟩;replace hit2:=am (Pk hit2.o hb);replace fB:=bb fB hb;replace HO:=am (Kd.cu HO.o hb);replace HB:=am (gP HB.o hb);clear hb)|((with_reducible refine rY (b:=.append) (xs:=#[.tmp 15,.tmp 21]) rfl ?_);at_builtin;refine Kd.uy Kd.string (w0:=w) w.heap.size rfl (.tmp 15) (.tmp 21) 42 9 (.string ⟨#[]⟩) 16 rfl Tryz.underlying42 zC rfl (by decide) (by omega) u5 acc d [.string d] (fun _=>True) (fun _=>False) rfl rfl ?aP (fun _ hk=>hk.elim) (fun _ _=>trivial) ?aO ?aB ?aS ?aL ?_;(case aP=>exact rfl);(case aB=>exact HB.o);(case aO=>exact HO.o);(case aS=>exact HB.o.size);(case aL=>have:=hl.o;omega);intro v2 w9 ho hb hg hat;replace hit2:=am (V5 hit2.o hg (V6 HO.o hit2.o));replace fB:=am (fV (ks fB) hg (Kd.ko HO.o fB.o (by decide)));replace HO:=am ho;replace HB:=am hb;clear ho hb hg hat))
        go_roundg g1
        case measure=>omega
        case rel=>exact ⟨p+1,acc++[d],by rw [hdr.o];exact H',⟨by have:=HG.o;omega⟩,HO,hit2,fB,HB⟩
       ·intro c6 H
        cases H
end Go.Proofs.YtapilmimgiaglaaGreatDoor.QX
