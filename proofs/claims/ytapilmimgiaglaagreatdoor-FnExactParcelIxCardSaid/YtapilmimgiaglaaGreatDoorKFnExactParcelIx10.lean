import Derived.Test.YtapilmimgiaglaaGreatDoorKFnExactParcelIx9
set_option maxHeartbeats 8000000
set_option maxRecDepth 100000
set_option linter.unusedSimpArgs false
set_option linter.unusedVariables false
namespace Go.Proofs.YtapilmimgiaglaaGreatDoor.QX
open Go.RowKit Go.Proofs.bB.eH Go.Proofs.bB.PrintLast Go.Proofs.bB.PrintMore
attribute [local go_sem] oU o5 oZ o8 oW o7 oV o6
theorem vL.calls (k:Nat)(a0:Int)(r:List aH)(w:World)(H:vL.f k a0=some r) :
  Calls Tryz.prog 105 #[.int .i64 a0] w fun e w'=>∃ lX:Value,e=.returned (lX)∧Kd.R iR 111 w' w.heap.size (fun _=>True) lX r∧Below w.heap.size w w':=by
 have ZZ:=Tryz.underlying111;have HB:=am (Below.refl w.heap.size w);unfold vL.f at H
 revert H;refine bH ?_ ?_
 ·intro gQ jE H;obtain ⟨y62,afA⟩:∃ y_:List aH,y_=(([(⟨(⟨#[68,79,67]⟩:ByteArray),1,1,(⟨#[114,100]⟩:ByteArray)⟩:aH),(⟨(⟨#[78,79,84]⟩:ByteArray),0,2,(⟨#[116]⟩:ByteArray)⟩:aH),(⟨(⟨#[76,73,78]⟩:ByteArray),1,20,(⟨#[110,114,113,63,110]⟩:ByteArray)⟩:aH)]:List aH)):=⟨_,rfl⟩
  replace H:(some y62)=some r:=ye afA H
  have aiN:=am afA;clear afA;obtain rfl:=si H
  go_in
  go_wp2_with (first|((with_reducible refine aJ (N:=3) rfl ?_);refine bz 3 (cs:=#[.string (⟨#[]⟩:ByteArray),.int .i64 0,.int .i64 0,.string (⟨#[]⟩:ByteArray)]) (t:=111) HB ?_;clear HB;intro kX hg w3 dM ahF hb HB;clear hb hg;have TB:w3.cell? ⟨kX,0,none⟩=some (.string (⟨#[]⟩:ByteArray)):=(aA dM.o 0).trans rfl;have TC:w3.cell? ⟨kX,1,none⟩=some (.int .i64 0):=(aA dM.o 1).trans rfl;have aef:w3.cell? ⟨kX,2,none⟩=some (.int .i64 0):=(aA dM.o 2).trans rfl;have akF:w3.cell? ⟨kX,3,none⟩=some (.string (⟨#[]⟩:ByteArray)):=(aA dM.o 3).trans rfl;have TE:=bu dM.o 0;have TF:=bu dM.o 1;have aeh:=bu dM.o 2;have akI:=bu dM.o 3)|((with_reducible refine aJ (N:=4) rfl ?_);refine bz 4 (cs:=#[.string (⟨#[]⟩:ByteArray),.int .i64 0,.int .i64 0,.string (⟨#[]⟩:ByteArray)]) (t:=111) HB ?_;clear HB;intro oq hg w5 iX apK hb HB;have GA:=am ((gn hg (kp dM)));have GD:=am ((gm hg (kp dM)));replace dM:=am (aU (g:=kX) (o:=.cells #[.string (⟨#[68,79,67]⟩:ByteArray),.int .i64 1,.int .i64 1,.string (⟨#[114,100]⟩:ByteArray)] 111 (0,0)) (kp dM) hb);clear hb hg;have aeB:=GD.o;have aeH:=GA.o;have aGk:w5.cell? ⟨oq,0,none⟩=some (.string (⟨#[]⟩:ByteArray)):=(aA iX.o 0).trans rfl;have aGl:w5.cell? ⟨oq,1,none⟩=some (.int .i64 0):=(aA iX.o 1).trans rfl;have aGm:w5.cell? ⟨oq,2,none⟩=some (.int .i64 0):=(aA iX.o 2).trans rfl;have aGn:w5.cell? ⟨oq,3,none⟩=some (.string (⟨#[]⟩:ByteArray)):=(aA iX.o 3).trans rfl;have aHR:=bu iX.o 0;have aHS:=bu iX.o 1;have aHT:=bu iX.o 2;have aHU:=bu iX.o 3)|((with_reducible refine aJ (N:=5) rfl ?_);refine bz 5 (cs:=#[.string (⟨#[]⟩:ByteArray),.int .i64 0,.int .i64 0,.string (⟨#[]⟩:ByteArray)]) (t:=111) HB ?_;clear HB;intro wu hg w8 mY apL hb HB;have JP:=na hg dM;have JY:=nc hg dM;replace dM:=am (aU (g:=kX) (o:=.cells #[.string (⟨#[68,79,67]⟩:ByteArray),.int .i64 1,.int .i64 1,.string (⟨#[114,100]⟩:ByteArray)] 111 (0,0)) (ks dM) hb);have Ry:=am ((gn hg (kp iX)));have Rz:=am ((gm hg (kp iX)));replace iX:=am (aU (g:=oq) (o:=.cells #[.string (⟨#[68,79,67]⟩:ByteArray),.int .i64 1,.int .i64 1,.string (⟨#[114,114,100]⟩:ByteArray)] 111 (0,0)) (kp iX) hb);clear hb hg;have UH:=JY.o;have UL:=JP.o;have OE:=Rz.o;have OG:=Ry.o;have zq:=aX mY;have aFw:w8.cell? ⟨kX,0,none⟩=some (.string (⟨#[68,79,67]⟩:ByteArray)):=(aA dM.o 0).trans rfl;have aFx:w8.cell? ⟨kX,1,none⟩=some (.int .i64 1):=(aA dM.o 1).trans rfl;have aFy:w8.cell? ⟨kX,2,none⟩=some (.int .i64 1):=(aA dM.o 2).trans rfl;have aFz:w8.cell? ⟨kX,3,none⟩=some (.string (⟨#[114,100]⟩:ByteArray)):=(aA dM.o 3).trans rfl;have aHk:=bu dM.o 0;have aHl:=bu dM.o 1;have aHm:=bu dM.o 2;have aHn:=bu dM.o 3)|((with_reducible refine aJ (N:=15) rfl ?_);refine rl iR 111 (N:=15) (xs:=([(⟨(⟨#[68,79,67]⟩:ByteArray),1,1,(⟨#[114,100]⟩:ByteArray)⟩:aH),(⟨(⟨#[78,79,84]⟩:ByteArray),0,2,(⟨#[116]⟩:ByteArray)⟩:aH),(⟨(⟨#[76,73,78]⟩:ByteArray),1,20,(⟨#[110,114,113,63,110]⟩:ByteArray)⟩:aH)]:List aH)) (inner:=[.string (⟨#[68,79,67]⟩:ByteArray),.int .i64 1,.int .i64 1,.string (⟨#[114,100]⟩:ByteArray),.string (⟨#[78,79,84]⟩:ByteArray),.int .i64 0,.int .i64 2,.string (⟨#[116]⟩:ByteArray),.string (⟨#[76,73,78]⟩:ByteArray),.int .i64 1,.int .i64 20,.string (⟨#[110,114,113,63,110]⟩:ByteArray)]) ?hp ?_;(case hp=>exact (aV.c4 (show Kd.M iR _ _ _ (⟨(⟨#[68,79,67]⟩:ByteArray),1,1,(⟨#[114,100]⟩:ByteArray)⟩:aH) [.string (⟨#[68,79,67]⟩:ByteArray),.int .i64 1,.int .i64 1,.string (⟨#[114,100]⟩:ByteArray)] from (nE _ _ _ (⟨(⟨#[68,79,67]⟩:ByteArray),1,1,(⟨#[114,100]⟩:ByteArray)⟩:aH) )) (aV.c4 (show Kd.M iR _ _ _ (⟨(⟨#[78,79,84]⟩:ByteArray),0,2,(⟨#[116]⟩:ByteArray)⟩:aH) [.string (⟨#[78,79,84]⟩:ByteArray),.int .i64 0,.int .i64 2,.string (⟨#[116]⟩:ByteArray)] from (nE _ _ _ (⟨(⟨#[78,79,84]⟩:ByteArray),0,2,(⟨#[116]⟩:ByteArray)⟩:aH) )) (aV.c4 (show Kd.M iR _ _ _ (⟨(⟨#[76,73,78]⟩:ByteArray),1,20,(⟨#[110,114,113,63,110]⟩:ByteArray)⟩:aH) [.string (⟨#[76,73,78]⟩:ByteArray),.int .i64 1,.int .i64 20,.string (⟨#[110,114,113,63,110]⟩:ByteArray)] from (nE _ _ _ (⟨(⟨#[76,73,78]⟩:ByteArray),1,20,(⟨#[110,114,113,63,110]⟩:ByteArray)⟩:aH) )) (aV.none _ _)))));intro v88 tC Ac hb hg_ hnew_;clear hg_ hnew_;(first|rw [← aiN.o] at Ac|(simp only [Int.reduceToNat] at Ac;rw [← aiN.o] at Ac));have Rb:=am (Kd.ic (Kd.nL (Kd.nL (Kd.nL Ac (g:=kX) (o:=.cells #[.string (⟨#[68,79,67]⟩:ByteArray),.int .i64 1,.int .i64 1,.string (⟨#[114,100]⟩:ByteArray)] 111 (0,0)) (ks dM)) (g:=oq) (o:=.cells #[.string (⟨#[68,79,67]⟩:ByteArray),.int .i64 1,.int .i64 1,.string (⟨#[114,114,100]⟩:ByteArray)] 111 (0,0)) (ks iX)) (g:=wu) (o:=.cells #[.string (⟨#[78,79,84]⟩:ByteArray),.int .i64 0,.int .i64 2,.string (⟨#[116]⟩:ByteArray)] 111 (0,0)) (kp mY)) (bJ (bs HB)));replace dM:=am (aU (g:=kX) (o:=.cells #[.string (⟨#[68,79,67]⟩:ByteArray),.int .i64 1,.int .i64 1,.string (⟨#[114,100]⟩:ByteArray)] 111 (0,0)) (ks dM) hb);replace iX:=am (aU (g:=oq) (o:=.cells #[.string (⟨#[68,79,67]⟩:ByteArray),.int .i64 1,.int .i64 1,.string (⟨#[114,114,100]⟩:ByteArray)] 111 (0,0)) (ks iX) hb);replace mY:=am (aU (g:=wu) (o:=.cells #[.string (⟨#[78,79,84]⟩:ByteArray),.int .i64 0,.int .i64 2,.string (⟨#[116]⟩:ByteArray)] 111 (0,0)) (kp mY) hb);replace HB:=bq HB hb;clear hb Ac))
  go_ret
  exact ⟨_,ff,by (with_reducible repeat (first|apply Kd.kM|apply Kd.jK|apply Kd.eO));exact Kd.dE Rb.o (fun _ hk=>trivial),bs HB⟩
 ·intro c2 gQ jE H;have abV:=am H;clear H
  go_in
  go_upto_if 16 with (first|((with_reducible refine aJ (N:=3) rfl ?_);refine bz 3 (cs:=#[.string (⟨#[]⟩:ByteArray),.int .i64 0,.int .i64 0,.string (⟨#[]⟩:ByteArray)]) (t:=111) HB ?_;clear HB;intro kX hg w16 dM ahF hb HB;clear hb hg;have aFL:w16.cell? ⟨kX,0,none⟩=some (.string (⟨#[]⟩:ByteArray)):=(aA dM.o 0).trans rfl;have aFM:w16.cell? ⟨kX,1,none⟩=some (.int .i64 0):=(aA dM.o 1).trans rfl;have aFN:w16.cell? ⟨kX,2,none⟩=some (.int .i64 0):=(aA dM.o 2).trans rfl;have aFO:w16.cell? ⟨kX,3,none⟩=some (.string (⟨#[]⟩:ByteArray)):=(aA dM.o 3).trans rfl;have aHu:=bu dM.o 0;have aHv:=bu dM.o 1;have aHw:=bu dM.o 2;have aHx:=bu dM.o 3)|((with_reducible refine aJ (N:=4) rfl ?_);refine bz 4 (cs:=#[.string (⟨#[]⟩:ByteArray),.int .i64 0,.int .i64 0,.string (⟨#[]⟩:ByteArray)]) (t:=111) HB ?_;clear HB;intro oq hg xR iX apK hb HB;have GA:=am ((gn hg (kp dM)));have GD:=am ((gm hg (kp dM)));replace dM:=am (aU (g:=kX) (o:=.cells #[.string (⟨#[68,79,67]⟩:ByteArray),.int .i64 1,.int .i64 1,.string (⟨#[114,100]⟩:ByteArray)] 111 (0,0)) (kp dM) hb);clear hb hg;have awM:=GD.o;have aw8:=GA.o;have aFP:xR.cell? ⟨oq,0,none⟩=some (.string (⟨#[]⟩:ByteArray)):=(aA iX.o 0).trans rfl;have aFQ:xR.cell? ⟨oq,1,none⟩=some (.int .i64 0):=(aA iX.o 1).trans rfl;have aFR:xR.cell? ⟨oq,2,none⟩=some (.int .i64 0):=(aA iX.o 2).trans rfl;have aFS:xR.cell? ⟨oq,3,none⟩=some (.string (⟨#[]⟩:ByteArray)):=(aA iX.o 3).trans rfl;have aHy:=bu iX.o 0;have aHz:=bu iX.o 1;have aHA:=bu iX.o 2;have aHB:=bu iX.o 3)|((with_reducible refine aJ (N:=5) rfl ?_);refine bz 5 (cs:=#[.string (⟨#[]⟩:ByteArray),.int .i64 0,.int .i64 0,.string (⟨#[]⟩:ByteArray)]) (t:=111) HB ?_;clear HB;intro wu hg CJ mY apL hb HB;have JP:=na hg dM;have JY:=nc hg dM;replace dM:=am (aU (g:=kX) (o:=.cells #[.string (⟨#[68,79,67]⟩:ByteArray),.int .i64 1,.int .i64 1,.string (⟨#[114,100]⟩:ByteArray)] 111 (0,0)) (ks dM) hb);have Ry:=am ((gn hg (kp iX)));have Rz:=am ((gm hg (kp iX)));replace iX:=am (aU (g:=oq) (o:=.cells #[.string (⟨#[68,79,67]⟩:ByteArray),.int .i64 1,.int .i64 1,.string (⟨#[114,114,100]⟩:ByteArray)] 111 (0,0)) (kp iX) hb);clear hb hg;have aex:=JY.o;have aeD:=JP.o;have awO:=Rz.o;have axa:=Ry.o;have Oq:=aX mY))
  (try simp only [Act.put,List.setIfInBounds_toArray,List.set_cons_zero,List.set_cons_succ])
  go_cut [16] (fun v16 wc=>∃ (kq:Nat) (abe:Bool),v16=.bool abe∧af (vL.j0 kq a0 abe (⟨#[68,79,67]⟩:ByteArray) 1 1 (⟨#[114,100]⟩:ByteArray) (⟨#[68,79,67]⟩:ByteArray) 1 1 (⟨#[114,114,100]⟩:ByteArray) (⟨#[78,79,84]⟩:ByteArray) 0 2 (⟨#[116]⟩:ByteArray)=some r)∧af (kq≤k)∧af (wc.heap[kX]? = some (.cells #[.string (⟨#[68,79,67]⟩:ByteArray),.int .i64 1,.int .i64 1,.string (⟨#[114,100]⟩:ByteArray)] 111 (0,0)))∧af (wc.heap[oq]? = some (.cells #[.string (⟨#[68,79,67]⟩:ByteArray),.int .i64 1,.int .i64 1,.string (⟨#[114,114,100]⟩:ByteArray)] 111 (0,0)))∧af (wc.heap[wu]? = some (.cells #[.string (⟨#[78,79,84]⟩:ByteArray),.int .i64 0,.int .i64 2,.string (⟨#[116]⟩:ByteArray)] 111 (0,0)))∧af (Below w.heap.size w wc))
  case first =>
   have H:=abV.o;clear abV
   revert H;refine bH ?_ ?_
   ·intro Dq adr H
    (first|rw [Dq]|(simp only [fC,gK];rw [Dq])|rw [adr]|skip)
    have H':=am H;clear H
    go_wp2
    go_meet
    case rel=>exact ⟨_,((a0 == 2)),fg,H',⟨fl⟩,⟨ks dM⟩,⟨ks iX⟩,⟨kp mY⟩,⟨bs HB⟩⟩
   ·intro c25 Dq adr H
    (first|rw [Dq]|(simp only [fC,gK];rw [Dq])|rw [adr]|skip)
    have H':=am H;clear H
    go_wp2
    go_meet
    case rel=>exact ⟨_,((a0 == 4)),fg,H',⟨fl⟩,⟨ks dM⟩,⟨ks iX⟩,⟨kp mY⟩,⟨bs HB⟩⟩
  case rest =>
   clear abV
   try clear c2
   try clear gQ
   try clear jE
   try clear Oq
   obtain ⟨kq,abe,rfl,HA,aD5,dM,iX,mY,HB⟩:=hcut
   cases kq with
   | zero=>exact absurd HA.o (by simp [vL.j0])
   | succ aLL =>
    have H:=HA.o;clear HA;simp only [vL.j0] at H
    obtain rfl|rfl:=bt abe
    ·replace H:=dm H;obtain ⟨y66,K9⟩:∃ y_:List aH,y_=(([(⟨(⟨#[68,79,67]⟩:ByteArray),1,1,(⟨#[114,114,100]⟩:ByteArray)⟩:aH),(⟨(⟨#[76,73,78]⟩:ByteArray),1,20,(⟨#[110,113,63,116]⟩:ByteArray)⟩:aH)]:List aH)):=⟨_,rfl⟩
     replace H:(some y66)=some r:=ye K9 H
     have Yo:=am K9;clear K9;obtain rfl:=si H;have al6:=GD.o;have amh:=GA.o;have UF:=Ry.o;have UJ:=Rz.o;have KR:=aX iX
     go_wp2_with (first|((with_reducible refine aJ (N:=21) rfl ?_);refine rl iR 111 (N:=21) (xs:=([(⟨(⟨#[68,79,67]⟩:ByteArray),1,1,(⟨#[114,114,100]⟩:ByteArray)⟩:aH),(⟨(⟨#[76,73,78]⟩:ByteArray),1,20,(⟨#[110,113,63,116]⟩:ByteArray)⟩:aH)]:List aH)) (inner:=[.string (⟨#[68,79,67]⟩:ByteArray),.int .i64 1,.int .i64 1,.string (⟨#[114,114,100]⟩:ByteArray),.string (⟨#[76,73,78]⟩:ByteArray),.int .i64 1,.int .i64 20,.string (⟨#[110,113,63,116]⟩:ByteArray)]) ?hp ?_;(case hp=>exact (aV.c4 (show Kd.M iR _ _ _ (⟨(⟨#[68,79,67]⟩:ByteArray),1,1,(⟨#[114,114,100]⟩:ByteArray)⟩:aH) [.string (⟨#[68,79,67]⟩:ByteArray),.int .i64 1,.int .i64 1,.string (⟨#[114,114,100]⟩:ByteArray)] from (nE _ _ _ (⟨(⟨#[68,79,67]⟩:ByteArray),1,1,(⟨#[114,114,100]⟩:ByteArray)⟩:aH) )) (aV.c4 (show Kd.M iR _ _ _ (⟨(⟨#[76,73,78]⟩:ByteArray),1,20,(⟨#[110,113,63,116]⟩:ByteArray)⟩:aH) [.string (⟨#[76,73,78]⟩:ByteArray),.int .i64 1,.int .i64 20,.string (⟨#[110,113,63,116]⟩:ByteArray)] from (nE _ _ _ (⟨(⟨#[76,73,78]⟩:ByteArray),1,20,(⟨#[110,113,63,116]⟩:ByteArray)⟩:aH) )) (aV.none _ _))));intro v89 uk oL hb hg_ hnew_;clear hg_ hnew_;(first|rw [← Yo.o] at oL|(simp only [Int.reduceToNat] at oL;rw [← Yo.o] at oL));have aqA:=am (Kd.ic (Kd.nL (Kd.nL (Kd.nL oL (g:=kX) (o:=.cells #[.string (⟨#[68,79,67]⟩:ByteArray),.int .i64 1,.int .i64 1,.string (⟨#[114,100]⟩:ByteArray)] 111 (0,0)) (ks dM)) (g:=oq) (o:=.cells #[.string (⟨#[68,79,67]⟩:ByteArray),.int .i64 1,.int .i64 1,.string (⟨#[114,114,100]⟩:ByteArray)] 111 (0,0)) (ks iX)) (g:=wu) (o:=.cells #[.string (⟨#[78,79,84]⟩:ByteArray),.int .i64 0,.int .i64 2,.string (⟨#[116]⟩:ByteArray)] 111 (0,0)) (ks mY)) (bJ (bs HB)));replace dM:=am (aU (g:=kX) (o:=.cells #[.string (⟨#[68,79,67]⟩:ByteArray),.int .i64 1,.int .i64 1,.string (⟨#[114,100]⟩:ByteArray)] 111 (0,0)) (ks dM) hb);replace iX:=am (aU (g:=oq) (o:=.cells #[.string (⟨#[68,79,67]⟩:ByteArray),.int .i64 1,.int .i64 1,.string (⟨#[114,114,100]⟩:ByteArray)] 111 (0,0)) (ks iX) hb);replace mY:=am (aU (g:=wu) (o:=.cells #[.string (⟨#[78,79,84]⟩:ByteArray),.int .i64 0,.int .i64 2,.string (⟨#[116]⟩:ByteArray)] 111 (0,0)) (ks mY) hb);replace HB:=bq HB hb;clear hb oL))
     go_ret
     exact ⟨_,ff,by (with_reducible repeat (first|apply Kd.kM|apply Kd.jK|apply Kd.eO));exact Kd.dE aqA.o (fun _ hk=>trivial),bs HB⟩
    ·replace H:=di H
     revert H;refine bH ?_ ?_
     ·intro Sl Zc H;obtain ⟨y69,afF⟩:∃ y_:List aH,y_=(([(⟨(⟨#[68,79,67]⟩:ByteArray),1,1,(⟨#[114,114,100]⟩:ByteArray)⟩:aH),(⟨(⟨#[78,79,84]⟩:ByteArray),0,2,(⟨#[116]⟩:ByteArray)⟩:aH),(⟨(⟨#[76,73,78]⟩:ByteArray),1,20,(⟨#[110,113]⟩:ByteArray)⟩:aH)]:List aH)):=⟨_,rfl⟩
      replace H:(some y69)=some r:=ye afF H
      have aiO:=am afF;clear afF;obtain rfl:=si H;have aI8:=GD.o;have aJS:=GA.o;have aez:=Ry.o;have aeF:=Rz.o;have ZN:=aX iX;have awQ:=JY.o;have axc:=JP.o;have aec:=aX mY
      go_wp2_with (first|((with_reducible refine aJ (N:=27) rfl ?_);refine rl iR 111 (N:=27) (xs:=([(⟨(⟨#[68,79,67]⟩:ByteArray),1,1,(⟨#[114,114,100]⟩:ByteArray)⟩:aH),(⟨(⟨#[78,79,84]⟩:ByteArray),0,2,(⟨#[116]⟩:ByteArray)⟩:aH),(⟨(⟨#[76,73,78]⟩:ByteArray),1,20,(⟨#[110,113]⟩:ByteArray)⟩:aH)]:List aH)) (inner:=[.string (⟨#[68,79,67]⟩:ByteArray),.int .i64 1,.int .i64 1,.string (⟨#[114,114,100]⟩:ByteArray),.string (⟨#[78,79,84]⟩:ByteArray),.int .i64 0,.int .i64 2,.string (⟨#[116]⟩:ByteArray),.string (⟨#[76,73,78]⟩:ByteArray),.int .i64 1,.int .i64 20,.string (⟨#[110,113]⟩:ByteArray)]) ?hp ?_;(case hp=>exact (aV.c4 (show Kd.M iR _ _ _ (⟨(⟨#[68,79,67]⟩:ByteArray),1,1,(⟨#[114,114,100]⟩:ByteArray)⟩:aH) [.string (⟨#[68,79,67]⟩:ByteArray),.int .i64 1,.int .i64 1,.string (⟨#[114,114,100]⟩:ByteArray)] from (nE _ _ _ (⟨(⟨#[68,79,67]⟩:ByteArray),1,1,(⟨#[114,114,100]⟩:ByteArray)⟩:aH) )) (aV.c4 (show Kd.M iR _ _ _ (⟨(⟨#[78,79,84]⟩:ByteArray),0,2,(⟨#[116]⟩:ByteArray)⟩:aH) [.string (⟨#[78,79,84]⟩:ByteArray),.int .i64 0,.int .i64 2,.string (⟨#[116]⟩:ByteArray)] from (nE _ _ _ (⟨(⟨#[78,79,84]⟩:ByteArray),0,2,(⟨#[116]⟩:ByteArray)⟩:aH) )) (aV.c4 (show Kd.M iR _ _ _ (⟨(⟨#[76,73,78]⟩:ByteArray),1,20,(⟨#[110,113]⟩:ByteArray)⟩:aH) [.string (⟨#[76,73,78]⟩:ByteArray),.int .i64 1,.int .i64 20,.string (⟨#[110,113]⟩:ByteArray)] from (nE _ _ _ (⟨(⟨#[76,73,78]⟩:ByteArray),1,20,(⟨#[110,113]⟩:ByteArray)⟩:aH) )) (aV.none _ _)))));intro v90 w38 UR hb hg_ hnew_;clear hg_ hnew_;(first|rw [← aiO.o] at UR|(simp only [Int.reduceToNat] at UR;rw [← aiO.o] at UR));have aqB:=am (Kd.ic (Kd.nL (Kd.nL (Kd.nL UR (g:=kX) (o:=.cells #[.string (⟨#[68,79,67]⟩:ByteArray),.int .i64 1,.int .i64 1,.string (⟨#[114,100]⟩:ByteArray)] 111 (0,0)) (ks dM)) (g:=oq) (o:=.cells #[.string (⟨#[68,79,67]⟩:ByteArray),.int .i64 1,.int .i64 1,.string (⟨#[114,114,100]⟩:ByteArray)] 111 (0,0)) (ks iX)) (g:=wu) (o:=.cells #[.string (⟨#[78,79,84]⟩:ByteArray),.int .i64 0,.int .i64 2,.string (⟨#[116]⟩:ByteArray)] 111 (0,0)) (ks mY)) (bJ (bs HB)));replace dM:=am (aU (g:=kX) (o:=.cells #[.string (⟨#[68,79,67]⟩:ByteArray),.int .i64 1,.int .i64 1,.string (⟨#[114,100]⟩:ByteArray)] 111 (0,0)) (ks dM) hb);replace iX:=am (aU (g:=oq) (o:=.cells #[.string (⟨#[68,79,67]⟩:ByteArray),.int .i64 1,.int .i64 1,.string (⟨#[114,114,100]⟩:ByteArray)] 111 (0,0)) (ks iX) hb);replace mY:=am (aU (g:=wu) (o:=.cells #[.string (⟨#[78,79,84]⟩:ByteArray),.int .i64 0,.int .i64 2,.string (⟨#[116]⟩:ByteArray)] 111 (0,0)) (ks mY) hb);replace HB:=bq HB hb;clear hb UR))
      go_ret
      exact ⟨_,ff,by (with_reducible repeat (first|apply Kd.kM|apply Kd.jK|apply Kd.eO));exact Kd.dE aqB.o (fun _ hk=>trivial),bs HB⟩
     ·intro c32 Sl Zc H
      revert H;refine bH ?_ ?_
      ·intro BH Ze H;obtain ⟨y70,afG⟩:∃ y_:List aH,y_=(([(⟨(⟨#[68,79,67]⟩:ByteArray),1,1,(⟨#[114,100]⟩:ByteArray)⟩:aH),(⟨(⟨#[73,84,77]⟩:ByteArray),1,20,(⟨#[114,110]⟩:ByteArray)⟩:aH)]:List aH)):=⟨_,rfl⟩
       replace H:(some y70)=some r:=ye afG H
       have aiP:=am afG;clear afG;obtain rfl:=si H;have awS:=GA.o;have axe:=GD.o;have aJb:=JP.o;have aJV:=JY.o;have av0:=aX dM
       go_wp2_with (first|((with_reducible refine aJ (N:=32) rfl ?_);refine rl iR 111 (N:=32) (xs:=([(⟨(⟨#[68,79,67]⟩:ByteArray),1,1,(⟨#[114,100]⟩:ByteArray)⟩:aH),(⟨(⟨#[73,84,77]⟩:ByteArray),1,20,(⟨#[114,110]⟩:ByteArray)⟩:aH)]:List aH)) (inner:=[.string (⟨#[68,79,67]⟩:ByteArray),.int .i64 1,.int .i64 1,.string (⟨#[114,100]⟩:ByteArray),.string (⟨#[73,84,77]⟩:ByteArray),.int .i64 1,.int .i64 20,.string (⟨#[114,110]⟩:ByteArray)]) ?hp ?_;(case hp=>exact (aV.c4 (show Kd.M iR _ _ _ (⟨(⟨#[68,79,67]⟩:ByteArray),1,1,(⟨#[114,100]⟩:ByteArray)⟩:aH) [.string (⟨#[68,79,67]⟩:ByteArray),.int .i64 1,.int .i64 1,.string (⟨#[114,100]⟩:ByteArray)] from (nE _ _ _ (⟨(⟨#[68,79,67]⟩:ByteArray),1,1,(⟨#[114,100]⟩:ByteArray)⟩:aH) )) (aV.c4 (show Kd.M iR _ _ _ (⟨(⟨#[73,84,77]⟩:ByteArray),1,20,(⟨#[114,110]⟩:ByteArray)⟩:aH) [.string (⟨#[73,84,77]⟩:ByteArray),.int .i64 1,.int .i64 20,.string (⟨#[114,110]⟩:ByteArray)] from (nE _ _ _ (⟨(⟨#[73,84,77]⟩:ByteArray),1,20,(⟨#[114,110]⟩:ByteArray)⟩:aH) )) (aV.none _ _))));intro v91 F9 Ch hb hg_ hnew_;clear hg_ hnew_;(first|rw [← aiP.o] at Ch|(simp only [Int.reduceToNat] at Ch;rw [← aiP.o] at Ch));have aqC:=am (Kd.ic (Kd.nL (Kd.nL (Kd.nL Ch (g:=kX) (o:=.cells #[.string (⟨#[68,79,67]⟩:ByteArray),.int .i64 1,.int .i64 1,.string (⟨#[114,100]⟩:ByteArray)] 111 (0,0)) (ks dM)) (g:=oq) (o:=.cells #[.string (⟨#[68,79,67]⟩:ByteArray),.int .i64 1,.int .i64 1,.string (⟨#[114,114,100]⟩:ByteArray)] 111 (0,0)) (ks iX)) (g:=wu) (o:=.cells #[.string (⟨#[78,79,84]⟩:ByteArray),.int .i64 0,.int .i64 2,.string (⟨#[116]⟩:ByteArray)] 111 (0,0)) (ks mY)) (bJ (bs HB)));replace dM:=am (aU (g:=kX) (o:=.cells #[.string (⟨#[68,79,67]⟩:ByteArray),.int .i64 1,.int .i64 1,.string (⟨#[114,100]⟩:ByteArray)] 111 (0,0)) (ks dM) hb);replace iX:=am (aU (g:=oq) (o:=.cells #[.string (⟨#[68,79,67]⟩:ByteArray),.int .i64 1,.int .i64 1,.string (⟨#[114,114,100]⟩:ByteArray)] 111 (0,0)) (ks iX) hb);replace mY:=am (aU (g:=wu) (o:=.cells #[.string (⟨#[78,79,84]⟩:ByteArray),.int .i64 0,.int .i64 2,.string (⟨#[116]⟩:ByteArray)] 111 (0,0)) (ks mY) hb);replace HB:=bq HB hb;clear hb Ch))
       go_ret
       exact ⟨_,ff,by (with_reducible repeat (first|apply Kd.kM|apply Kd.jK|apply Kd.eO));exact Kd.dE aqC.o (fun _ hk=>trivial),bs HB⟩
      ·intro c40 BH Ze H
       revert H;refine bH ?_ ?_
       ·intro Oc Sq H;obtain ⟨y71,La⟩:∃ y_:List aH,y_=(([(⟨(⟨#[68,79,67]⟩:ByteArray),1,1,(⟨#[114,100]⟩:ByteArray)⟩:aH),(⟨(⟨#[73,84,77]⟩:ByteArray),1,20,(⟨#[114,122,63,116]⟩:ByteArray)⟩:aH)]:List aH)):=⟨_,rfl⟩
        replace H:(some y71)=some r:=ye La H
        have RH:=am La;clear La;obtain rfl:=si H;have al8:=GA.o;have amj:=GD.o;have aJd:=JP.o;have aJX:=JY.o;have akE:=aX dM
        go_wp2_with (first|((with_reducible refine aJ (N:=37) rfl ?_);refine rl iR 111 (N:=37) (xs:=([(⟨(⟨#[68,79,67]⟩:ByteArray),1,1,(⟨#[114,100]⟩:ByteArray)⟩:aH),(⟨(⟨#[73,84,77]⟩:ByteArray),1,20,(⟨#[114,122,63,116]⟩:ByteArray)⟩:aH)]:List aH)) (inner:=[.string (⟨#[68,79,67]⟩:ByteArray),.int .i64 1,.int .i64 1,.string (⟨#[114,100]⟩:ByteArray),.string (⟨#[73,84,77]⟩:ByteArray),.int .i64 1,.int .i64 20,.string (⟨#[114,122,63,116]⟩:ByteArray)]) ?hp ?_;(case hp=>exact (aV.c4 (show Kd.M iR _ _ _ (⟨(⟨#[68,79,67]⟩:ByteArray),1,1,(⟨#[114,100]⟩:ByteArray)⟩:aH) [.string (⟨#[68,79,67]⟩:ByteArray),.int .i64 1,.int .i64 1,.string (⟨#[114,100]⟩:ByteArray)] from (nE _ _ _ (⟨(⟨#[68,79,67]⟩:ByteArray),1,1,(⟨#[114,100]⟩:ByteArray)⟩:aH) )) (aV.c4 (show Kd.M iR _ _ _ (⟨(⟨#[73,84,77]⟩:ByteArray),1,20,(⟨#[114,122,63,116]⟩:ByteArray)⟩:aH) [.string (⟨#[73,84,77]⟩:ByteArray),.int .i64 1,.int .i64 20,.string (⟨#[114,122,63,116]⟩:ByteArray)] from (nE _ _ _ (⟨(⟨#[73,84,77]⟩:ByteArray),1,20,(⟨#[114,122,63,116]⟩:ByteArray)⟩:aH) )) (aV.none _ _))));intro v92 WY UU hb hg_ hnew_;clear hg_ hnew_;(first|rw [← RH.o] at UU|(simp only [Int.reduceToNat] at UU;rw [← RH.o] at UU));have aqD:=am (Kd.ic (Kd.nL (Kd.nL (Kd.nL UU (g:=kX) (o:=.cells #[.string (⟨#[68,79,67]⟩:ByteArray),.int .i64 1,.int .i64 1,.string (⟨#[114,100]⟩:ByteArray)] 111 (0,0)) (ks dM)) (g:=oq) (o:=.cells #[.string (⟨#[68,79,67]⟩:ByteArray),.int .i64 1,.int .i64 1,.string (⟨#[114,114,100]⟩:ByteArray)] 111 (0,0)) (ks iX)) (g:=wu) (o:=.cells #[.string (⟨#[78,79,84]⟩:ByteArray),.int .i64 0,.int .i64 2,.string (⟨#[116]⟩:ByteArray)] 111 (0,0)) (ks mY)) (bJ (bs HB)));replace dM:=am (aU (g:=kX) (o:=.cells #[.string (⟨#[68,79,67]⟩:ByteArray),.int .i64 1,.int .i64 1,.string (⟨#[114,100]⟩:ByteArray)] 111 (0,0)) (ks dM) hb);replace iX:=am (aU (g:=oq) (o:=.cells #[.string (⟨#[68,79,67]⟩:ByteArray),.int .i64 1,.int .i64 1,.string (⟨#[114,114,100]⟩:ByteArray)] 111 (0,0)) (ks iX) hb);replace mY:=am (aU (g:=wu) (o:=.cells #[.string (⟨#[78,79,84]⟩:ByteArray),.int .i64 0,.int .i64 2,.string (⟨#[116]⟩:ByteArray)] 111 (0,0)) (ks mY) hb);replace HB:=bq HB hb;clear hb UU))
        go_ret
        exact ⟨_,ff,by (with_reducible repeat (first|apply Kd.kM|apply Kd.jK|apply Kd.eO));exact Kd.dE aqD.o (fun _ hk=>trivial),bs HB⟩
       ·intro c46 Oc Sq H
        revert H;refine bH ?_ ?_
        ·intro ady adz H;obtain ⟨y72,afH⟩:∃ y_:List aH,y_=(([(⟨(⟨#[68,79,67]⟩:ByteArray),1,1,(⟨#[114,100]⟩:ByteArray)⟩:aH),(⟨(⟨#[65,67,75]⟩:ByteArray),1,1,(⟨#[110,110,63,110]⟩:ByteArray)⟩:aH)]:List aH)):=⟨_,rfl⟩
         replace H:(some y72)=some r:=ye afH H
         have aiQ:=am afH;clear afH;obtain rfl:=si H;have aJf:=GA.o;have aJZ:=GD.o;have al9:=JP.o;have amk:=JY.o;have aGa:=aX dM
         go_wp2_with (first|((with_reducible refine aJ (N:=42) rfl ?_);refine rl iR 111 (N:=42) (xs:=([(⟨(⟨#[68,79,67]⟩:ByteArray),1,1,(⟨#[114,100]⟩:ByteArray)⟩:aH),(⟨(⟨#[65,67,75]⟩:ByteArray),1,1,(⟨#[110,110,63,110]⟩:ByteArray)⟩:aH)]:List aH)) (inner:=[.string (⟨#[68,79,67]⟩:ByteArray),.int .i64 1,.int .i64 1,.string (⟨#[114,100]⟩:ByteArray),.string (⟨#[65,67,75]⟩:ByteArray),.int .i64 1,.int .i64 1,.string (⟨#[110,110,63,110]⟩:ByteArray)]) ?hp ?_;(case hp=>exact (aV.c4 (show Kd.M iR _ _ _ (⟨(⟨#[68,79,67]⟩:ByteArray),1,1,(⟨#[114,100]⟩:ByteArray)⟩:aH) [.string (⟨#[68,79,67]⟩:ByteArray),.int .i64 1,.int .i64 1,.string (⟨#[114,100]⟩:ByteArray)] from (nE _ _ _ (⟨(⟨#[68,79,67]⟩:ByteArray),1,1,(⟨#[114,100]⟩:ByteArray)⟩:aH) )) (aV.c4 (show Kd.M iR _ _ _ (⟨(⟨#[65,67,75]⟩:ByteArray),1,1,(⟨#[110,110,63,110]⟩:ByteArray)⟩:aH) [.string (⟨#[65,67,75]⟩:ByteArray),.int .i64 1,.int .i64 1,.string (⟨#[110,110,63,110]⟩:ByteArray)] from (nE _ _ _ (⟨(⟨#[65,67,75]⟩:ByteArray),1,1,(⟨#[110,110,63,110]⟩:ByteArray)⟩:aH) )) (aV.none _ _))));intro v93 w56 UV hb hg_ hnew_;clear hg_ hnew_;(first|rw [← aiQ.o] at UV|(simp only [Int.reduceToNat] at UV;rw [← aiQ.o] at UV));have aqE:=am (Kd.ic (Kd.nL (Kd.nL (Kd.nL UV (g:=kX) (o:=.cells #[.string (⟨#[68,79,67]⟩:ByteArray),.int .i64 1,.int .i64 1,.string (⟨#[114,100]⟩:ByteArray)] 111 (0,0)) (ks dM)) (g:=oq) (o:=.cells #[.string (⟨#[68,79,67]⟩:ByteArray),.int .i64 1,.int .i64 1,.string (⟨#[114,114,100]⟩:ByteArray)] 111 (0,0)) (ks iX)) (g:=wu) (o:=.cells #[.string (⟨#[78,79,84]⟩:ByteArray),.int .i64 0,.int .i64 2,.string (⟨#[116]⟩:ByteArray)] 111 (0,0)) (ks mY)) (bJ (bs HB)));replace dM:=am (aU (g:=kX) (o:=.cells #[.string (⟨#[68,79,67]⟩:ByteArray),.int .i64 1,.int .i64 1,.string (⟨#[114,100]⟩:ByteArray)] 111 (0,0)) (ks dM) hb);replace iX:=am (aU (g:=oq) (o:=.cells #[.string (⟨#[68,79,67]⟩:ByteArray),.int .i64 1,.int .i64 1,.string (⟨#[114,114,100]⟩:ByteArray)] 111 (0,0)) (ks iX) hb);replace mY:=am (aU (g:=wu) (o:=.cells #[.string (⟨#[78,79,84]⟩:ByteArray),.int .i64 0,.int .i64 2,.string (⟨#[116]⟩:ByteArray)] 111 (0,0)) (ks mY) hb);replace HB:=bq HB hb;clear hb UV))
         go_ret
         exact ⟨_,ff,by (with_reducible repeat (first|apply Kd.kM|apply Kd.jK|apply Kd.eO));exact Kd.dE aqE.o (fun _ hk=>trivial),bs HB⟩
        ·intro c52 ady adz H;obtain ⟨y74,afI⟩:∃ y_:List aH,y_=(([]:List aH)):=⟨_,rfl⟩
         replace H:(some y74)=some r:=ye afI H
         have aiR:=am afI;clear afI;obtain rfl:=si H
         go_wp2_with (first|((with_reducible refine aJ (N:=43) rfl ?_);refine rl iR 111 (N:=43) (xs:=([]:List aH)) (inner:=[]) ?hp ?_;(case hp=>exact (aV.none _ _));intro v94 w58 UW hb hg_ hnew_;clear hg_ hnew_;(first|rw [← aiR.o] at UW|(simp only [Int.reduceToNat] at UW;rw [← aiR.o] at UW));have aqF:=am (Kd.ic (Kd.nL (Kd.nL (Kd.nL UW (g:=kX) (o:=.cells #[.string (⟨#[68,79,67]⟩:ByteArray),.int .i64 1,.int .i64 1,.string (⟨#[114,100]⟩:ByteArray)] 111 (0,0)) (ks dM)) (g:=oq) (o:=.cells #[.string (⟨#[68,79,67]⟩:ByteArray),.int .i64 1,.int .i64 1,.string (⟨#[114,114,100]⟩:ByteArray)] 111 (0,0)) (ks iX)) (g:=wu) (o:=.cells #[.string (⟨#[78,79,84]⟩:ByteArray),.int .i64 0,.int .i64 2,.string (⟨#[116]⟩:ByteArray)] 111 (0,0)) (ks mY)) (bJ (bs HB)));replace dM:=am (aU (g:=kX) (o:=.cells #[.string (⟨#[68,79,67]⟩:ByteArray),.int .i64 1,.int .i64 1,.string (⟨#[114,100]⟩:ByteArray)] 111 (0,0)) (ks dM) hb);replace iX:=am (aU (g:=oq) (o:=.cells #[.string (⟨#[68,79,67]⟩:ByteArray),.int .i64 1,.int .i64 1,.string (⟨#[114,114,100]⟩:ByteArray)] 111 (0,0)) (ks iX) hb);replace mY:=am (aU (g:=wu) (o:=.cells #[.string (⟨#[78,79,84]⟩:ByteArray),.int .i64 0,.int .i64 2,.string (⟨#[116]⟩:ByteArray)] 111 (0,0)) (ks mY) hb);replace HB:=bq HB hb;clear hb UW))
         go_ret
         exact ⟨_,ff,by (with_reducible repeat (first|apply Kd.kM|apply Kd.jK|apply Kd.eO));exact Kd.dE aqF.o (fun _ hk=>trivial),bs HB⟩
theorem il.calls (k:Nat)(a0:ByteArray)(r1:Int)(r2:Bool)(w:World)(H:il.f k a0=some (r1,r2)) :
  Calls Tryz.prog 107 #[.string a0] w fun e w'=>e=.returned (.tuple #[.int .i64 r1,.bool r2])∧Below w.heap.size w w':=by
 have HB:=am (Below.refl w.heap.size w);unfold il.f at H;have lY:=am H;clear H
 go_in
 go_upto_region 1 with (fail)
 go_cut [4] (fun v4 wc=>∃ (kq:Nat) (dY:Bool),v4=.bool dY∧af (il.j0 kq a0 dY=some (r1,r2))∧af (kq≤k)∧af (Below w.heap.size w wc))
 case first =>
  have H:=lY.o;clear lY
  revert H;refine gT ?_ ?_
  ·intro c3 H;have aY:decide (0<(a0.size:Int))=true:=decide_eq_true c3;have dS:decide (0<a0.size)=true:=decide_eq_true (by omega);clear c3
   (first|rw [aY]|(simp only [fC,gK];rw [aY])|rw [dS]|skip)
   revert H;refine qO ?_
   intro c4 dF H;have kV:decide (0<a0.size)=true:=decide_eq_true (by omega);clear c4;have H':=am H;clear H;have p5:0≤(0:Int):=(by omega);have q5:0<a0.size:=(by have:(0:Int)<(a0.size:Int):=oa;omega);have hx5:∀ h:0<a0.size,((a0[0]'h).toNat:Int)=bt a0 0:=gX a0 0;clear p5;have qi5:(0<(a0.size:Int))=True:=eq_true (oa);replace q5:=eq_true q5
   go_wp2
   go_meet
   case rel=>exact ⟨_,(((bt a0 0) == 45)),fg,H',⟨fl⟩,⟨bs HB⟩⟩
  ·intro c3 H;have aY:decide (0<(a0.size:Int))=false:=decide_eq_false c3;have dS:decide (0<a0.size)=false:=decide_eq_false (by omega);clear c3
   (first|rw [aY]|(simp only [fC,gK];rw [aY])|rw [dS]|skip)
   have H':=am H;clear H
   go_wp2
   go_meet
   case rel=>exact ⟨_,(false),fg,H',⟨fl⟩,⟨bs HB⟩⟩
 case rest =>
  clear lY
  obtain ⟨kq,dY,rfl,HA,iL,HB⟩:=hcut
  cases kq with
  | zero=>exact absurd HA.o (by simp [il.j0])
  | succ mV =>
   have H:=HA.o;clear HA;simp only [il.j0] at H;have JD:=am H;clear H
   go_upto_if 17 with (fail)
   go_cut [5] (fun v5 wc=>∃ (kq:Nat) (qV:ByteArray),v5=.string qV∧af (il.j1 kq a0 dY qV=some (r1,r2))∧af (kq≤mV)∧af (Below w.heap.size w wc))
   case first =>
    have H:=JD.o;clear JD
    obtain rfl|rfl:=bt dY
    ·replace H:=dm H
     revert H;refine ku ?_
     intro c8 H;have kr:=eq_true c8;have wo:decide (1≤(a0.size:Int))=true:=decide_eq_true c8;clear c8;have H':=am H;clear H
     go_wp2
     go_meet
     case rel=>exact ⟨_,(a0.extract 1 a0.size),fg,H',⟨by have:=iL.o;first|omega|exact Nat.le_refl _⟩,⟨bs HB⟩⟩
    ·replace H:=di H;have H':=am H;clear H
     go_wp2
     go_meet
     case rel=>exact ⟨_,(a0),fg,H',⟨by have:=iL.o;first|omega|exact Nat.le_refl _⟩,⟨bs HB⟩⟩
   case rest =>
    clear JD
    obtain ⟨kq,qV,rfl,HA,JF,HB⟩:=hcut
    cases kq with
    | zero=>exact absurd HA.o (by simp [il.j1])
    | succ kj5 =>
     have H:=HA.o;clear HA;simp only [il.j1] at H;have HC9:=am H;clear H
     go_upto_region 5 with (fail)
     go_cut [27] (fun v27 wc=>∃ (kq:Nat) (abk:Bool),v27=.bool abk∧af (il.j2 kq a0 dY qV abk=some (r1,r2))∧af (kq≤kj5)∧af (Below w.heap.size w wc))
     case first =>
      have H:=HC9.o;clear HC9
      revert H;refine Ct ?_ ?_
      ·intro c10 zi H;have Sc:decide (qV.size<1)=true:=decide_eq_true (by omega);clear c10
       (first|rw [zi]|(simp only [fC,gK];rw [zi])|rw [Sc]|skip)
       have H':=am H;clear H
       go_wp2
       go_meet
       case rel=>exact ⟨_,(true),fg,H',⟨by have:=iL.o;have:=JF.o;first|omega|exact Nat.le_refl _⟩,⟨bs HB⟩⟩
      ·intro c10 zi H;have Sc:decide (qV.size<1)=false:=decide_eq_false (by omega);clear c10
       (first|rw [zi]|(simp only [fC,gK];rw [zi])|rw [Sc]|skip)
       have H':=am H;clear H
       go_wp2
       go_meet
       case rel=>exact ⟨_,(decide ((qV.size:Int)>12)),fg,H',⟨by have:=iL.o;have:=JF.o;first|omega|exact Nat.le_refl _⟩,⟨bs HB⟩⟩
     case rest =>
      clear HC9
      obtain ⟨kq,abk,rfl,HA,HJ8,HB⟩:=hcut
      cases kq with
      | zero=>exact absurd HA.o (by simp [il.j2])
      | succ kj8 =>
       have H:=HA.o;clear HA;simp only [il.j2] at H
       obtain rfl|rfl:=bt abk
       ·replace H:=dm H;replace H:=xI H;obtain ⟨rfl,rfl⟩:=H
        go_wp2
        go_ret2
        exact ⟨ff,bs HB⟩
       ·replace H:=di H;have H':=am H;clear H
        go_wp2
        go_loopg [6,7] kj8 (fun kq v6 v7 w'=>∃ (QJ:Int) (pG:Int),v6=.int .i64 QJ∧v7=.int .i64 pG∧af (il.l0 kq a0 dY qV QJ pG=some (r1,r2))∧af (kq≤kj8)∧af (Below w.heap.size w w'))
        case atStart=>exact ⟨(0),(0),fg,fg,H',⟨Nat.le_refl _⟩,⟨bs HB⟩⟩
        case round =>
         clear H'
         obtain ⟨QJ,pG,rfl,rfl,HA,vU,HB⟩:=hrel
         cases gk with
         | zero=>exact absurd HA.o (by simp [il.l0])
         | succ k4 =>
          have H:=HA.o;clear HA;simp only [il.l0] at H
          revert H;refine bK ?_ ?_
          ·intro zk H
           revert H;refine bv ?_
           intro mq H
           revert H;refine bK ?_ ?_
           ·intro vX H;replace H:=xI H;obtain ⟨rfl,rfl⟩:=H;have uf:0≤(pG:Int):=oa;have ug:pG<(qV.size:Int):=oa;have amw:=gX qV pG;replace uf:=eq_true uf;replace ug:=eq_true ug
            go_wp2
            go_ret2
            exact ⟨ff,bs HB⟩
           ·intro vX H
            revert H;refine gT ?_ ?_
            ·intro c17 H;have qD:decide (57<(bt qV pG))=true:=decide_eq_true c17;clear c17;replace H:=xI H;obtain ⟨rfl,rfl⟩:=H;have uf:0≤(pG:Int):=oa;have ug:pG<(qV.size:Int):=oa;have amw:=gX qV pG;replace uf:=eq_true uf;replace ug:=eq_true ug;have p16:0≤(pG:Int):=oa;have q16:pG<(qV.size:Int):=oa;have hx16:=gX qV pG;replace p16:=eq_true p16;replace q16:=eq_true q16
             go_wp2
             go_ret2
             exact ⟨ff,bs HB⟩
            ·intro c17 H;have qD:decide (57<(bt qV pG))=false:=decide_eq_false c17;clear c17;have H':=am H;clear H;have uf:0≤(pG:Int):=oa;have ug:pG<(qV.size:Int):=oa;have amw:=gX qV pG;replace uf:=eq_true uf;replace ug:=eq_true ug;have p16:0≤(pG:Int):=oa;have q16:pG<(qV.size:Int):=oa;have hx16:=gX qV pG;replace p16:=eq_true p16;replace q16:=eq_true q16;have p18:0≤(pG:Int):=oa;have q18:pG<(qV.size:Int):=oa;have aLB:=gX qV pG;replace p18:=eq_true p18;replace q18:=eq_true q18
             go_wp2
             go_roundg k4
             case measure=>have:=iL.o;have:=JF.o;have:=HJ8.o;have:=vU.o;omega
             case rel=>exact ⟨(wrap64 ((wrap64 (10 * QJ))+(((bt qV pG) - 48) % 256))),(wrap64 (pG+1)),fg,fg,H',⟨by have:=iL.o;have:=JF.o;have:=HJ8.o;have:=vU.o;omega⟩,⟨bs HB⟩⟩
          ·intro zk H
           obtain rfl|rfl:=bt dY
           ·replace H:=dm H;replace H:=bo H;obtain ⟨sj,A20,H⟩:=H;replace H:=xI H;obtain ⟨rfl,rfl⟩:=H
            go_wp2_with (first|((go_at_call 61;refine (fK.calls k4 (wrap64 (-QJ)) sj _ A20.o).mono ?_;rintro e CJ ⟨rfl,hb⟩);replace HB:=bq HB hb;(try clear hb)))
            go_ret2
            exact ⟨ff,bs HB⟩
           ·replace H:=di H;replace H:=bo H;obtain ⟨mG,Ej,H⟩:=H;replace H:=xI H;obtain ⟨rfl,rfl⟩:=H
            go_wp2_with (first|((go_at_call 61;refine (fK.calls k4 QJ mG _ Ej.o).mono ?_;rintro e tH ⟨rfl,hb⟩);replace HB:=bq HB hb;(try clear hb)))
            go_ret2
            exact ⟨ff,bs HB⟩
theorem jQ.calls (k:Nat)(a0:ByteArray)(r:Bool)(w:World)(H:jQ.f k a0=some r) :
  Calls Tryz.prog 36 #[.string a0] w fun e w'=>e=.returned (.bool r)∧aW w w':=by
 unfold jQ.f at H;have lY:=am H;clear H
 go_in
 go_upto_region 1 with (fail)
 go_cut [22] (fun v22 wc=>∃ (kq:Nat) (abh:Bool),v22=.bool abh∧af (jQ.j0 kq a0 abh=some r)∧af (kq≤k)∧aW w wc)
 case first =>
  have H:=lY.o;clear lY
  revert H;refine Ct ?_ ?_
  ·intro c3 aY H;have dS:decide (a0.size<1)=true:=decide_eq_true (by omega);clear c3
   (first|rw [aY]|(simp only [fC,gK];rw [aY])|rw [dS]|skip)
   have H':=am H;clear H
   go_wp2
   go_meet
   case rel=>exact ⟨_,(true),fg,H',⟨fl⟩,by repeat (first|exact aW.refl _|apply aW.step)⟩
  ·intro c3 aY H;have dS:decide (a0.size<1)=false:=decide_eq_false (by omega);clear c3
   (first|rw [aY]|(simp only [fC,gK];rw [aY])|rw [dS]|skip)
   revert H;refine gT ?_ ?_
   ·intro c4 H;have dF:decide (12<(a0.size:Int))=true:=decide_eq_true c4;have kV:decide (12<a0.size)=true:=decide_eq_true (by omega);clear c4;have H':=am H;clear H
    go_wp2
    go_meet
    case rel=>exact ⟨_,(true),fg,H',⟨fl⟩,by repeat (first|exact aW.refl _|apply aW.step)⟩
   ·intro c4 H;have dF:decide (12<(a0.size:Int))=false:=decide_eq_false c4;have kV:decide (12<a0.size)=false:=decide_eq_false (by omega);clear c4
    revert H;refine qO ?_
    intro c5 ja H;have sJ:decide (0<a0.size)=true:=decide_eq_true (by omega);clear c5
    revert H;refine bK ?_ ?_
    ·intro kH H;have H':=am H;clear H;have p6:0≤(0:Int):=(by omega);have q6:0<a0.size:=(by have:(0:Int)<(a0.size:Int):=oa;omega);have hx6:∀ h:0<a0.size,((a0[0]'h).toNat:Int)=bt a0 0:=gX a0 0;clear p6;have qi6:(0<(a0.size:Int))=True:=eq_true (oa);replace q6:=eq_true q6
     go_wp2
     go_meet
     case rel=>exact ⟨_,(true),fg,H',⟨fl⟩,by repeat (first|exact aW.refl _|apply aW.step)⟩
    ·intro kH H;have H':=am H;clear H;have p6:0≤(0:Int):=(by omega);have q6:0<a0.size:=(by have:(0:Int)<(a0.size:Int):=oa;omega);have hx6:∀ h:0<a0.size,((a0[0]'h).toNat:Int)=bt a0 0:=gX a0 0;clear p6;have qi6:(0<(a0.size:Int))=True:=eq_true (oa);replace q6:=eq_true q6;have p8:0≤(0:Int):=(by omega);have q8:0<a0.size:=(by have:(0:Int)<(a0.size:Int):=oa;omega);have hx8:∀ h:0<a0.size,((a0[0]'h).toNat:Int)=bt a0 0:=gX a0 0;clear p8;have qi8:(0<(a0.size:Int))=True:=eq_true (oa);replace q8:=eq_true q8
     go_wp2
     go_meet
     case rel=>exact ⟨_,(decide ((bt a0 0)>90)),fg,H',⟨fl⟩,by repeat (first|exact aW.refl _|apply aW.step)⟩
 case rest =>
  clear lY
  obtain ⟨kq,abh,rfl,HA,iL,⟨mc1,rfl⟩⟩:=hcut
  cases kq with
  | zero=>exact absurd HA.o (by simp [jQ.j0])
  | succ mV =>
   have H:=HA.o;clear HA;simp only [jQ.j0] at H
   obtain rfl|rfl:=bt abh
   ·replace H:=dm H;obtain rfl:=si H
    go_wp2
    go_ret
    exact ⟨fg,dr⟩
   ·replace H:=di H;have H':=am H;clear H
    go_wp2
    go_loopg [3] mV (fun kq v3 w'=>∃ (bF:Int),v3=.int .i64 bF∧af (jQ.l0 kq a0 bF=some r)∧af (kq≤mV)∧aW w w')
    case atStart=>exact ⟨(0),fg,H',⟨Nat.le_refl _⟩,by repeat (first|exact aW.refl _|apply aW.step)⟩
    case round =>
     clear H'
     obtain ⟨bF,rfl,HA,dD,⟨m2,rfl⟩⟩:=hrel
     cases gk with
     | zero=>exact absurd HA.o (by simp [jQ.l0])
     | succ k2 =>
      have H:=HA.o;clear HA;simp only [jQ.l0] at H
      revert H;refine bK ?_ ?_
      ·intro zi H
       revert H;refine bv ?_
       intro xh H
       revert H;refine gT ?_ ?_
       ·intro c13 H;have mq:decide (65≤(bt a0 bF))=true:=decide_eq_true c13;clear c13
        revert H;refine bK ?_ ?_
        ·intro ry H;have H':=am H;clear H;have iO:0≤(bF:Int):=oa;have iK:bF<(a0.size:Int):=oa;have yw:=gX a0 bF;replace iO:=eq_true iO;replace iK:=eq_true iK
         go_wp2
         go_roundg k2
         case measure=>have:=iL.o;have:=dD.o;omega
         case rel=>exact ⟨(wrap64 (bF+1)),fg,H',⟨by have:=iL.o;have:=dD.o;omega⟩,by repeat (first|exact aW.refl _|apply aW.step)⟩
        ·intro ry H
         revert H;refine gT ?_ ?_
         ·intro c15 H;have vX:decide (48≤(bt a0 bF))=true:=decide_eq_true c15;clear c15
          revert H;refine bK ?_ ?_
          ·intro yj H;have H':=am H;clear H;have iO:0≤(bF:Int):=oa;have iK:bF<(a0.size:Int):=oa;have yw:=gX a0 bF;replace iO:=eq_true iO;replace iK:=eq_true iK
           go_wp2
           go_roundg k2
           case measure=>have:=iL.o;have:=dD.o;omega
           case rel=>exact ⟨(wrap64 (bF+1)),fg,H',⟨by have:=iL.o;have:=dD.o;omega⟩,by repeat (first|exact aW.refl _|apply aW.step)⟩
          ·intro yj H
           revert H;refine bH ?_ ?_
           ·intro qD Dp H;have H':=am H;clear H;have iO:0≤(bF:Int):=oa;have iK:bF<(a0.size:Int):=oa;have yw:=gX a0 bF;replace iO:=eq_true iO;replace iK:=eq_true iK
            go_wp2
            go_roundg k2
            case measure=>have:=iL.o;have:=dD.o;omega
            case rel=>exact ⟨(wrap64 (bF+1)),fg,H',⟨by have:=iL.o;have:=dD.o;omega⟩,by repeat (first|exact aW.refl _|apply aW.step)⟩
           ·intro c17 qD Dp H;obtain rfl:=si H;have iO:0≤(bF:Int):=oa;have iK:bF<(a0.size:Int):=oa;have yw:=gX a0 bF;replace iO:=eq_true iO;replace iK:=eq_true iK
            go_wp2
            go_ret
            exact ⟨fg,dr⟩
         ·intro c15 H;have vX:decide (48≤(bt a0 bF))=false:=decide_eq_false c15;clear c15
          revert H;refine bH ?_ ?_
          ·intro xk Sd H;have H':=am H;clear H;have iO:0≤(bF:Int):=oa;have iK:bF<(a0.size:Int):=oa;have yw:=gX a0 bF;replace iO:=eq_true iO;replace iK:=eq_true iK
           go_wp2
           go_roundg k2
           case measure=>have:=iL.o;have:=dD.o;omega
           case rel=>exact ⟨(wrap64 (bF+1)),fg,H',⟨by have:=iL.o;have:=dD.o;omega⟩,by repeat (first|exact aW.refl _|apply aW.step)⟩
          ·intro c18 xk Sd H;obtain rfl:=si H;have iO:0≤(bF:Int):=oa;have iK:bF<(a0.size:Int):=oa;have yw:=gX a0 bF;replace iO:=eq_true iO;replace iK:=eq_true iK
           go_wp2
           go_ret
           exact ⟨fg,dr⟩
       ·intro c13 H;have mq:decide (65≤(bt a0 bF))=false:=decide_eq_false c13;clear c13
        revert H;refine gT ?_ ?_
        ·intro c19 H;have vw:decide (48≤(bt a0 bF))=true:=decide_eq_true c19;clear c19
         revert H;refine bK ?_ ?_
         ·intro vY H;have H':=am H;clear H;have iO:0≤(bF:Int):=oa;have iK:bF<(a0.size:Int):=oa;have yw:=gX a0 bF;replace iO:=eq_true iO;replace iK:=eq_true iK
          go_wp2
          go_roundg k2
          case measure=>have:=iL.o;have:=dD.o;omega
          case rel=>exact ⟨(wrap64 (bF+1)),fg,H',⟨by have:=iL.o;have:=dD.o;omega⟩,by repeat (first|exact aW.refl _|apply aW.step)⟩
         ·intro vY H
          revert H;refine bH ?_ ?_
          ·intro zm EQ H;have H':=am H;clear H;have iO:0≤(bF:Int):=oa;have iK:bF<(a0.size:Int):=oa;have yw:=gX a0 bF;replace iO:=eq_true iO;replace iK:=eq_true iK
           go_wp2
           go_roundg k2
           case measure=>have:=iL.o;have:=dD.o;omega
           case rel=>exact ⟨(wrap64 (bF+1)),fg,H',⟨by have:=iL.o;have:=dD.o;omega⟩,by repeat (first|exact aW.refl _|apply aW.step)⟩
          ·intro c21 zm EQ H;obtain rfl:=si H;have iO:0≤(bF:Int):=oa;have iK:bF<(a0.size:Int):=oa;have yw:=gX a0 bF;replace iO:=eq_true iO;replace iK:=eq_true iK
           go_wp2
           go_ret
           exact ⟨fg,dr⟩
        ·intro c19 H;have vw:decide (48≤(bt a0 bF))=false:=decide_eq_false c19;clear c19
         revert H;refine bH ?_ ?_
         ·intro N9 Sj H;have H':=am H;clear H;have iO:0≤(bF:Int):=oa;have iK:bF<(a0.size:Int):=oa;have yw:=gX a0 bF;replace iO:=eq_true iO;replace iK:=eq_true iK
          go_wp2
          go_roundg k2
          case measure=>have:=iL.o;have:=dD.o;omega
          case rel=>exact ⟨(wrap64 (bF+1)),fg,H',⟨by have:=iL.o;have:=dD.o;omega⟩,by repeat (first|exact aW.refl _|apply aW.step)⟩
         ·intro G8 N9 Sj H;obtain rfl:=si H;have iO:0≤(bF:Int):=oa;have iK:bF<(a0.size:Int):=oa;have yw:=gX a0 bF;replace iO:=eq_true iO;replace iK:=eq_true iK
          go_wp2
          go_ret
          exact ⟨fg,dr⟩
      ·intro zi H;obtain rfl:=si H
       go_wp2
       go_ret
       exact ⟨fg,dr⟩
theorem I4.calls (a0:Int)(r:Bool)(w:World)(H:I4.f a0=some r) :
  Calls Tryz.prog 146 #[.int .i64 a0] w fun e w'=>e=.returned (.bool r)∧aW w w':=by
 unfold I4.f at H
 revert H;refine gT ?_ ?_
 ·intro c2 H;have gQ:decide (1≤a0)=true:=decide_eq_true c2;clear c2;obtain rfl:=si H
  go_in
  go_wp2
  go_ret
  exact ⟨fg,dr⟩
 ·intro c2 H;have gQ:decide (1≤a0)=false:=decide_eq_false c2;clear c2;obtain rfl:=si H
  go_in
  go_wp2
  go_ret
  exact ⟨fg,dr⟩
theorem I1.calls (a0:Int)(r:Bool)(w:World)(H:I1.f a0=some r) :
  Calls Tryz.prog 147 #[.int .i64 a0] w fun e w'=>e=.returned (.bool r)∧aW w w':=by
 unfold I1.f at H
 revert H;refine gT ?_ ?_
 ·intro c2 H;have gQ:decide (0≤a0)=true:=decide_eq_true c2;clear c2;obtain rfl:=si H
  go_in
  go_wp2
  go_ret
  exact ⟨fg,dr⟩
 ·intro c2 H;have gQ:decide (0≤a0)=false:=decide_eq_false c2;clear c2;obtain rfl:=si H
  go_in
  go_wp2
  go_ret
  exact ⟨fg,dr⟩
theorem AP.calls (k:Nat)(a0:Int)(Gr:Option Addr)(G7:Nat)(mE:List ByteArray)(r:Bool)(w:World)(U0:Kd.C Kd.string w Gr mE.length mE)(Tv:mE.length≤G7)(H:AP.f k a0 mE=some r) :
  Calls Tryz.prog 131 #[.int .u8 a0,.agg #[.slice Gr mE.length G7]] w fun e w'=>e=.returned (.bool r)∧Below w.heap.size w w':=by
 have Dy:=Tryz.underlying97;have acs:=am U0;have ahM:=am Tv;clear U0 Tv;have HB:=am (Below.refl w.heap.size w);unfold AP.f at H
 revert H;refine bH ?_ ?_
 ·intro aY dS H
  revert H;refine qO ?_
  intro c4 dF H;have kV:decide (0<mE.length)=true:=decide_eq_true (by omega);clear c4;replace H:=bo H;obtain ⟨⟨lK,t22⟩,A5,H⟩:=H;(try dsimp only at H)
  go_in
  try go_wp2_with (first|((with_reducible refine aJ (N:=3) rfl ?_);refine bz 3 (cs:=#[.slice Gr mE.length G7]) (t:=97) HB ?_;clear HB;intro avM hg w6 Q3 apH hb HB;clear hb hg;have BS:=vB Q3;have iO:0≤(0:Int):=(by omega);have iK:0<(mE.length:Int):=oa;obtain ⟨GV,e12,nO⟩:=Kd.jw acs.o 0 iO iK;cases e12;have azt:(0<mE.length)=True:=eq_true (by omega);(try rw [show ((0:Int)).toNat=0 from rfl] at nO);(try rw [Addr.add_zero'] at nO);replace nO:=cb HB nO;replace iO:=eq_true iO;replace iK:=eq_true iK))
  go_at_call 107;refine (il.calls k (bA ByteArray.empty mE 0) lK t22 _ A5.o).mono ?_;rintro e w8 ⟨rfl,hb⟩;replace Q3:=bb Q3 hb;replace HB:=bq HB hb;(try clear hb)
  revert H;refine bH ?_ ?_
  ·intro nN EW H;replace H:=bo H;obtain ⟨t28,ul,H⟩:=H;obtain rfl:=si H
   go_wp2_with (first|((go_at_call 36;refine (jQ.calls k (bA ByteArray.empty mE 0) t28 _ ul.o).mono ?_;rintro e w' ⟨rfl,⟨nd,rfl⟩⟩)))
   go_ret
   exact ⟨ff,bs HB⟩
  ·intro c9 nN EW H
   revert H;refine bH ?_ ?_
   ·intro xh EO H
    obtain rfl|rfl:=bt t22
    ·replace H:=dm H
     revert H;refine gT ?_ ?_
     ·intro c13 H;have mq:decide (0≤lK)=true:=decide_eq_true c13;clear c13;obtain rfl:=si H
      go_wp2
      go_ret
      exact ⟨ff,bs HB⟩
     ·intro c13 H;have mq:decide (0≤lK)=false:=decide_eq_false c13;clear c13;obtain rfl:=si H
      go_wp2
      go_ret
      exact ⟨ff,bs HB⟩
    ·replace H:=di H;obtain rfl:=si H
     go_wp2
     go_ret
     exact ⟨ff,bs HB⟩
   ·intro c11 xh EO H
    revert H;refine bH ?_ ?_
    ·intro ry N8 H
     obtain rfl|rfl:=bt t22
     ·replace H:=dm H;replace H:=bo H;obtain ⟨t29,M9,H⟩:=H;obtain rfl:=si H
      go_wp2_with (first|(go_at_call 146;refine (I4.calls lK t29 _ M9.o).mono ?_;rintro e w' ⟨rfl,⟨nd,rfl⟩⟩))
      go_ret
      exact ⟨ff,bs HB⟩
     ·replace H:=di H;obtain rfl:=si H
      go_wp2
      go_ret
      exact ⟨ff,bs HB⟩
    ·intro c14 ry N8 H
     revert H;refine bH ?_ ?_
     ·intro qD Dp H
      obtain rfl|rfl:=bt t22
      ·replace H:=dm H
       revert H;refine gT ?_ ?_
       ·intro c19 H;have vw:decide ((-1000000)≤lK)=true:=decide_eq_true c19;clear c19
        revert H;refine bK ?_ ?_
        ·intro vY H;obtain rfl:=si H
         go_wp2
         go_ret
         exact ⟨ff,bs HB⟩
        ·intro vY H;obtain rfl:=si H
         go_wp2
         go_ret
         exact ⟨ff,bs HB⟩
       ·intro c19 H;have vw:decide ((-1000000)≤lK)=false:=decide_eq_false c19;clear c19;obtain rfl:=si H
        go_wp2
        go_ret
        exact ⟨ff,bs HB⟩
      ·replace H:=di H;obtain rfl:=si H
       go_wp2
       go_ret
       exact ⟨ff,bs HB⟩
     ·intro c17 qD Dp H
      revert H;refine bH ?_ ?_
      ·intro zm EQ H
       obtain rfl|rfl:=bt t22
       ·replace H:=dm H;replace H:=bo H;obtain ⟨t30,A23,H⟩:=H;obtain rfl:=si H
        go_wp2_with (first|(go_at_call 147;refine (I1.calls lK t30 _ A23.o).mono ?_;rintro e w' ⟨rfl,⟨nd,rfl⟩⟩))
        go_ret
        exact ⟨ff,bs HB⟩
       ·replace H:=di H;obtain rfl:=si H
        go_wp2
        go_ret
        exact ⟨ff,bs HB⟩
      ·intro c21 zm EQ H
       revert H;refine Ps ?_ ?_
       ·intro vZ Kr ajE H;obtain rfl:=si H
        go_wp2
        go_ret
        exact ⟨ff,bs HB⟩
       ·intro c24 vZ Kr ajE H;replace H:=bo H;obtain ⟨t31,Na,H⟩:=H;obtain rfl:=si H
        go_wp2_with (first|(go_at_call 66;refine (ui.calls k (bA ByteArray.empty mE 0) t31 _ Na.o).mono ?_;rintro e w' ⟨rfl,⟨nd,rfl⟩⟩))
        go_ret
        exact ⟨ff,bs HB⟩
 ·intro c3 aY dS H;obtain rfl:=si H
  go_in
  go_wp2_with (first|((with_reducible refine aJ (N:=3) rfl ?_);refine bz 3 (cs:=#[.slice Gr mE.length G7]) (t:=97) HB ?_;clear HB;intro avM hg Qc Q3 apH hb HB;clear hb hg;have Ot:=vB Q3))
  go_ret
  exact ⟨ff,bs HB⟩
end Go.Proofs.YtapilmimgiaglaaGreatDoor.QX
