-- Merged by a program of this session (wip/tool/pack.py) out of its own texts for this claim.
import Derived.Test.YtapilmimgiaglaaGreatDoorKFnExactParcelRight9
set_option maxHeartbeats 8000000
set_option maxRecDepth 100000
set_option linter.unusedSimpArgs false
set_option linter.unusedVariables false
namespace Go.Proofs.YtapilmimgiaglaaGreatDoor.QA
open Go.RowKit Go.Proofs.bB.fA Go.Proofs.bB.PrintLast Go.Proofs.bB.PrintMore
attribute [local go_sem] o6 pg o9 pE o8 pz o7 pq   -- for this text's walks alone
theorem tF.calls (k:Nat) (a0:Int) (r:List (aC)) (w:World) (H:tF.f k a0=some r) :
  Calls Tryz.prog 105 #[.int .i64 a0] w fun e w'=>∃ kT:Value,e=.returned (kT)∧Kd.R iA 111 w' w.heap.size (fun _=>True) kT r∧Below w.heap.size w w':=by
 have WB:=Tryz.underlying111;have HB:=am (Below.refl w.heap.size w);unfold tF.f at H
 revert H;refine bL ?_ ?_
 ·intro gJ ja H;obtain ⟨y62,acG⟩:∃ y_:List (aC),y_=(([(⟨(⟨#[68,79,67]⟩:ByteArray),1,1,(⟨#[114,100]⟩:ByteArray)⟩:aC),(⟨(⟨#[78,79,84]⟩:ByteArray),0,2,(⟨#[116]⟩:ByteArray)⟩:aC),(⟨(⟨#[76,73,78]⟩:ByteArray),1,20,(⟨#[110,114,113,63,110]⟩:ByteArray)⟩:aC)]:List (aC))):=⟨_,rfl⟩
  replace H:(some y62)=some r:=ye acG H
  have afS:=am acG;clear acG;obtain rfl:=si H
  go_in
  go_wp2_with (first|((with_reducible refine aN (N:=3) rfl ?_);refine bz 3 (cs:=#[.string (⟨#[]⟩:ByteArray),.int .i64 0,.int .i64 0,.string (⟨#[]⟩:ByteArray)]) (t:=111) HB ?_;clear HB;intro jZ hg w3 dA aeN hb HB;clear hb hg;have P6:w3.cell? ⟨jZ,0,none⟩=some (.string (⟨#[]⟩:ByteArray)):=(az dA.out 0).trans rfl;have P7:w3.cell? ⟨jZ,1,none⟩=some (.int .i64 0):=(az dA.out 1).trans rfl;have abm:w3.cell? ⟨jZ,2,none⟩=some (.int .i64 0):=(az dA.out 2).trans rfl;have ahX:w3.cell? ⟨jZ,3,none⟩=some (.string (⟨#[]⟩:ByteArray)):=(az dA.out 3).trans rfl;have P9:=aV dA.out 0;have Qa:=aV dA.out 1;have abo:=aV dA.out 2;have ah0:=aV dA.out 3)|((with_reducible refine aN (N:=4) rfl ?_);refine bz 4 (cs:=#[.string (⟨#[]⟩:ByteArray),.int .i64 0,.int .i64 0,.string (⟨#[]⟩:ByteArray)]) (t:=111) HB ?_;clear HB;intro mP hg w5 iE amU hb HB;have El:=am ((gn hg (kp dA)));have Em:=am ((gm hg (kp dA)));replace dA:=am (aZ (g:=jZ) (o:=.cells #[.string (⟨#[68,79,67]⟩:ByteArray),.int .i64 1,.int .i64 1,.string (⟨#[114,100]⟩:ByteArray)] 111 (0,0)) (kp dA) hb);clear hb hg;have aji:=Em.out;have aju:=El.out;have aCN:w5.cell? ⟨mP,0,none⟩=some (.string (⟨#[]⟩:ByteArray)):=(az iE.out 0).trans rfl;have aCO:w5.cell? ⟨mP,1,none⟩=some (.int .i64 0):=(az iE.out 1).trans rfl;have aCP:w5.cell? ⟨mP,2,none⟩=some (.int .i64 0):=(az iE.out 2).trans rfl;have aCQ:w5.cell? ⟨mP,3,none⟩=some (.string (⟨#[]⟩:ByteArray)):=(az iE.out 3).trans rfl;have aEj:=aV iE.out 0;have aEk:=aV iE.out 1;have aEl:=aV iE.out 2;have aEm:=aV iE.out 3)|((with_reducible refine aN (N:=5) rfl ?_);refine bz 5 (cs:=#[.string (⟨#[]⟩:ByteArray),.int .i64 0,.int .i64 0,.string (⟨#[]⟩:ByteArray)]) (t:=111) HB ?_;clear HB;intro um hg w8 lV amV hb HB;have GA:=na hg dA;have GM:=nc hg dA;replace dA:=am (aZ (g:=jZ) (o:=.cells #[.string (⟨#[68,79,67]⟩:ByteArray),.int .i64 1,.int .i64 1,.string (⟨#[114,100]⟩:ByteArray)] 111 (0,0)) (ks dA) hb);have Oy:=am ((gn hg (kp iE)));have Oz:=am ((gm hg (kp iE)));replace iE:=am (aZ (g:=mP) (o:=.cells #[.string (⟨#[68,79,67]⟩:ByteArray),.int .i64 1,.int .i64 1,.string (⟨#[114,114,100]⟩:ByteArray)] 111 (0,0)) (kp iE) hb);clear hb hg;have Wy:=GM.out;have WA:=GA.out;have Wx:=Oz.out;have Wz:=Oy.out;have Bd:=eU lV;have aBZ:w8.cell? ⟨jZ,0,none⟩=some (.string (⟨#[68,79,67]⟩:ByteArray)):=(az dA.out 0).trans rfl;have aB0:w8.cell? ⟨jZ,1,none⟩=some (.int .i64 1):=(az dA.out 1).trans rfl;have aB1:w8.cell? ⟨jZ,2,none⟩=some (.int .i64 1):=(az dA.out 2).trans rfl;have aB2:w8.cell? ⟨jZ,3,none⟩=some (.string (⟨#[114,100]⟩:ByteArray)):=(az dA.out 3).trans rfl;have aDM:=aV dA.out 0;have aDN:=aV dA.out 1;have aDO:=aV dA.out 2;have aDP:=aV dA.out 3)|((with_reducible refine aN (N:=15) rfl ?_);refine rl iA 111 (N:=15) (xs:=([(⟨(⟨#[68,79,67]⟩:ByteArray),1,1,(⟨#[114,100]⟩:ByteArray)⟩:aC),(⟨(⟨#[78,79,84]⟩:ByteArray),0,2,(⟨#[116]⟩:ByteArray)⟩:aC),(⟨(⟨#[76,73,78]⟩:ByteArray),1,20,(⟨#[110,114,113,63,110]⟩:ByteArray)⟩:aC)]:List (aC))) (inner:=[.string (⟨#[68,79,67]⟩:ByteArray),.int .i64 1,.int .i64 1,.string (⟨#[114,100]⟩:ByteArray),.string (⟨#[78,79,84]⟩:ByteArray),.int .i64 0,.int .i64 2,.string (⟨#[116]⟩:ByteArray),.string (⟨#[76,73,78]⟩:ByteArray),.int .i64 1,.int .i64 20,.string (⟨#[110,114,113,63,110]⟩:ByteArray)]) ?hp ?_;(case hp=>exact (aQ.c4 (show Kd.M iA _ _ _ (⟨(⟨#[68,79,67]⟩:ByteArray),1,1,(⟨#[114,100]⟩:ByteArray)⟩:aC) [.string (⟨#[68,79,67]⟩:ByteArray),.int .i64 1,.int .i64 1,.string (⟨#[114,100]⟩:ByteArray)] from (l8 _ _ _ (⟨(⟨#[68,79,67]⟩:ByteArray),1,1,(⟨#[114,100]⟩:ByteArray)⟩:aC) )) (aQ.c4 (show Kd.M iA _ _ _ (⟨(⟨#[78,79,84]⟩:ByteArray),0,2,(⟨#[116]⟩:ByteArray)⟩:aC) [.string (⟨#[78,79,84]⟩:ByteArray),.int .i64 0,.int .i64 2,.string (⟨#[116]⟩:ByteArray)] from (l8 _ _ _ (⟨(⟨#[78,79,84]⟩:ByteArray),0,2,(⟨#[116]⟩:ByteArray)⟩:aC) )) (aQ.c4 (show Kd.M iA _ _ _ (⟨(⟨#[76,73,78]⟩:ByteArray),1,20,(⟨#[110,114,113,63,110]⟩:ByteArray)⟩:aC) [.string (⟨#[76,73,78]⟩:ByteArray),.int .i64 1,.int .i64 20,.string (⟨#[110,114,113,63,110]⟩:ByteArray)] from (l8 _ _ _ (⟨(⟨#[76,73,78]⟩:ByteArray),1,20,(⟨#[110,114,113,63,110]⟩:ByteArray)⟩:aC) )) (aQ.none _ _)))));intro v88 vO yw hb hg_ hnew_;clear hg_ hnew_;(first|rw [← afS.out] at yw|(simp only [Int.reduceToNat] at yw;rw [← afS.out] at yw));have Oi:=am (Kd.gU (Kd.mr (Kd.mr (Kd.mr yw (g:=jZ) (o:=.cells #[.string (⟨#[68,79,67]⟩:ByteArray),.int .i64 1,.int .i64 1,.string (⟨#[114,100]⟩:ByteArray)] 111 (0,0)) (ks dA)) (g:=mP) (o:=.cells #[.string (⟨#[68,79,67]⟩:ByteArray),.int .i64 1,.int .i64 1,.string (⟨#[114,114,100]⟩:ByteArray)] 111 (0,0)) (ks iE)) (g:=um) (o:=.cells #[.string (⟨#[78,79,84]⟩:ByteArray),.int .i64 0,.int .i64 2,.string (⟨#[116]⟩:ByteArray)] 111 (0,0)) (kp lV)) (bC (bs HB)));replace dA:=am (aZ (g:=jZ) (o:=.cells #[.string (⟨#[68,79,67]⟩:ByteArray),.int .i64 1,.int .i64 1,.string (⟨#[114,100]⟩:ByteArray)] 111 (0,0)) (ks dA) hb);replace iE:=am (aZ (g:=mP) (o:=.cells #[.string (⟨#[68,79,67]⟩:ByteArray),.int .i64 1,.int .i64 1,.string (⟨#[114,114,100]⟩:ByteArray)] 111 (0,0)) (ks iE) hb);replace lV:=am (aZ (g:=um) (o:=.cells #[.string (⟨#[78,79,84]⟩:ByteArray),.int .i64 0,.int .i64 2,.string (⟨#[116]⟩:ByteArray)] 111 (0,0)) (kp lV) hb);replace HB:=bq HB hb;clear hb yw))
  go_ret
  exact ⟨_,ff,by (with_reducible repeat (first|apply Kd.jW|apply Kd.jk|apply Kd.dY));exact Kd.dI Oi.out (fun _ hk=>trivial),bs HB⟩
 ·intro c2 gJ ja H;have Y8:=am H;clear H
  go_in
  go_upto_if 16 with (first|((with_reducible refine aN (N:=3) rfl ?_);refine bz 3 (cs:=#[.string (⟨#[]⟩:ByteArray),.int .i64 0,.int .i64 0,.string (⟨#[]⟩:ByteArray)]) (t:=111) HB ?_;clear HB;intro jZ hg w16 dA aeN hb HB;clear hb hg;have aCe:w16.cell? ⟨jZ,0,none⟩=some (.string (⟨#[]⟩:ByteArray)):=(az dA.out 0).trans rfl;have aCf:w16.cell? ⟨jZ,1,none⟩=some (.int .i64 0):=(az dA.out 1).trans rfl;have aCg:w16.cell? ⟨jZ,2,none⟩=some (.int .i64 0):=(az dA.out 2).trans rfl;have aCh:w16.cell? ⟨jZ,3,none⟩=some (.string (⟨#[]⟩:ByteArray)):=(az dA.out 3).trans rfl;have aDW:=aV dA.out 0;have aDX:=aV dA.out 1;have aDY:=aV dA.out 2;have aDZ:=aV dA.out 3)|((with_reducible refine aN (N:=4) rfl ?_);refine bz 4 (cs:=#[.string (⟨#[]⟩:ByteArray),.int .i64 0,.int .i64 0,.string (⟨#[]⟩:ByteArray)]) (t:=111) HB ?_;clear HB;intro mP hg xY iE amU hb HB;have El:=am ((gn hg (kp dA)));have Em:=am ((gm hg (kp dA)));replace dA:=am (aZ (g:=jZ) (o:=.cells #[.string (⟨#[68,79,67]⟩:ByteArray),.int .i64 1,.int .i64 1,.string (⟨#[114,100]⟩:ByteArray)] 111 (0,0)) (kp dA) hb);clear hb hg;have atz:=Em.out;have atZ:=El.out;have aCi:xY.cell? ⟨mP,0,none⟩=some (.string (⟨#[]⟩:ByteArray)):=(az iE.out 0).trans rfl;have aCj:xY.cell? ⟨mP,1,none⟩=some (.int .i64 0):=(az iE.out 1).trans rfl;have aCk:xY.cell? ⟨mP,2,none⟩=some (.int .i64 0):=(az iE.out 2).trans rfl;have aCl:xY.cell? ⟨mP,3,none⟩=some (.string (⟨#[]⟩:ByteArray)):=(az iE.out 3).trans rfl;have aD0:=aV iE.out 0;have aD1:=aV iE.out 1;have aD2:=aV iE.out 2;have aD3:=aV iE.out 3)|((with_reducible refine aN (N:=5) rfl ?_);refine bz 5 (cs:=#[.string (⟨#[]⟩:ByteArray),.int .i64 0,.int .i64 0,.string (⟨#[]⟩:ByteArray)]) (t:=111) HB ?_;clear HB;intro um hg Ah lV amV hb HB;have GA:=na hg dA;have GM:=nc hg dA;replace dA:=am (aZ (g:=jZ) (o:=.cells #[.string (⟨#[68,79,67]⟩:ByteArray),.int .i64 1,.int .i64 1,.string (⟨#[114,100]⟩:ByteArray)] 111 (0,0)) (ks dA) hb);have Oy:=am ((gn hg (kp iE)));have Oz:=am ((gm hg (kp iE)));replace iE:=am (aZ (g:=mP) (o:=.cells #[.string (⟨#[68,79,67]⟩:ByteArray),.int .i64 1,.int .i64 1,.string (⟨#[114,114,100]⟩:ByteArray)] 111 (0,0)) (kp iE) hb);clear hb hg;have abE:=GM.out;have abI:=GA.out;have atB:=Oz.out;have at5:=Oy.out;have Li:=eU lV))
  (try simp only [Act.put,List.setIfInBounds_toArray,List.set_cons_zero,List.set_cons_succ])
  go_cut [16] (fun v16 wc=>∃ (kq:Nat) (Yf:Bool),v16=.bool Yf∧af (tF.j0 kq a0 Yf (⟨#[68,79,67]⟩:ByteArray) 1 1 (⟨#[114,100]⟩:ByteArray) (⟨#[68,79,67]⟩:ByteArray) 1 1 (⟨#[114,114,100]⟩:ByteArray) (⟨#[78,79,84]⟩:ByteArray) 0 2 (⟨#[116]⟩:ByteArray)=some r)∧af (kq≤k)∧af (wc.heap[jZ]? = some (.cells #[.string (⟨#[68,79,67]⟩:ByteArray),.int .i64 1,.int .i64 1,.string (⟨#[114,100]⟩:ByteArray)] 111 (0,0)))∧af (wc.heap[mP]? = some (.cells #[.string (⟨#[68,79,67]⟩:ByteArray),.int .i64 1,.int .i64 1,.string (⟨#[114,114,100]⟩:ByteArray)] 111 (0,0)))∧af (wc.heap[um]? = some (.cells #[.string (⟨#[78,79,84]⟩:ByteArray),.int .i64 0,.int .i64 2,.string (⟨#[116]⟩:ByteArray)] 111 (0,0)))∧af (Below w.heap.size w wc))
  case first =>
   have H:=Y8.out;clear Y8
   revert H;refine bL ?_ ?_
   ·intro AY aaJ H
    (first|rw [AY]|(simp only [fu,gy];rw [AY])|rw [aaJ]|skip)
    have H':=am H;clear H
    go_wp2
    go_meet
    case rel=>exact ⟨_,((a0 == 2)),fg,H',⟨fl⟩,⟨ks dA⟩,⟨ks iE⟩,⟨kp lV⟩,⟨bs HB⟩⟩
   ·intro c25 AY aaJ H
    (first|rw [AY]|(simp only [fu,gy];rw [AY])|rw [aaJ]|skip)
    have H':=am H;clear H
    go_wp2
    go_meet
    case rel=>exact ⟨_,((a0 == 4)),fg,H',⟨fl⟩,⟨ks dA⟩,⟨ks iE⟩,⟨kp lV⟩,⟨bs HB⟩⟩
  case rest =>
   clear Y8
   try clear c2
   try clear gJ
   try clear ja
   try clear Li
   obtain ⟨kq,Yf,rfl,HA,aAC,dA,iE,lV,HB⟩:=hcut
   cases kq with
   | zero=>exact absurd HA.out (by simp [tF.j0])
   | succ aId =>
    have H:=HA.out;clear HA;simp only [tF.j0] at H
    obtain rfl|rfl:=bt Yf
    ·replace H:=dE H;obtain ⟨YD,IA⟩:∃ y_:List (aC),y_=(([(⟨(⟨#[68,79,67]⟩:ByteArray),1,1,(⟨#[114,114,100]⟩:ByteArray)⟩:aC),(⟨(⟨#[76,73,78]⟩:ByteArray),1,20,(⟨#[110,113,63,116]⟩:ByteArray)⟩:aC)]:List (aC))):=⟨_,rfl⟩
     replace H:(some YD)=some r:=ye IA H
     have U0:=am IA;clear IA;obtain rfl:=si H;have ajc:=Em.out;have ajo:=El.out;have QO:=Oy.out;have QQ:=Oz.out;have Ih:=eU iE
     go_wp2_with (first|((with_reducible refine aN (N:=21) rfl ?_);refine rl iA 111 (N:=21) (xs:=([(⟨(⟨#[68,79,67]⟩:ByteArray),1,1,(⟨#[114,114,100]⟩:ByteArray)⟩:aC),(⟨(⟨#[76,73,78]⟩:ByteArray),1,20,(⟨#[110,113,63,116]⟩:ByteArray)⟩:aC)]:List (aC))) (inner:=[.string (⟨#[68,79,67]⟩:ByteArray),.int .i64 1,.int .i64 1,.string (⟨#[114,114,100]⟩:ByteArray),.string (⟨#[76,73,78]⟩:ByteArray),.int .i64 1,.int .i64 20,.string (⟨#[110,113,63,116]⟩:ByteArray)]) ?hp ?_;(case hp=>exact (aQ.c4 (show Kd.M iA _ _ _ (⟨(⟨#[68,79,67]⟩:ByteArray),1,1,(⟨#[114,114,100]⟩:ByteArray)⟩:aC) [.string (⟨#[68,79,67]⟩:ByteArray),.int .i64 1,.int .i64 1,.string (⟨#[114,114,100]⟩:ByteArray)] from (l8 _ _ _ (⟨(⟨#[68,79,67]⟩:ByteArray),1,1,(⟨#[114,114,100]⟩:ByteArray)⟩:aC) )) (aQ.c4 (show Kd.M iA _ _ _ (⟨(⟨#[76,73,78]⟩:ByteArray),1,20,(⟨#[110,113,63,116]⟩:ByteArray)⟩:aC) [.string (⟨#[76,73,78]⟩:ByteArray),.int .i64 1,.int .i64 20,.string (⟨#[110,113,63,116]⟩:ByteArray)] from (l8 _ _ _ (⟨(⟨#[76,73,78]⟩:ByteArray),1,20,(⟨#[110,113,63,116]⟩:ByteArray)⟩:aC) )) (aQ.none _ _))));intro v89 qJ nC hb hg_ hnew_;clear hg_ hnew_;(first|rw [← U0.out] at nC|(simp only [Int.reduceToNat] at nC;rw [← U0.out] at nC));have anF:=am (Kd.gU (Kd.mr (Kd.mr (Kd.mr nC (g:=jZ) (o:=.cells #[.string (⟨#[68,79,67]⟩:ByteArray),.int .i64 1,.int .i64 1,.string (⟨#[114,100]⟩:ByteArray)] 111 (0,0)) (ks dA)) (g:=mP) (o:=.cells #[.string (⟨#[68,79,67]⟩:ByteArray),.int .i64 1,.int .i64 1,.string (⟨#[114,114,100]⟩:ByteArray)] 111 (0,0)) (ks iE)) (g:=um) (o:=.cells #[.string (⟨#[78,79,84]⟩:ByteArray),.int .i64 0,.int .i64 2,.string (⟨#[116]⟩:ByteArray)] 111 (0,0)) (ks lV)) (bC (bs HB)));replace dA:=am (aZ (g:=jZ) (o:=.cells #[.string (⟨#[68,79,67]⟩:ByteArray),.int .i64 1,.int .i64 1,.string (⟨#[114,100]⟩:ByteArray)] 111 (0,0)) (ks dA) hb);replace iE:=am (aZ (g:=mP) (o:=.cells #[.string (⟨#[68,79,67]⟩:ByteArray),.int .i64 1,.int .i64 1,.string (⟨#[114,114,100]⟩:ByteArray)] 111 (0,0)) (ks iE) hb);replace lV:=am (aZ (g:=um) (o:=.cells #[.string (⟨#[78,79,84]⟩:ByteArray),.int .i64 0,.int .i64 2,.string (⟨#[116]⟩:ByteArray)] 111 (0,0)) (ks lV) hb);replace HB:=bq HB hb;clear hb nC))
     go_ret
     exact ⟨_,ff,by (with_reducible repeat (first|apply Kd.jW|apply Kd.jk|apply Kd.dY));exact Kd.dI anF.out (fun _ hk=>trivial),bs HB⟩
    ·replace H:=dD H
     revert H;refine bL ?_ ?_
     ·intro Pb VL H;obtain ⟨y69,acL⟩:∃ y_:List (aC),y_=(([(⟨(⟨#[68,79,67]⟩:ByteArray),1,1,(⟨#[114,114,100]⟩:ByteArray)⟩:aC),(⟨(⟨#[78,79,84]⟩:ByteArray),0,2,(⟨#[116]⟩:ByteArray)⟩:aC),(⟨(⟨#[76,73,78]⟩:ByteArray),1,20,(⟨#[110,113]⟩:ByteArray)⟩:aC)]:List (aC))):=⟨_,rfl⟩
      replace H:(some y69)=some r:=ye acL H
      have afT:=am acL;clear acL;obtain rfl:=si H;have aFB:=Em.out;have aGm:=El.out;have abG:=Oy.out;have abK:=Oz.out;have Wq:=eU iE;have atE:=GM.out;have aua:=GA.out;have abj:=eU lV
      go_wp2_with (first|((with_reducible refine aN (N:=27) rfl ?_);refine rl iA 111 (N:=27) (xs:=([(⟨(⟨#[68,79,67]⟩:ByteArray),1,1,(⟨#[114,114,100]⟩:ByteArray)⟩:aC),(⟨(⟨#[78,79,84]⟩:ByteArray),0,2,(⟨#[116]⟩:ByteArray)⟩:aC),(⟨(⟨#[76,73,78]⟩:ByteArray),1,20,(⟨#[110,113]⟩:ByteArray)⟩:aC)]:List (aC))) (inner:=[.string (⟨#[68,79,67]⟩:ByteArray),.int .i64 1,.int .i64 1,.string (⟨#[114,114,100]⟩:ByteArray),.string (⟨#[78,79,84]⟩:ByteArray),.int .i64 0,.int .i64 2,.string (⟨#[116]⟩:ByteArray),.string (⟨#[76,73,78]⟩:ByteArray),.int .i64 1,.int .i64 20,.string (⟨#[110,113]⟩:ByteArray)]) ?hp ?_;(case hp=>exact (aQ.c4 (show Kd.M iA _ _ _ (⟨(⟨#[68,79,67]⟩:ByteArray),1,1,(⟨#[114,114,100]⟩:ByteArray)⟩:aC) [.string (⟨#[68,79,67]⟩:ByteArray),.int .i64 1,.int .i64 1,.string (⟨#[114,114,100]⟩:ByteArray)] from (l8 _ _ _ (⟨(⟨#[68,79,67]⟩:ByteArray),1,1,(⟨#[114,114,100]⟩:ByteArray)⟩:aC) )) (aQ.c4 (show Kd.M iA _ _ _ (⟨(⟨#[78,79,84]⟩:ByteArray),0,2,(⟨#[116]⟩:ByteArray)⟩:aC) [.string (⟨#[78,79,84]⟩:ByteArray),.int .i64 0,.int .i64 2,.string (⟨#[116]⟩:ByteArray)] from (l8 _ _ _ (⟨(⟨#[78,79,84]⟩:ByteArray),0,2,(⟨#[116]⟩:ByteArray)⟩:aC) )) (aQ.c4 (show Kd.M iA _ _ _ (⟨(⟨#[76,73,78]⟩:ByteArray),1,20,(⟨#[110,113]⟩:ByteArray)⟩:aC) [.string (⟨#[76,73,78]⟩:ByteArray),.int .i64 1,.int .i64 20,.string (⟨#[110,113]⟩:ByteArray)] from (l8 _ _ _ (⟨(⟨#[76,73,78]⟩:ByteArray),1,20,(⟨#[110,113]⟩:ByteArray)⟩:aC) )) (aQ.none _ _)))));intro v90 w38 QW hb hg_ hnew_;clear hg_ hnew_;(first|rw [← afT.out] at QW|(simp only [Int.reduceToNat] at QW;rw [← afT.out] at QW));have anG:=am (Kd.gU (Kd.mr (Kd.mr (Kd.mr QW (g:=jZ) (o:=.cells #[.string (⟨#[68,79,67]⟩:ByteArray),.int .i64 1,.int .i64 1,.string (⟨#[114,100]⟩:ByteArray)] 111 (0,0)) (ks dA)) (g:=mP) (o:=.cells #[.string (⟨#[68,79,67]⟩:ByteArray),.int .i64 1,.int .i64 1,.string (⟨#[114,114,100]⟩:ByteArray)] 111 (0,0)) (ks iE)) (g:=um) (o:=.cells #[.string (⟨#[78,79,84]⟩:ByteArray),.int .i64 0,.int .i64 2,.string (⟨#[116]⟩:ByteArray)] 111 (0,0)) (ks lV)) (bC (bs HB)));replace dA:=am (aZ (g:=jZ) (o:=.cells #[.string (⟨#[68,79,67]⟩:ByteArray),.int .i64 1,.int .i64 1,.string (⟨#[114,100]⟩:ByteArray)] 111 (0,0)) (ks dA) hb);replace iE:=am (aZ (g:=mP) (o:=.cells #[.string (⟨#[68,79,67]⟩:ByteArray),.int .i64 1,.int .i64 1,.string (⟨#[114,114,100]⟩:ByteArray)] 111 (0,0)) (ks iE) hb);replace lV:=am (aZ (g:=um) (o:=.cells #[.string (⟨#[78,79,84]⟩:ByteArray),.int .i64 0,.int .i64 2,.string (⟨#[116]⟩:ByteArray)] 111 (0,0)) (ks lV) hb);replace HB:=bq HB hb;clear hb QW))
      go_ret
      exact ⟨_,ff,by (with_reducible repeat (first|apply Kd.jW|apply Kd.jk|apply Kd.dY));exact Kd.dI anG.out (fun _ hk=>trivial),bs HB⟩
     ·intro c32 Pb VL H
      revert H;refine bL ?_ ?_
      ·intro zB VN H;obtain ⟨y70,acM⟩:∃ y_:List (aC),y_=(([(⟨(⟨#[68,79,67]⟩:ByteArray),1,1,(⟨#[114,100]⟩:ByteArray)⟩:aC),(⟨(⟨#[73,84,77]⟩:ByteArray),1,20,(⟨#[114,110]⟩:ByteArray)⟩:aC)]:List (aC))):=⟨_,rfl⟩
       replace H:(some y70)=some r:=ye acM H
       have afU:=am acM;clear acM;obtain rfl:=si H;have atG:=El.out;have auc:=Em.out;have aFE:=GA.out;have aGp:=GM.out;have asU:=eU dA
       go_wp2_with (first|((with_reducible refine aN (N:=32) rfl ?_);refine rl iA 111 (N:=32) (xs:=([(⟨(⟨#[68,79,67]⟩:ByteArray),1,1,(⟨#[114,100]⟩:ByteArray)⟩:aC),(⟨(⟨#[73,84,77]⟩:ByteArray),1,20,(⟨#[114,110]⟩:ByteArray)⟩:aC)]:List (aC))) (inner:=[.string (⟨#[68,79,67]⟩:ByteArray),.int .i64 1,.int .i64 1,.string (⟨#[114,100]⟩:ByteArray),.string (⟨#[73,84,77]⟩:ByteArray),.int .i64 1,.int .i64 20,.string (⟨#[114,110]⟩:ByteArray)]) ?hp ?_;(case hp=>exact (aQ.c4 (show Kd.M iA _ _ _ (⟨(⟨#[68,79,67]⟩:ByteArray),1,1,(⟨#[114,100]⟩:ByteArray)⟩:aC) [.string (⟨#[68,79,67]⟩:ByteArray),.int .i64 1,.int .i64 1,.string (⟨#[114,100]⟩:ByteArray)] from (l8 _ _ _ (⟨(⟨#[68,79,67]⟩:ByteArray),1,1,(⟨#[114,100]⟩:ByteArray)⟩:aC) )) (aQ.c4 (show Kd.M iA _ _ _ (⟨(⟨#[73,84,77]⟩:ByteArray),1,20,(⟨#[114,110]⟩:ByteArray)⟩:aC) [.string (⟨#[73,84,77]⟩:ByteArray),.int .i64 1,.int .i64 20,.string (⟨#[114,110]⟩:ByteArray)] from (l8 _ _ _ (⟨(⟨#[73,84,77]⟩:ByteArray),1,20,(⟨#[114,110]⟩:ByteArray)⟩:aC) )) (aQ.none _ _))));intro v91 DL zO hb hg_ hnew_;clear hg_ hnew_;(first|rw [← afU.out] at zO|(simp only [Int.reduceToNat] at zO;rw [← afU.out] at zO));have anH:=am (Kd.gU (Kd.mr (Kd.mr (Kd.mr zO (g:=jZ) (o:=.cells #[.string (⟨#[68,79,67]⟩:ByteArray),.int .i64 1,.int .i64 1,.string (⟨#[114,100]⟩:ByteArray)] 111 (0,0)) (ks dA)) (g:=mP) (o:=.cells #[.string (⟨#[68,79,67]⟩:ByteArray),.int .i64 1,.int .i64 1,.string (⟨#[114,114,100]⟩:ByteArray)] 111 (0,0)) (ks iE)) (g:=um) (o:=.cells #[.string (⟨#[78,79,84]⟩:ByteArray),.int .i64 0,.int .i64 2,.string (⟨#[116]⟩:ByteArray)] 111 (0,0)) (ks lV)) (bC (bs HB)));replace dA:=am (aZ (g:=jZ) (o:=.cells #[.string (⟨#[68,79,67]⟩:ByteArray),.int .i64 1,.int .i64 1,.string (⟨#[114,100]⟩:ByteArray)] 111 (0,0)) (ks dA) hb);replace iE:=am (aZ (g:=mP) (o:=.cells #[.string (⟨#[68,79,67]⟩:ByteArray),.int .i64 1,.int .i64 1,.string (⟨#[114,114,100]⟩:ByteArray)] 111 (0,0)) (ks iE) hb);replace lV:=am (aZ (g:=um) (o:=.cells #[.string (⟨#[78,79,84]⟩:ByteArray),.int .i64 0,.int .i64 2,.string (⟨#[116]⟩:ByteArray)] 111 (0,0)) (ks lV) hb);replace HB:=bq HB hb;clear hb zO))
       go_ret
       exact ⟨_,ff,by (with_reducible repeat (first|apply Kd.jW|apply Kd.jk|apply Kd.dY));exact Kd.dI anH.out (fun _ hk=>trivial),bs HB⟩
      ·intro c40 zB VN H
       revert H;refine bL ?_ ?_
       ·intro K8 Pf H;obtain ⟨YE,IB⟩:∃ y_:List (aC),y_=(([(⟨(⟨#[68,79,67]⟩:ByteArray),1,1,(⟨#[114,100]⟩:ByteArray)⟩:aC),(⟨(⟨#[73,84,77]⟩:ByteArray),1,20,(⟨#[114,122,63,116]⟩:ByteArray)⟩:aC)]:List (aC))):=⟨_,rfl⟩
        replace H:(some YE)=some r:=ye IB H
        have OG:=am IB;clear IB;obtain rfl:=si H;have aje:=El.out;have ajq:=Em.out;have aFG:=GA.out;have aGr:=GM.out;have ahW:=eU dA
        go_wp2_with (first|((with_reducible refine aN (N:=37) rfl ?_);refine rl iA 111 (N:=37) (xs:=([(⟨(⟨#[68,79,67]⟩:ByteArray),1,1,(⟨#[114,100]⟩:ByteArray)⟩:aC),(⟨(⟨#[73,84,77]⟩:ByteArray),1,20,(⟨#[114,122,63,116]⟩:ByteArray)⟩:aC)]:List (aC))) (inner:=[.string (⟨#[68,79,67]⟩:ByteArray),.int .i64 1,.int .i64 1,.string (⟨#[114,100]⟩:ByteArray),.string (⟨#[73,84,77]⟩:ByteArray),.int .i64 1,.int .i64 20,.string (⟨#[114,122,63,116]⟩:ByteArray)]) ?hp ?_;(case hp=>exact (aQ.c4 (show Kd.M iA _ _ _ (⟨(⟨#[68,79,67]⟩:ByteArray),1,1,(⟨#[114,100]⟩:ByteArray)⟩:aC) [.string (⟨#[68,79,67]⟩:ByteArray),.int .i64 1,.int .i64 1,.string (⟨#[114,100]⟩:ByteArray)] from (l8 _ _ _ (⟨(⟨#[68,79,67]⟩:ByteArray),1,1,(⟨#[114,100]⟩:ByteArray)⟩:aC) )) (aQ.c4 (show Kd.M iA _ _ _ (⟨(⟨#[73,84,77]⟩:ByteArray),1,20,(⟨#[114,122,63,116]⟩:ByteArray)⟩:aC) [.string (⟨#[73,84,77]⟩:ByteArray),.int .i64 1,.int .i64 20,.string (⟨#[114,122,63,116]⟩:ByteArray)] from (l8 _ _ _ (⟨(⟨#[73,84,77]⟩:ByteArray),1,20,(⟨#[114,122,63,116]⟩:ByteArray)⟩:aC) )) (aQ.none _ _))));intro v92 Ty QY hb hg_ hnew_;clear hg_ hnew_;(first|rw [← OG.out] at QY|(simp only [Int.reduceToNat] at QY;rw [← OG.out] at QY));have anI:=am (Kd.gU (Kd.mr (Kd.mr (Kd.mr QY (g:=jZ) (o:=.cells #[.string (⟨#[68,79,67]⟩:ByteArray),.int .i64 1,.int .i64 1,.string (⟨#[114,100]⟩:ByteArray)] 111 (0,0)) (ks dA)) (g:=mP) (o:=.cells #[.string (⟨#[68,79,67]⟩:ByteArray),.int .i64 1,.int .i64 1,.string (⟨#[114,114,100]⟩:ByteArray)] 111 (0,0)) (ks iE)) (g:=um) (o:=.cells #[.string (⟨#[78,79,84]⟩:ByteArray),.int .i64 0,.int .i64 2,.string (⟨#[116]⟩:ByteArray)] 111 (0,0)) (ks lV)) (bC (bs HB)));replace dA:=am (aZ (g:=jZ) (o:=.cells #[.string (⟨#[68,79,67]⟩:ByteArray),.int .i64 1,.int .i64 1,.string (⟨#[114,100]⟩:ByteArray)] 111 (0,0)) (ks dA) hb);replace iE:=am (aZ (g:=mP) (o:=.cells #[.string (⟨#[68,79,67]⟩:ByteArray),.int .i64 1,.int .i64 1,.string (⟨#[114,114,100]⟩:ByteArray)] 111 (0,0)) (ks iE) hb);replace lV:=am (aZ (g:=um) (o:=.cells #[.string (⟨#[78,79,84]⟩:ByteArray),.int .i64 0,.int .i64 2,.string (⟨#[116]⟩:ByteArray)] 111 (0,0)) (ks lV) hb);replace HB:=bq HB hb;clear hb QY))
        go_ret
        exact ⟨_,ff,by (with_reducible repeat (first|apply Kd.jW|apply Kd.jk|apply Kd.dY));exact Kd.dI anI.out (fun _ hk=>trivial),bs HB⟩
       ·intro c46 K8 Pf H
        revert H;refine bL ?_ ?_
        ·intro aaP aaQ H;obtain ⟨y72,acN⟩:∃ y_:List (aC),y_=(([(⟨(⟨#[68,79,67]⟩:ByteArray),1,1,(⟨#[114,100]⟩:ByteArray)⟩:aC),(⟨(⟨#[65,67,75]⟩:ByteArray),1,1,(⟨#[110,110,63,110]⟩:ByteArray)⟩:aC)]:List (aC))):=⟨_,rfl⟩
         replace H:(some y72)=some r:=ye acN H
         have afV:=am acN;clear acN;obtain rfl:=si H;have aFI:=El.out;have aGt:=Em.out;have ajg:=GA.out;have ajs:=GM.out;have aCD:=eU dA
         go_wp2_with (first|((with_reducible refine aN (N:=42) rfl ?_);refine rl iA 111 (N:=42) (xs:=([(⟨(⟨#[68,79,67]⟩:ByteArray),1,1,(⟨#[114,100]⟩:ByteArray)⟩:aC),(⟨(⟨#[65,67,75]⟩:ByteArray),1,1,(⟨#[110,110,63,110]⟩:ByteArray)⟩:aC)]:List (aC))) (inner:=[.string (⟨#[68,79,67]⟩:ByteArray),.int .i64 1,.int .i64 1,.string (⟨#[114,100]⟩:ByteArray),.string (⟨#[65,67,75]⟩:ByteArray),.int .i64 1,.int .i64 1,.string (⟨#[110,110,63,110]⟩:ByteArray)]) ?hp ?_;(case hp=>exact (aQ.c4 (show Kd.M iA _ _ _ (⟨(⟨#[68,79,67]⟩:ByteArray),1,1,(⟨#[114,100]⟩:ByteArray)⟩:aC) [.string (⟨#[68,79,67]⟩:ByteArray),.int .i64 1,.int .i64 1,.string (⟨#[114,100]⟩:ByteArray)] from (l8 _ _ _ (⟨(⟨#[68,79,67]⟩:ByteArray),1,1,(⟨#[114,100]⟩:ByteArray)⟩:aC) )) (aQ.c4 (show Kd.M iA _ _ _ (⟨(⟨#[65,67,75]⟩:ByteArray),1,1,(⟨#[110,110,63,110]⟩:ByteArray)⟩:aC) [.string (⟨#[65,67,75]⟩:ByteArray),.int .i64 1,.int .i64 1,.string (⟨#[110,110,63,110]⟩:ByteArray)] from (l8 _ _ _ (⟨(⟨#[65,67,75]⟩:ByteArray),1,1,(⟨#[110,110,63,110]⟩:ByteArray)⟩:aC) )) (aQ.none _ _))));intro v93 w56 QZ hb hg_ hnew_;clear hg_ hnew_;(first|rw [← afV.out] at QZ|(simp only [Int.reduceToNat] at QZ;rw [← afV.out] at QZ));have anJ:=am (Kd.gU (Kd.mr (Kd.mr (Kd.mr QZ (g:=jZ) (o:=.cells #[.string (⟨#[68,79,67]⟩:ByteArray),.int .i64 1,.int .i64 1,.string (⟨#[114,100]⟩:ByteArray)] 111 (0,0)) (ks dA)) (g:=mP) (o:=.cells #[.string (⟨#[68,79,67]⟩:ByteArray),.int .i64 1,.int .i64 1,.string (⟨#[114,114,100]⟩:ByteArray)] 111 (0,0)) (ks iE)) (g:=um) (o:=.cells #[.string (⟨#[78,79,84]⟩:ByteArray),.int .i64 0,.int .i64 2,.string (⟨#[116]⟩:ByteArray)] 111 (0,0)) (ks lV)) (bC (bs HB)));replace dA:=am (aZ (g:=jZ) (o:=.cells #[.string (⟨#[68,79,67]⟩:ByteArray),.int .i64 1,.int .i64 1,.string (⟨#[114,100]⟩:ByteArray)] 111 (0,0)) (ks dA) hb);replace iE:=am (aZ (g:=mP) (o:=.cells #[.string (⟨#[68,79,67]⟩:ByteArray),.int .i64 1,.int .i64 1,.string (⟨#[114,114,100]⟩:ByteArray)] 111 (0,0)) (ks iE) hb);replace lV:=am (aZ (g:=um) (o:=.cells #[.string (⟨#[78,79,84]⟩:ByteArray),.int .i64 0,.int .i64 2,.string (⟨#[116]⟩:ByteArray)] 111 (0,0)) (ks lV) hb);replace HB:=bq HB hb;clear hb QZ))
         go_ret
         exact ⟨_,ff,by (with_reducible repeat (first|apply Kd.jW|apply Kd.jk|apply Kd.dY));exact Kd.dI anJ.out (fun _ hk=>trivial),bs HB⟩
        ·intro c52 aaP aaQ H;obtain ⟨y74,acO⟩:∃ y_:List (aC),y_=(([]:List (aC))):=⟨_,rfl⟩
         replace H:(some y74)=some r:=ye acO H
         have afW:=am acO;clear acO;obtain rfl:=si H
         go_wp2_with (first|((with_reducible refine aN (N:=43) rfl ?_);refine rl iA 111 (N:=43) (xs:=([]:List (aC))) (inner:=[]) ?hp ?_;(case hp=>exact (aQ.none _ _));intro v94 w58 Q0 hb hg_ hnew_;clear hg_ hnew_;(first|rw [← afW.out] at Q0|(simp only [Int.reduceToNat] at Q0;rw [← afW.out] at Q0));have anK:=am (Kd.gU (Kd.mr (Kd.mr (Kd.mr Q0 (g:=jZ) (o:=.cells #[.string (⟨#[68,79,67]⟩:ByteArray),.int .i64 1,.int .i64 1,.string (⟨#[114,100]⟩:ByteArray)] 111 (0,0)) (ks dA)) (g:=mP) (o:=.cells #[.string (⟨#[68,79,67]⟩:ByteArray),.int .i64 1,.int .i64 1,.string (⟨#[114,114,100]⟩:ByteArray)] 111 (0,0)) (ks iE)) (g:=um) (o:=.cells #[.string (⟨#[78,79,84]⟩:ByteArray),.int .i64 0,.int .i64 2,.string (⟨#[116]⟩:ByteArray)] 111 (0,0)) (ks lV)) (bC (bs HB)));replace dA:=am (aZ (g:=jZ) (o:=.cells #[.string (⟨#[68,79,67]⟩:ByteArray),.int .i64 1,.int .i64 1,.string (⟨#[114,100]⟩:ByteArray)] 111 (0,0)) (ks dA) hb);replace iE:=am (aZ (g:=mP) (o:=.cells #[.string (⟨#[68,79,67]⟩:ByteArray),.int .i64 1,.int .i64 1,.string (⟨#[114,114,100]⟩:ByteArray)] 111 (0,0)) (ks iE) hb);replace lV:=am (aZ (g:=um) (o:=.cells #[.string (⟨#[78,79,84]⟩:ByteArray),.int .i64 0,.int .i64 2,.string (⟨#[116]⟩:ByteArray)] 111 (0,0)) (ks lV) hb);replace HB:=bq HB hb;clear hb Q0))
         go_ret
         exact ⟨_,ff,by (with_reducible repeat (first|apply Kd.jW|apply Kd.jk|apply Kd.dY));exact Kd.dI anK.out (fun _ hk=>trivial),bs HB⟩
theorem gL.calls (k:Nat) (a0:ByteArray) (r1:Int) (r2:Bool) (w:World) (H:gL.f k a0=some (r1,r2)) :
  Calls Tryz.prog 107 #[.string a0] w fun e w'=>e=.returned (.tuple #[.int .i64 r1,.bool r2])∧Below w.heap.size w w':=by
 have HB:=am (Below.refl w.heap.size w);unfold gL.f at H;have kV:=am H;clear H
 go_in
 go_upto_region 1 with (fail)
 go_cut [4] (fun v4 wc=>∃ (kq:Nat) (dM:Bool),v4=.bool dM∧af (gL.j0 kq a0 dM=some (r1,r2))∧af (kq≤k)∧af (Below w.heap.size w wc))
 case first =>
  have H:=kV.out;clear kV
  revert H;refine gz ?_ ?_
  ·intro c3 H;have bN:decide (0<(a0.size:Int))=true:=decide_eq_true c3;have fo:decide (0<a0.size)=true:=decide_eq_true (by omega);clear c3
   (first|rw [bN]|(simp only [fu,gy];rw [bN])|rw [fo]|skip)
   revert H;refine qx ?_
   intro c4 dS H;have kW:decide (0<a0.size)=true:=decide_eq_true (by omega);clear c4;have H':=am H;clear H;have p5:0≤(0:Int):=(by omega);have q5:0<a0.size:=(by have:(0:Int)<(a0.size:Int):=oa;omega);have hx5:∀ h:0<a0.size,((a0[0]'h).toNat:Int)=bt a0 0:=gF a0 0;clear p5;have qi5:(0<(a0.size:Int))=True:=eq_true (oa);replace q5:=eq_true q5
   go_wp2
   go_meet
   case rel=>exact ⟨_,(((bt a0 0) == 45)),fg,H',⟨fl⟩,⟨bs HB⟩⟩
  ·intro c3 H;have bN:decide (0<(a0.size:Int))=false:=decide_eq_false c3;have fo:decide (0<a0.size)=false:=decide_eq_false (by omega);clear c3
   (first|rw [bN]|(simp only [fu,gy];rw [bN])|rw [fo]|skip)
   have H':=am H;clear H
   go_wp2
   go_meet
   case rel=>exact ⟨_,(false),fg,H',⟨fl⟩,⟨bs HB⟩⟩
 case rest =>
  clear kV
  obtain ⟨kq,dM,rfl,HA,ib,HB⟩:=hcut
  cases kq with
  | zero=>exact absurd HA.out (by simp [gL.j0])
  | succ lS =>
   have H:=HA.out;clear HA;simp only [gL.j0] at H;have Gr:=am H;clear H
   go_upto_if 17 with (fail)
   go_cut [5] (fun v5 wc=>∃ (kq:Nat) (oL:ByteArray),v5=.string oL∧af (gL.j1 kq a0 dM oL=some (r1,r2))∧af (kq≤lS)∧af (Below w.heap.size w wc))
   case first =>
    have H:=Gr.out;clear Gr
    obtain rfl|rfl:=bt dM
    ·replace H:=dE H
     revert H;refine jE ?_
     intro c8 H;have jR:=eq_true c8;have uU:decide (1≤(a0.size:Int))=true:=decide_eq_true c8;clear c8;have H':=am H;clear H
     go_wp2
     go_meet
     case rel=>exact ⟨_,(a0.extract 1 a0.size),fg,H',⟨by have:=ib.out;first|omega|exact Nat.le_refl _⟩,⟨bs HB⟩⟩
    ·replace H:=dD H;have H':=am H;clear H
     go_wp2
     go_meet
     case rel=>exact ⟨_,(a0),fg,H',⟨by have:=ib.out;first|omega|exact Nat.le_refl _⟩,⟨bs HB⟩⟩
   case rest =>
    clear Gr
    obtain ⟨kq,oL,rfl,HA,Gt,HB⟩:=hcut
    cases kq with
    | zero=>exact absurd HA.out (by simp [gL.j1])
    | succ Xj =>
     have H:=HA.out;clear HA;simp only [gL.j1] at H;have Zp:=am H;clear H
     go_upto_region 5 with (fail)
     go_cut [27] (fun v27 wc=>∃ (kq:Nat) (Yk:Bool),v27=.bool Yk∧af (gL.j2 kq a0 dM oL Yk=some (r1,r2))∧af (kq≤Xj)∧af (Below w.heap.size w wc))
     case first =>
      have H:=Zp.out;clear Zp
      revert H;refine zW ?_ ?_
      ·intro c10 xD H;have O6:decide (oL.size<1)=true:=decide_eq_true (by omega);clear c10
       (first|rw [xD]|(simp only [fu,gy];rw [xD])|rw [O6]|skip)
       have H':=am H;clear H
       go_wp2
       go_meet
       case rel=>exact ⟨_,(true),fg,H',⟨by have:=ib.out;have:=Gt.out;first|omega|exact Nat.le_refl _⟩,⟨bs HB⟩⟩
      ·intro c10 xD H;have O6:decide (oL.size<1)=false:=decide_eq_false (by omega);clear c10
       (first|rw [xD]|(simp only [fu,gy];rw [xD])|rw [O6]|skip)
       have H':=am H;clear H
       go_wp2
       go_meet
       case rel=>exact ⟨_,(decide ((oL.size:Int)>12)),fg,H',⟨by have:=ib.out;have:=Gt.out;first|omega|exact Nat.le_refl _⟩,⟨bs HB⟩⟩
     case rest =>
      clear Zp
      obtain ⟨kq,Yk,rfl,HA,HJ8,HB⟩:=hcut
      cases kq with
      | zero=>exact absurd HA.out (by simp [gL.j2])
      | succ kj8 =>
       have H:=HA.out;clear HA;simp only [gL.j2] at H
       obtain rfl|rfl:=bt Yk
       ·replace H:=dE H;replace H:=wL H;obtain ⟨rfl,rfl⟩:=H
        go_wp2
        go_ret2
        exact ⟨ff,bs HB⟩
       ·replace H:=dD H;have H':=am H;clear H
        go_wp2
        go_loopg [6,7] kj8 (fun kq v6 v7 w'=>∃ (NS:Int) (nJ:Int),v6=.int .i64 NS∧v7=.int .i64 nJ∧af (gL.l0 kq a0 dM oL NS nJ=some (r1,r2))∧af (kq≤kj8)∧af (Below w.heap.size w w'))
        case atStart=>exact ⟨(0),(0),fg,fg,H',⟨Nat.le_refl _⟩,⟨bs HB⟩⟩
        case round =>
         clear H'
         obtain ⟨NS,nJ,rfl,rfl,HA,tV,HB⟩:=hrel
         cases gk with
         | zero=>exact absurd HA.out (by simp [gL.l0])
         | succ k4 =>
          have H:=HA.out;clear HA;simp only [gL.l0] at H
          revert H;refine cB ?_ ?_
          ·intro xG H
           revert H;refine bu ?_
           intro lC H
           revert H;refine cB ?_ ?_
           ·intro uh H;replace H:=wL H;obtain ⟨rfl,rfl⟩:=H;have z8:0≤(nJ:Int):=oa;have Aa:nJ<(oL.size:Int):=oa;have ajJ:=gF oL nJ;replace z8:=eq_true z8;replace Aa:=eq_true Aa
            go_wp2
            go_ret2
            exact ⟨ff,bs HB⟩
           ·intro uh H
            revert H;refine gz ?_ ?_
            ·intro c17 H;have oo:decide (57<(bt oL nJ))=true:=decide_eq_true c17;clear c17;replace H:=wL H;obtain ⟨rfl,rfl⟩:=H;have z8:0≤(nJ:Int):=oa;have Aa:nJ<(oL.size:Int):=oa;have ajJ:=gF oL nJ;replace z8:=eq_true z8;replace Aa:=eq_true Aa;have p16:0≤(nJ:Int):=oa;have q16:nJ<(oL.size:Int):=oa;have hx16:=gF oL nJ;replace p16:=eq_true p16;replace q16:=eq_true q16
             go_wp2
             go_ret2
             exact ⟨ff,bs HB⟩
            ·intro c17 H;have oo:decide (57<(bt oL nJ))=false:=decide_eq_false c17;clear c17;have H':=am H;clear H;have z8:0≤(nJ:Int):=oa;have Aa:nJ<(oL.size:Int):=oa;have ajJ:=gF oL nJ;replace z8:=eq_true z8;replace Aa:=eq_true Aa;have p16:0≤(nJ:Int):=oa;have q16:nJ<(oL.size:Int):=oa;have hx16:=gF oL nJ;replace p16:=eq_true p16;replace q16:=eq_true q16;have p18:0≤(nJ:Int):=oa;have q18:nJ<(oL.size:Int):=oa;have aH5:=gF oL nJ;replace p18:=eq_true p18;replace q18:=eq_true q18
             go_wp2
             go_roundg k4
             case measure=>have:=ib.out;have:=Gt.out;have:=HJ8.out;have:=tV.out;omega
             case rel=>exact ⟨(wrap64 ((wrap64 (10 * NS))+(((bt oL nJ) - 48) % 256))),(wrap64 (nJ+1)),fg,fg,H',⟨by have:=ib.out;have:=Gt.out;have:=HJ8.out;have:=tV.out;omega⟩,⟨bs HB⟩⟩
          ·intro xG H
           obtain rfl|rfl:=bt dM
           ·replace H:=dE H;replace H:=bo H;obtain ⟨vG,YI,H⟩:=H;replace H:=wL H;obtain ⟨rfl,rfl⟩:=H
            go_wp2_with (first|((go_at_call 61;(with_reducible refine (fw.calls k4 (wrap64 (-NS)) vG _ YI.out).mono ?_);rintro e Ah ⟨rfl,hb⟩);replace HB:=bq HB hb;(try clear hb)))
            go_ret2
            exact ⟨ff,bs HB⟩
           ·replace H:=dD H;replace H:=bo H;obtain ⟨nW,BV,H⟩:=H;replace H:=wL H;obtain ⟨rfl,rfl⟩:=H
            go_wp2_with (first|((go_at_call 61;(with_reducible refine (fw.calls k4 NS nW _ BV.out).mono ?_);rintro e tH ⟨rfl,hb⟩);replace HB:=bq HB hb;(try clear hb)))
            go_ret2
            exact ⟨ff,bs HB⟩
theorem jf.calls (k:Nat) (a0:ByteArray) (r:Bool) (w:World) (H:jf.f k a0=some r) :
  Calls Tryz.prog 36 #[.string a0] w fun e w'=>e=.returned (.bool r)∧aT w w':=by
 unfold jf.f at H;have kV:=am H;clear H
 go_in
 go_upto_region 1 with (fail)
 go_cut [22] (fun v22 wc=>∃ (kq:Nat) (Yi:Bool),v22=.bool Yi∧af (jf.j0 kq a0 Yi=some r)∧af (kq≤k)∧aT w wc)
 case first =>
  have H:=kV.out;clear kV
  revert H;refine zW ?_ ?_
  ·intro c3 bN H;have fo:decide (a0.size<1)=true:=decide_eq_true (by omega);clear c3
   (first|rw [bN]|(simp only [fu,gy];rw [bN])|rw [fo]|skip)
   have H':=am H;clear H
   go_wp2
   go_meet
   case rel=>exact ⟨_,(true),fg,H',⟨fl⟩,by repeat (first|exact aT.refl _|apply aT.step)⟩
  ·intro c3 bN H;have fo:decide (a0.size<1)=false:=decide_eq_false (by omega);clear c3
   (first|rw [bN]|(simp only [fu,gy];rw [bN])|rw [fo]|skip)
   revert H;refine gz ?_ ?_
   ·intro c4 H;have dS:decide (12<(a0.size:Int))=true:=decide_eq_true c4;have kW:decide (12<a0.size)=true:=decide_eq_true (by omega);clear c4;have H':=am H;clear H
    go_wp2
    go_meet
    case rel=>exact ⟨_,(true),fg,H',⟨fl⟩,by repeat (first|exact aT.refl _|apply aT.step)⟩
   ·intro c4 H;have dS:decide (12<(a0.size:Int))=false:=decide_eq_false c4;have kW:decide (12<a0.size)=false:=decide_eq_false (by omega);clear c4
    revert H;refine qx ?_
    intro c5 kv H;have wo:decide (0<a0.size)=true:=decide_eq_true (by omega);clear c5
    revert H;refine cB ?_ ?_
    ·intro kJ H;have H':=am H;clear H;have p6:0≤(0:Int):=(by omega);have q6:0<a0.size:=(by have:(0:Int)<(a0.size:Int):=oa;omega);have hx6:∀ h:0<a0.size,((a0[0]'h).toNat:Int)=bt a0 0:=gF a0 0;clear p6;have qi6:(0<(a0.size:Int))=True:=eq_true (oa);replace q6:=eq_true q6
     go_wp2
     go_meet
     case rel=>exact ⟨_,(true),fg,H',⟨fl⟩,by repeat (first|exact aT.refl _|apply aT.step)⟩
    ·intro kJ H;have H':=am H;clear H;have p6:0≤(0:Int):=(by omega);have q6:0<a0.size:=(by have:(0:Int)<(a0.size:Int):=oa;omega);have hx6:∀ h:0<a0.size,((a0[0]'h).toNat:Int)=bt a0 0:=gF a0 0;clear p6;have qi6:(0<(a0.size:Int))=True:=eq_true (oa);replace q6:=eq_true q6;have p8:0≤(0:Int):=(by omega);have q8:0<a0.size:=(by have:(0:Int)<(a0.size:Int):=oa;omega);have hx8:∀ h:0<a0.size,((a0[0]'h).toNat:Int)=bt a0 0:=gF a0 0;clear p8;have qi8:(0<(a0.size:Int))=True:=eq_true (oa);replace q8:=eq_true q8
     go_wp2
     go_meet
     case rel=>exact ⟨_,(decide ((bt a0 0)>90)),fg,H',⟨fl⟩,by repeat (first|exact aT.refl _|apply aT.step)⟩
 case rest =>
  clear kV
  obtain ⟨kq,Yi,rfl,HA,ib,⟨mc1,rfl⟩⟩:=hcut
  cases kq with
  | zero=>exact absurd HA.out (by simp [jf.j0])
  | succ lS =>
   have H:=HA.out;clear HA;simp only [jf.j0] at H
   obtain rfl|rfl:=bt Yi
   ·replace H:=dE H;obtain rfl:=si H
    go_wp2
    go_ret
    exact ⟨fg,dr⟩
   ·replace H:=dD H;have H':=am H;clear H
    go_wp2
    go_loopg [3] lS (fun kq v3 w'=>∃ (bv:Int),v3=.int .i64 bv∧af (jf.l0 kq a0 bv=some r)∧af (kq≤lS)∧aT w w')
    case atStart=>exact ⟨(0),fg,H',⟨Nat.le_refl _⟩,by repeat (first|exact aT.refl _|apply aT.step)⟩
    case round =>
     clear H'
     obtain ⟨bv,rfl,HA,cz,⟨m2,rfl⟩⟩:=hrel
     cases gk with
     | zero=>exact absurd HA.out (by simp [jf.l0])
     | succ k2 =>
      have H:=HA.out;clear HA;simp only [jf.l0] at H
      revert H;refine cB ?_ ?_
      ·intro xD H
       revert H;refine bu ?_
       intro xE H
       revert H;refine gz ?_ ?_
       ·intro c13 H;have lC:decide (65≤(bt a0 bv))=true:=decide_eq_true c13;clear c13
        revert H;refine cB ?_ ?_
        ·intro oU H;have H':=am H;clear H;have iq:0≤(bv:Int):=oa;have ik:bv<(a0.size:Int):=oa;have wz:=gF a0 bv;replace iq:=eq_true iq;replace ik:=eq_true ik
         go_wp2
         go_roundg k2
         case measure=>have:=ib.out;have:=cz.out;omega
         case rel=>exact ⟨(wrap64 (bv+1)),fg,H',⟨by have:=ib.out;have:=cz.out;omega⟩,by repeat (first|exact aT.refl _|apply aT.step)⟩
        ·intro oU H
         revert H;refine gz ?_ ?_
         ·intro c15 H;have uh:decide (48≤(bt a0 bv))=true:=decide_eq_true c15;clear c15
          revert H;refine cB ?_ ?_
          ·intro vZ H;have H':=am H;clear H;have iq:0≤(bv:Int):=oa;have ik:bv<(a0.size:Int):=oa;have wz:=gF a0 bv;replace iq:=eq_true iq;replace ik:=eq_true ik
           go_wp2
           go_roundg k2
           case measure=>have:=ib.out;have:=cz.out;omega
           case rel=>exact ⟨(wrap64 (bv+1)),fg,H',⟨by have:=ib.out;have:=cz.out;omega⟩,by repeat (first|exact aT.refl _|apply aT.step)⟩
          ·intro vZ H
           revert H;refine bL ?_ ?_
           ·intro oo AX H;have H':=am H;clear H;have iq:0≤(bv:Int):=oa;have ik:bv<(a0.size:Int):=oa;have wz:=gF a0 bv;replace iq:=eq_true iq;replace ik:=eq_true ik
            go_wp2
            go_roundg k2
            case measure=>have:=ib.out;have:=cz.out;omega
            case rel=>exact ⟨(wrap64 (bv+1)),fg,H',⟨by have:=ib.out;have:=cz.out;omega⟩,by repeat (first|exact aT.refl _|apply aT.step)⟩
           ·intro c17 oo AX H;obtain rfl:=si H;have iq:0≤(bv:Int):=oa;have ik:bv<(a0.size:Int):=oa;have wz:=gF a0 bv;replace iq:=eq_true iq;replace ik:=eq_true ik
            go_wp2
            go_ret
            exact ⟨fg,dr⟩
         ·intro c15 H;have uh:decide (48≤(bt a0 bv))=false:=decide_eq_false c15;clear c15
          revert H;refine bL ?_ ?_
          ·intro uT O7 H;have H':=am H;clear H;have iq:0≤(bv:Int):=oa;have ik:bv<(a0.size:Int):=oa;have wz:=gF a0 bv;replace iq:=eq_true iq;replace ik:=eq_true ik
           go_wp2
           go_roundg k2
           case measure=>have:=ib.out;have:=cz.out;omega
           case rel=>exact ⟨(wrap64 (bv+1)),fg,H',⟨by have:=ib.out;have:=cz.out;omega⟩,by repeat (first|exact aT.refl _|apply aT.step)⟩
          ·intro c18 uT O7 H;obtain rfl:=si H;have iq:0≤(bv:Int):=oa;have ik:bv<(a0.size:Int):=oa;have wz:=gF a0 bv;replace iq:=eq_true iq;replace ik:=eq_true ik
           go_wp2
           go_ret
           exact ⟨fg,dr⟩
       ·intro c13 H;have lC:decide (65≤(bt a0 bv))=false:=decide_eq_false c13;clear c13
        revert H;refine gz ?_ ?_
        ·intro c19 H;have sP:decide (48≤(bt a0 bv))=true:=decide_eq_true c19;clear c19
         revert H;refine cB ?_ ?_
         ·intro ui H;have H':=am H;clear H;have iq:0≤(bv:Int):=oa;have ik:bv<(a0.size:Int):=oa;have wz:=gF a0 bv;replace iq:=eq_true iq;replace ik:=eq_true ik
          go_wp2
          go_roundg k2
          case measure=>have:=ib.out;have:=cz.out;omega
          case rel=>exact ⟨(wrap64 (bv+1)),fg,H',⟨by have:=ib.out;have:=cz.out;omega⟩,by repeat (first|exact aT.refl _|apply aT.step)⟩
         ·intro ui H
          revert H;refine bL ?_ ?_
          ·intro xH Cx H;have H':=am H;clear H;have iq:0≤(bv:Int):=oa;have ik:bv<(a0.size:Int):=oa;have wz:=gF a0 bv;replace iq:=eq_true iq;replace ik:=eq_true ik
           go_wp2
           go_roundg k2
           case measure=>have:=ib.out;have:=cz.out;omega
           case rel=>exact ⟨(wrap64 (bv+1)),fg,H',⟨by have:=ib.out;have:=cz.out;omega⟩,by repeat (first|exact aT.refl _|apply aT.step)⟩
          ·intro c21 xH Cx H;obtain rfl:=si H;have iq:0≤(bv:Int):=oa;have ik:bv<(a0.size:Int):=oa;have wz:=gF a0 bv;replace iq:=eq_true iq;replace ik:=eq_true ik
           go_wp2
           go_ret
           exact ⟨fg,dr⟩
        ·intro c19 H;have sP:decide (48≤(bt a0 bv))=false:=decide_eq_false c19;clear c19
         revert H;refine bL ?_ ?_
         ·intro EC Hm H;have H':=am H;clear H;have iq:0≤(bv:Int):=oa;have ik:bv<(a0.size:Int):=oa;have wz:=gF a0 bv;replace iq:=eq_true iq;replace ik:=eq_true ik
          go_wp2
          go_roundg k2
          case measure=>have:=ib.out;have:=cz.out;omega
          case rel=>exact ⟨(wrap64 (bv+1)),fg,H',⟨by have:=ib.out;have:=cz.out;omega⟩,by repeat (first|exact aT.refl _|apply aT.step)⟩
         ·intro qQ EC Hm H;obtain rfl:=si H;have iq:0≤(bv:Int):=oa;have ik:bv<(a0.size:Int):=oa;have wz:=gF a0 bv;replace iq:=eq_true iq;replace ik:=eq_true ik
          go_wp2
          go_ret
          exact ⟨fg,dr⟩
      ·intro xD H;obtain rfl:=si H
       go_wp2
       go_ret
       exact ⟨fg,dr⟩
theorem FU.calls (a0:Int) (r:Bool) (w:World) (H:FU.f a0=some r) :
  Calls Tryz.prog 146 #[.int .i64 a0] w fun e w'=>e=.returned (.bool r)∧aT w w':=by
 unfold FU.f at H
 revert H;refine gz ?_ ?_
 ·intro c2 H;have gJ:decide (1≤a0)=true:=decide_eq_true c2;clear c2;obtain rfl:=si H
  go_in
  go_wp2
  go_ret
  exact ⟨fg,dr⟩
 ·intro c2 H;have gJ:decide (1≤a0)=false:=decide_eq_false c2;clear c2;obtain rfl:=si H
  go_in
  go_wp2
  go_ret
  exact ⟨fg,dr⟩
theorem FT.calls (a0:Int) (r:Bool) (w:World) (H:FT.f a0=some r) :
  Calls Tryz.prog 147 #[.int .i64 a0] w fun e w'=>e=.returned (.bool r)∧aT w w':=by
 unfold FT.f at H
 revert H;refine gz ?_ ?_
 ·intro c2 H;have gJ:decide (0≤a0)=true:=decide_eq_true c2;clear c2;obtain rfl:=si H
  go_in
  go_wp2
  go_ret
  exact ⟨fg,dr⟩
 ·intro c2 H;have gJ:decide (0≤a0)=false:=decide_eq_false c2;clear c2;obtain rfl:=si H
  go_in
  go_wp2
  go_ret
  exact ⟨fg,dr⟩
theorem yT.calls (k:Nat) (a0:Int) (Ui:Option Addr) (VI:Nat) (qB:List ByteArray) (r:Bool) (w:World) (ajy:Kd.C Kd.string w Ui qB.length qB) (ahN:qB.length≤VI) (H:yT.f k a0 qB=some r) :
  Calls Tryz.prog 131 #[.int .u8 a0,.agg #[.slice Ui qB.length VI]] w fun e w'=>e=.returned (.bool r)∧Below w.heap.size w w':=by
 have Fb:=Tryz.underlying97;have anT:=am ajy;have aAm:=am ahN;clear ajy ahN;have HB:=am (Below.refl w.heap.size w);unfold yT.f at H
 revert H;refine bL ?_ ?_
 ·intro bN fo H
  revert H;refine qx ?_
  intro c4 dS H;have kW:decide (0<qB.length)=true:=decide_eq_true (by omega);clear c4;replace H:=bo H;obtain ⟨⟨mf,t22⟩,A5,H⟩:=H;(try dsimp only at H)
  go_in
  try go_wp2_with (first|((with_reducible refine aN (N:=3) rfl ?_);refine bz 3 (cs:=#[.slice Ui qB.length VI]) (t:=97) HB ?_;clear HB;intro asG hg w6 Ob amR hb HB;clear hb hg;have Bg:=uV Ob;have iq:0≤(0:Int):=(by omega);have ik:0<(qB.length:Int):=oa;obtain ⟨KR,e12,nS⟩:=Kd.iZ anT.out 0 iq ik;cases e12;have awe:(0<qB.length)=True:=eq_true (by omega);(try rw [show ((0:Int)).toNat=0 from rfl] at nS);(try rw [Addr.add_zero'] at nS);replace nS:=cb HB nS;replace iq:=eq_true iq;replace ik:=eq_true ik))
  go_at_call 107;(with_reducible refine (gL.calls k (aX ByteArray.empty qB 0) mf t22 _ A5.out).mono ?_);rintro e w8 ⟨rfl,hb⟩;replace Ob:=bb Ob hb;replace HB:=bq HB hb;(try clear hb)
  revert H;refine bL ?_ ?_
  ·intro nk CE H;replace H:=bo H;obtain ⟨t28,qb,H⟩:=H;obtain rfl:=si H
   go_wp2_with (first|((go_at_call 36;(with_reducible refine (jf.calls k (aX ByteArray.empty qB 0) t28 _ qb.out).mono ?_);rintro e w' ⟨rfl,⟨nd,rfl⟩⟩)))
   go_ret
   exact ⟨ff,bs HB⟩
  ·intro c9 nk CE H
   revert H;refine bL ?_ ?_
   ·intro xE Cv H
    obtain rfl|rfl:=bt t22
    ·replace H:=dE H
     revert H;refine gz ?_ ?_
     ·intro c13 H;have lC:decide (0≤mf)=true:=decide_eq_true c13;clear c13;obtain rfl:=si H
      go_wp2
      go_ret
      exact ⟨ff,bs HB⟩
     ·intro c13 H;have lC:decide (0≤mf)=false:=decide_eq_false c13;clear c13;obtain rfl:=si H
      go_wp2
      go_ret
      exact ⟨ff,bs HB⟩
    ·replace H:=dD H;obtain rfl:=si H
     go_wp2
     go_ret
     exact ⟨ff,bs HB⟩
   ·intro c11 xE Cv H
    revert H;refine bL ?_ ?_
    ·intro oU K4 H
     obtain rfl|rfl:=bt t22
     ·replace H:=dE H;replace H:=bo H;obtain ⟨t29,Eb,H⟩:=H;obtain rfl:=si H
      go_wp2_with (first|(go_at_call 146;(with_reducible refine (FU.calls mf t29 _ Eb.out).mono ?_);rintro e w' ⟨rfl,⟨nd,rfl⟩⟩))
      go_ret
      exact ⟨ff,bs HB⟩
     ·replace H:=dD H;obtain rfl:=si H
      go_wp2
      go_ret
      exact ⟨ff,bs HB⟩
    ·intro c14 oU K4 H
     revert H;refine bL ?_ ?_
     ·intro oo AX H
      obtain rfl|rfl:=bt t22
      ·replace H:=dE H
       revert H;refine gz ?_ ?_
       ·intro c19 H;have sP:decide ((-1000000)≤mf)=true:=decide_eq_true c19;clear c19
        revert H;refine cB ?_ ?_
        ·intro ui H;obtain rfl:=si H
         go_wp2
         go_ret
         exact ⟨ff,bs HB⟩
        ·intro ui H;obtain rfl:=si H
         go_wp2
         go_ret
         exact ⟨ff,bs HB⟩
       ·intro c19 H;have sP:decide ((-1000000)≤mf)=false:=decide_eq_false c19;clear c19;obtain rfl:=si H
        go_wp2
        go_ret
        exact ⟨ff,bs HB⟩
      ·replace H:=dD H;obtain rfl:=si H
       go_wp2
       go_ret
       exact ⟨ff,bs HB⟩
     ·intro c17 oo AX H
      revert H;refine bL ?_ ?_
      ·intro xH Cx H
       obtain rfl|rfl:=bt t22
       ·replace H:=dE H;replace H:=bo H;obtain ⟨t30,Uj,H⟩:=H;obtain rfl:=si H
        go_wp2_with (first|(go_at_call 147;(with_reducible refine (FT.calls mf t30 _ Uj.out).mono ?_);rintro e w' ⟨rfl,⟨nd,rfl⟩⟩))
        go_ret
        exact ⟨ff,bs HB⟩
       ·replace H:=dD H;obtain rfl:=si H
        go_wp2
        go_ret
        exact ⟨ff,bs HB⟩
      ·intro c21 xH Cx H
       revert H;refine Mx ?_ ?_
       ·intro uj Ho agP H;obtain rfl:=si H
        go_wp2
        go_ret
        exact ⟨ff,bs HB⟩
       ·intro c24 uj Ho agP H;replace H:=bo H;obtain ⟨t31,Kg,H⟩:=H;obtain rfl:=si H
        go_wp2_with (first|(go_at_call 66;(with_reducible refine (rq.calls k (aX ByteArray.empty qB 0) t31 _ Kg.out).mono ?_);rintro e w' ⟨rfl,⟨nd,rfl⟩⟩))
        go_ret
        exact ⟨ff,bs HB⟩
 ·intro c3 bN fo H;obtain rfl:=si H
  go_in
  go_wp2_with (first|((with_reducible refine aN (N:=3) rfl ?_);refine bz 3 (cs:=#[.slice Ui qB.length VI]) (t:=97) HB ?_;clear HB;intro asG hg Nc Ob amR hb HB;clear hb hg;have PX:=uV Ob))
  go_ret
  exact ⟨ff,bs HB⟩
end Go.Proofs.YtapilmimgiaglaaGreatDoor.QA
