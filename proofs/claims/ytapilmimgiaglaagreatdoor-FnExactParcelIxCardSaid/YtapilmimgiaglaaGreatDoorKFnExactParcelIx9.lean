import Derived.Test.YtapilmimgiaglaaGreatDoorKFnExactParcelIx8
set_option maxHeartbeats 8000000
set_option maxRecDepth 100000
set_option linter.unusedSimpArgs false
set_option linter.unusedVariables false
namespace Go.Proofs.YtapilmimgiaglaaGreatDoor.QX
open Go.RowKit Go.Proofs.bB.eH Go.Proofs.bB.PrintLast Go.Proofs.bB.PrintMore
attribute [local go_sem] oU o5 oZ o8 oW o7 oV o6
def fQ.T3:Bool × List (List Nat × List Nat):=(true,[([],[]),([0],[0]),([],[]),([2],[2]),([],[]),([4],[4]),([5],[5]),([1,3,6],[1,3,6]),([7,6,0,1,2,3,4,5,6,7],[7])])
def fQ.B3:List Nat:=[0,1,0,4,0,16,48,127,255]
theorem fQ.WT:fD .any (opsOf Tryz.f32 3)=fQ.T3:=by kernel_rfl
theorem fQ.R6:jg fQ.T3.2 fQ.B3=true:=by kernel_rfl
def fQ.u7:Bool × List (List Nat × List Nat):=(true,[([],[]),([],[]),([1],[1]),([],[]),([3],[3]),([],[]),([4,5],[4,5]),([6],[6]),([2,7],[2,7]),([8],[8]),([0,9,8],[0,9]),([10,10,0,1,2,3,4,5,6,7,8,9,10],[0,10])])
def fQ.Bf:List Nat:=[0,0,2,0,8,0,56,120,254,510,1023,2047]
theorem fQ.yI:fD .any (opsOf Tryz.f32 12)=fQ.u7:=by kernel_rfl
theorem fQ.yf:jg fQ.u7.2 fQ.Bf=true:=by kernel_rfl
theorem fQ.Dr (k:Nat)(ag:Int)(aj ak:ByteArray)(aM:Int)(dB:Option Addr)(dx:Nat)(az:List ByteArray)(dJ:Option Addr)(df:Nat)(ah:List aZ)(r:List bn)(w:World)(lm:Kd.C Kd.string w dB az.length az)(kY:az.length≤dx)(lq:Kd.C iA w dJ ah.length ah)(kZ:ah.length≤df)(H:fQ.f k ag aj ak aM az ah=some r) :
  Calls Tryz.prog 32 #[.agg #[.int .i64 ag,.string aj,.string ak,.int .i64 aM,.slice dB az.length dx,.slice dJ ah.length df]] w fun e w'=>∃ lX:Value,e=.returned (lX)∧Kd.S oO 62 w' w.heap.size (fun k_=>(w.heap.size≤k_)) lX r∧Below w.heap.size w w':=by
 have xq:=Tryz.underlying45;have Dx:=Tryz.underlying95;have oI:=af.mk lm;have rR:=af.mk kY;clear lm kY;have ni:=af.mk lq;have qW:=af.mk kZ;clear lq kZ;have HB:=af.mk (Below.refl w.heap.size w);unfold fQ.f at H;replace H:=bo H;obtain ⟨t233,A2,H⟩:=H;obtain ⟨ag9,ae7⟩:∃ y_:List ByteArray,y_=(([aj,t233]:List ByteArray)):=⟨_,rfl⟩
 replace H:((DX.f ag).bind fun PY=>(if PY=true then ((fK.f k aM).bind fun D8=>(fQ.j0 k (([aj,ak,D8]:List ByteArray)) ag aj ak aM az ah)) else (fQ.j0 k ag9 ag aj ak aM az ah)))=some r:=ye ae7 H
 have aiw:=af.mk ae7;clear ae7;replace H:=bo H;obtain ⟨PY,A3,H⟩:=H
 go_in
 try go_wp2_with (first|((with_reducible refine aJ (N:=1) rfl ?_);refine bx 1 (cs:=#[.int .i64 ag,.string aj,.string ak,.int .i64 aM,.slice dB az.length dx,.slice dJ ah.length df]) (t:=45) ?_;intro rA hg w4 hbox hb;have eB:=af.mk (hbox);have aDD:=af.mk ((gs hg (bs HB)));have aDv:=af.mk ((gs hg (bs HB)));replace HB:=af.mk (gP (bs HB) hb);clear hb hbox hg))
 replace eB:=af.mk (bD eB.o);replace HB:=af.mk (cZ HB.o);refine gD 7 (hb6 eB) (fun hHeld=>?_)
 generalize w4.drew=w5 at eB HB hHeld ⊢
 refine PI (i:=0) (N:=some 7) (v:=?_) (a':=?_) #[true,false,false,false,false,false,false] rfl rfl (by kernel_rfl) (fun _ _ _ h=>h) (Or.inl ⟨by rfl,?_⟩) ?_ ?_
 rotate_left
 ·intro w'
  go_simp
  (with_reducible rfl)
 rotate_left
 ·simp only [Act.put,List.setIfInBounds_toArray,List.set_cons_zero,List.set_cons_succ,fC,gK]
  rfl
 refine PI (i:=2) (N:=some 9) (v:=?_) (a':=?_) #[true,false,true,false,false,false,false] rfl rfl (by kernel_rfl) (fun _ _ _ h=>h) (Or.inl ⟨by rfl,?_⟩) ?_ ?_
 rotate_left
 ·intro w'
  go_simp
  (with_reducible rfl)
 rotate_left
 ·simp only [Act.put,List.setIfInBounds_toArray,List.set_cons_zero,List.set_cons_succ,fC,gK]
  rfl
 refine F7 (i:=1) (N:=some 8) (v:=?_) (a':=?_) #[true,true,true,false,false,false,false] rfl rfl (by kernel_rfl) (fun _ _ _ h=>h) (Or.inl ⟨by rfl,?_⟩) hHeld ?_ ?_
 rotate_left
 ·rintro w' ⟨s0,s1,s2,s3,s4,s5⟩
  go_simp
  (with_reducible rfl)
 rotate_left
 ·simp only [Act.put,List.setIfInBounds_toArray,List.set_cons_zero,List.set_cons_succ,fC,gK]
  rfl
 refine F7 (i:=3) (N:=some 10) (v:=?_) (a':=?_) #[true,true,true,true,false,false,false] rfl rfl (by kernel_rfl) (fun _ _ _ h=>h) (Or.inl ⟨by rfl,?_⟩) hHeld ?_ ?_
 rotate_left
 ·rintro w' ⟨s0,s1,s2,s3,s4,s5⟩
  go_simp
  (with_reducible rfl)
 rotate_left
 ·simp only [Act.put,List.setIfInBounds_toArray,List.set_cons_zero,List.set_cons_succ,fC,gK]
  rfl
 refine o9 (i:=4) (N:=some 11) #[true,true,true,true,true,false,false] rfl rfl (by kernel_rfl) (by decide) (fun K hK=>?_);refine gA Tryz.func61 #[.int .i64 aM] ?_;(with_reducible refine (fK.calls k aM t233 _ A2.o).mono ?_);rintro e w6 ⟨rfl,hb⟩;refine ⟨_,rfl,?_⟩;replace eB:=af.mk (aU (ks eB) hb);replace HB:=af.mk (gP (bs HB) hb);(try clear hb);(try clear hb2);(try clear hk);(try clear hi);refine hK.out _ _ (hb6 eB).o (fun hHeld=>?_);clear hK K;refine nA 11 ?_;refine o9 (i:=5) (N:=some 12) #[true,true,true,true,true,true,false] rfl rfl (by kernel_rfl) (by decide) (fun K hK=>?_);refine Kd.zR Kd.string _ 9 ?hg (N:=12) ?hd (xs:=([aj,t233]:List ByteArray)) (inner:=[.string aj,.string t233]) (ok:=fun _=>True) (okp:=fun _=>True) ?hr ?hp (fun _ hk=>hk) trivial (Below.refl _ _) (Nat.le_refl _) (by simp) ?_;(case hd=>rfl);(case hg=>rfl);(case hr=>first|(go_simp;done)|(go_simp;rfl));(case hp=>exact (aV.one (show Kd.M Kd.string _ _ _ aj [.string aj] from rfl) (aV.one (show Kd.M Kd.string _ _ _ t233 [.string t233] from rfl) (aV.none _ _))));intro aCq w7 UX hb hg_ hnew_;clear hg_ hnew_
 (first|rw [← aiw.o] at UX|(simp only [Int.reduceToNat] at UX;rw [← aiw.o] at UX))
 have zQ:=af.mk (Kd.ic (Kd.NI (M:=fun k_=>(w.heap.size≤k_)) UX (bJ (bs HB)) (fun k_ h_=>h_)) (bJ (bs HB)));replace eB:=af.mk (aU (ks eB) hb);replace HB:=af.mk (gP (bs HB) hb);clear hb UX;refine hK.out _ _ (hb6 eB).o (fun hHeld=>?_);clear hK K;refine nA 12 ?_;refine PI (i:=6) (N:=some 3) (v:=?_) (a':=?_) #[true,true,true,true,true,true,true] rfl rfl (by kernel_rfl) (fun _ _ _ h=>h) (Or.inl ⟨by rfl,?_⟩) ?_ ?_
 rotate_left
 ·intro w'
  go_simp
  (with_reducible rfl)
 rotate_left
 ·simp only [Act.put,List.setIfInBounds_toArray,List.set_cons_zero,List.set_cons_succ,fC,gK]
  rfl
 refine ek (by kernel_rfl) ?_;have zZ:=dO eB
 try go_wp2_with (fail)
 go_at_call 62;refine (DX.calls ag PY _ A3.o).mono ?_;rintro e w' ⟨rfl,⟨nd,rfl⟩⟩;have abN:=af.mk H;clear H
 go_upto_if 15 with (fail)
 go_cut [3] (fun v3 wc=>∃ (kq:Nat) (Ef:List ByteArray),af (fQ.j0 kq Ef ag aj ak aM az ah=some r)∧af (kq≤k)∧af (Kd.R Kd.string 9 wc w.heap.size (fun k_=>(w.heap.size≤k_)) v3 Ef)∧af (wc.heap[rA]? = some (.cells #[.int .i64 ag,.string aj,.string ak,.int .i64 aM,(.slice dB az.length dx),(.slice dJ ah.length df)] 45 (0,0)))∧af (Below w.heap.size w wc))
 case first =>
  have H:=abN.o;clear abN
  obtain rfl|rfl:=bt PY
  ·replace H:=dm H;replace H:=bo H;obtain ⟨D8,xU,H⟩:=H;obtain ⟨aoK,ae8⟩:∃ y_:List ByteArray,y_=(([aj,ak,D8]:List ByteArray)):=⟨_,rfl⟩
   replace H:(fQ.j0 k aoK ag aj ak aM az ah)=some r:=ye ae8 H
   have aix:=af.mk ae8;clear ae8;have H':=af.mk H;clear H
   try go_wp2
   (try (rw [auI w7];generalize hq_:World.drewN w7 _=w7;have cK:af (Kd.R Kd.string 9 w7 w.heap.size (fun k_=>(w.heap.size≤k_)) aCq ag9):=⟨by rw [← hq_];exact (by (with_reducible repeat (first|apply Kd.kM|apply Kd.jK|apply Kd.eO));exact Kd.dE zQ.o (fun _ hk=>hk.1))⟩;have cO:af (w7.heap[rA]? = some (.cells #[.int .i64 ag,.string aj,.string ak,.int .i64 aM,.slice dB az.length dx,.slice dJ ah.length df] 45 (0,0))):=⟨by rw [← hq_];exact (ks eB)⟩;have dw:af (Below w.heap.size w w7):=⟨by rw [← hq_];exact (bs HB)⟩;clear zQ eB HB hq_;have zQ:=cK;have eB:=cO;have HB:=dw;clear cK cO dw))
   replace zQ:=af.mk (Kd.eO zQ.o);replace eB:=af.mk (bD eB.o);replace HB:=af.mk (cZ HB.o);refine gD 9 (hb6 eB) (fun hHeld=>?_);refine fu fQ.WT fQ.R6 (fun HT_ HW_=>?_)
   generalize w7.drew=tC at zQ eB HB hHeld ⊢
   refine pA 0 16 HT_ ?_;refine pA 2 18 HT_ ?_;refine pA 4 20 HT_ ?_;refine tA 1 17 HT_ HW_ hHeld ?_;refine tA 3 19 HT_ HW_ hHeld ?_;refine tA 5 21 HT_ HW_ hHeld ?_;refine oA 6 22 HT_ (fun K hK=>?_);refine gA Tryz.func61 #[.int .i64 aM] ?_;(with_reducible refine (fK.calls k aM D8 _ xU.o).mono ?_);rintro e tF ⟨rfl,hb⟩;refine ⟨_,rfl,?_⟩;replace zQ:=af.mk (Kd.cu (rs zQ) hb);replace eB:=af.mk (aU (ks eB) hb);replace HB:=af.mk (gP (bs HB) hb);(try clear hb);(try clear hb2);(try clear hk);(try clear hi);refine hK.out _ _ (hb6 eB).o (fun hHeld=>?_);clear hK K;refine nA 22 ?_;refine oA 7 23 HT_ (fun K hK=>?_);refine Kd.zR Kd.string _ 9 ?hg (N:=23) ?hd (xs:=([aj,ak,D8]:List ByteArray)) (inner:=[.string aj,.string ak,.string D8]) (ok:=fun _=>True) (okp:=fun _=>True) ?hr ?hp (fun _ hk=>hk) trivial (Below.refl _ _) (Nat.le_refl _) (by simp) ?_;(case hd=>rfl);(case hg=>rfl);(case hr=>first|(go_simp;done)|(go_simp;rfl));(case hp=>exact (aV.one (show Kd.M Kd.string _ _ _ aj [.string aj] from rfl) (aV.one (show Kd.M Kd.string _ _ _ ak [.string ak] from rfl) (aV.one (show Kd.M Kd.string _ _ _ D8 [.string D8] from rfl) (aV.none _ _)))));intro aMg CG OH hb hg_ hnew_;clear hg_ hnew_
   (first|rw [← aix.o] at OH|(simp only [Int.reduceToNat] at OH;rw [← aix.o] at OH))
   have aqi:=af.mk (Kd.ic (Kd.EI (Kd.NI (M:=fun k_=>(w.heap.size≤k_)) OH (bJ (bs HB)) (fun k_ h_=>h_)) (Kd.kU (rs zQ))) (bJ (bs HB)));replace zQ:=af.mk (Kd.EF (rs zQ) (Kd.qZ OH) hb);replace eB:=af.mk (aU (ks eB) hb);replace HB:=af.mk (gP (bs HB) hb);clear hb OH;refine hK.out _ _ (hb6 eB).o (fun hHeld=>?_);clear hK K;refine nA 23 ?_;refine pA 8 3 HT_ ?_;refine ek (fo HT_.o (by kernel_rfl)) ?_
   try go_wp2
   go_meet
   case rel=>exact ⟨_,(aoK),H',⟨fl⟩,⟨by (with_reducible repeat (first|apply Kd.kM|apply Kd.jK|apply Kd.eO));exact Kd.dE aqi.o (fun _ hk=>hk.1.1)⟩,⟨ks eB⟩,⟨bs HB⟩⟩
  ·replace H:=di H;have H':=af.mk H;clear H
   go_wp2
   go_meet
   case rel=>exact ⟨_,(ag9),H',⟨fl⟩,⟨by (with_reducible repeat (first|apply Kd.kM|apply Kd.jK|apply Kd.eO));exact Kd.dE zQ.o (fun _ hk=>hk.1)⟩,⟨ks eB⟩,⟨bs HB⟩⟩
 case rest =>
  clear abN
  try clear zZ
  obtain ⟨kq,Ef,HA,X4,gU,eB,HB⟩:=hcut
  cases kq with
  | zero=>exact absurd HA.o (by simp [fQ.j0])
  | succ V9 =>
   have H:=HA.o;clear HA;simp only [fQ.j0] at H;replace H:=bo H;obtain ⟨⟨WC,WE⟩,Jv,H⟩:=H;(try dsimp only at H);obtain ⟨aoL,ae9⟩:∃ y_:List bn,y_=(([(⟨WC,WE⟩:bn)]:List bn)):=⟨_,rfl⟩
   replace H:(fQ.l0 V9 aoL 0 ag aj ak aM az ah)=some r:=ye ae9 H
   have aiy:=af.mk ae9;clear ae9;have H':=af.mk H;clear H;obtain ⟨Nb,Od,adR⟩:=Kd.gW gU.o;subst adR
   go_wp2_with (first|((first|((with_reducible refine Ti (f:=63) rfl ?_);refine Tt (some 25) rfl rfl Tryz.func63 (by kernel_rfl) rfl #[.string (⟨#[68,79,67]⟩:ByteArray),.slice Nb Ef.length Od] rfl (by (try simp only [List.map_toArray,List.map_cons,List.map_nil]);first|done|rfl|(simp only [List.length_drop,List.length_take];rfl)) ?_;(with_reducible refine (ib.calls V9 (⟨#[68,79,67]⟩:ByteArray) _ _ Ef WC WE _ ?aR ?bg Jv.o).mono ?_);(case aR=>repeat (first|exact (Kd.dH gU.o).2.2|(with_reducible refine Kd.rO ?_ _)|(with_reducible refine Kd.rQ ?_ _)|(with_reducible refine Kd.rP ?_)));(case bg=>exact (Kd.dH gU.o).2.1);rintro e pz ⟨aCr,rfl,ho0,hb⟩;refine ⟨_,rfl,?_⟩)|(go_at_call 63;refine (ib.calls V9 (⟨#[68,79,67]⟩:ByteArray) _ _ Ef WC WE _ ?aR ?bg Jv.o).mono ?_;(case aR=>repeat (first|exact (Kd.dH gU.o).2.2|(with_reducible refine Kd.rO ?_ _)|(with_reducible refine Kd.rQ ?_ _)|(with_reducible refine Kd.rP ?_)));(case bg=>exact (Kd.dH gU.o).2.1);rintro e pz ⟨aCr,rfl,ho0,hb⟩));have ach:=af.mk (Kd.mM (Kd.eF (ok':=fun k_=>(w.heap.size≤k_)∧some k_≠(.slice Nb Ef.length Od:Value).ownBlock∧k_≠rA) (Kd.pQ ho0) (fun k_ hk_=>⟨(Nat.le_trans (bJ (bs HB)) hk_.2.1),(Kd.fresh' (Kd.kU (rs gU)) k_ hk_.2.1),(Kd.vC (g:=rA) (o:=.cells #[.int .i64 ag,.string aj,.string ak,.int .i64 aM,.slice dB az.length dx,.slice dJ ah.length df] 45 (0,0)) (ks eB) k_ hk_.2.1)⟩)) (bJ (bs HB)));replace gU:=af.mk (Kd.cu (rs gU) hb);replace eB:=af.mk (aU (ks eB) hb);replace HB:=af.mk (gP (bs HB) hb);(try clear hb);(try clear hb2);(try clear hk);(try clear hi);(try clear ho0);obtain ⟨QY,SH,SY⟩:=Kd.ji ach.o;subst SY)|((with_reducible refine aJ (N:=26) rfl ?_);refine Kd.ai1 oO (w0:=w) w.heap.size 62 ?hg (N:=26) ?hd (xs:=([(⟨WC,WE⟩:bn)]:List bn)) (inner:=[.string WC,.slice QY WE.length SH]) (ok:=(fun k_=>(w.heap.size≤k_)∧some k_≠(.slice Nb Ef.length Od:Value).ownBlock∧k_≠rA)) (fun j_ k_=>j_=0∧(fun k_=>(w.heap.size≤k_)∧some k_≠(.slice Nb Ef.length Od:Value).ownBlock∧k_≠rA) k_) ?hr rfl ?hp (fun _ _ _ h1 h2=>h1.1.trans h2.1.symm) (fun _ _ h=>h.2) ((show ∀ k_,pz.heap.size≤k_→(fun k_=>(w.heap.size≤k_)∧some k_≠(.slice Nb Ef.length Od:Value).ownBlock∧k_≠rA) k_ from fun k_ hk=>⟨(Nat.le_trans (bJ (bs HB)) hk),Kd.fresh' (Kd.kU (rs gU)) k_ hk,Kd.vC (g:=rA) (o:=.cells #[.int .i64 ag,.string aj,.string ak,.int .i64 aM,.slice dB az.length dx,.slice dJ ah.length df] 45 (0,0)) (ks eB) k_ hk⟩) _ (Nat.le_refl _)) (bs HB) (bJ (bs HB)) (by simp) ?_;(case hd=>rfl);(case hg=>rfl);(case hr=>first|(go_simp;done)|(go_simp;rfl));(case hp=>intro j_ x_ hx_;rcases j_ with _|j_;(obtain rfl:=Option.some.inj hx_;exact ⟨_,rfl,Kd.eF ach.o (fun k_ hk=>⟨rfl,⟨hk.1,⟨hk.2.1,hk.2.2⟩⟩⟩)⟩);exact absurd hx_ (by simp));intro aMh CJ UO hb hg_ hnew_;clear hnew_;(first|rw [← aiy.o] at UO|(simp only [Int.reduceToNat] at UO;rw [← aiy.o] at UO));have cK:=True.intro;have cO:=af.mk UO;have dw:=af.mk (fV (ks eB) hg_ (fun e_=>nomatch e_));have iB:=af.mk hb;clear gU;clear eB;clear HB;clear ach;have gU:=cK;have aqj:=cO;have eB:=dw;have HB:=iB;clear cK cO dw iB;clear hb UO hg_))
   go_loopg [4,5] V9 (fun kq v4 v5 w'=>∃ (mX:List bn) (fw:Int),v5=.int .i64 fw∧af (fQ.l0 kq mX fw ag aj ak aM az ah=some r)∧af (kq≤V9)∧af (Kd.S oO 62 w' w.heap.size (fun k_=>(w.heap.size≤k_)∧k_≠rA) v4 mX)∧af (w'.heap[rA]? = some (.cells #[.int .i64 ag,.string aj,.string ak,.int .i64 aM,(.slice dB az.length dx),(.slice dJ ah.length df)] 45 (0,0)))∧af (Below w.heap.size w w'))
   case atStart=>exact ⟨(aoL),(0),fg,H',⟨Nat.le_refl _⟩,⟨by (with_reducible repeat (first|apply Kd.iH|apply Kd.iJ|apply Kd.fU));exact Kd.eF aqj.o (fun _ hk=>⟨hk.1,hk.2.2⟩)⟩,⟨ks eB⟩,⟨bs HB⟩⟩
   case round =>
    clear H'
    try clear c2
    try clear zZ
    try clear eB
    obtain ⟨mX,fw,rfl,HA,dD,gH,eB,HB⟩:=hrel
    cases gk with
    | zero=>exact absurd HA.o (by simp [fQ.l0])
    | succ k2 =>
     have H:=HA.o;clear HA;simp only [fQ.l0] at H
     revert H;refine bK ?_ ?_
     ·intro G9 H
      revert H;refine bv ?_
      intro vZ H;obtain ⟨M6,afa⟩:∃ y_:List ByteArray,y_=(([bA ByteArray.empty az fw]:List ByteArray)):=⟨_,rfl⟩
      replace H:((ib.f k2 (⟨#[78,79,84]⟩:ByteArray) M6).bind fun R7=>(if mX.length<3518437208883 then (fQ.l0 k2 (mX++[(⟨R7.1,R7.2⟩:bn)]) (wrap64 (fw+1)) ag aj ak aM az ah) else none))=some r:=ye afa H
      have aiz:=af.mk afa;clear afa;replace H:=bo H;obtain ⟨⟨WF,WG⟩,Na,H⟩:=H;(try dsimp only at H)
      revert H;refine ku ?_
      intro c26 H;have ars:=af.mk c26;clear c26;obtain ⟨aoM,afb⟩:∃ y_:List bn,y_=(mX++[(⟨WF,WG⟩:bn)]):=⟨_,rfl⟩
      replace H:(fQ.l0 k2 aoM (wrap64 (fw+1)) ag aj ak aM az ah)=some r:=ye afb H
      have ar6:=af.mk afb;clear afb;have H':=af.mk H;clear H;have Ot:=dO eB;have af2:0≤(fw:Int):=oa;have agc:fw<(az.length:Int):=oa;obtain ⟨ai5,e249,amy⟩:=Kd.jw oI.o fw af2 agc
      cases e249
      replace amy:=cb HB amy;replace af2:=eq_true af2;replace agc:=eq_true agc
      go_wp2_with (first|((with_reducible refine aJ (N:=40) rfl ?_);refine Kd.NG Kd.string _ 9 ?hg (N:=40) ?hd (xs:=([bA ByteArray.empty az fw]:List ByteArray)) (inner:=[.string (bA ByteArray.empty az fw)]) (ok:=fun _=>True) (okp:=fun _=>True) ?hr ?hp (fun _ hk=>hk) trivial (Below.refl _ _) (Nat.le_refl _) (by simp) ?_;(case hd=>rfl);(case hg=>rfl);(case hr=>first|(go_simp;done)|(go_simp;rfl));(case hp=>exact (aV.one (show Kd.M Kd.string _ _ _ (bA ByteArray.empty az fw) [.string (bA ByteArray.empty az fw)] from rfl) (aV.none _ _)));intro aMi MO OJ hb hg_ hnew_;clear hg_ hnew_;(first|rw [← aiz.o] at OJ|(simp only [Int.reduceToNat] at OJ;rw [← aiz.o] at OJ));have cK:=af.mk (Kd.RJ (by (with_reducible repeat (first|apply Kd.iH|apply Kd.iJ|apply Kd.fU));exact gH.o) (Kd.qZ OJ) hb);have cO:=af.mk (Kd.ic (Kd.NI (M:=fun k_=>(w.heap.size≤k_)) OJ (bJ (bs HB)) (fun k_ h_=>h_)) (bJ (bs HB)));have dw:=af.mk (aU (ks eB) hb);have iB:=af.mk (gP (bs HB) hb);clear gH;clear eB;clear HB;have gH:=cK;have yX:=cO;have eB:=dw;have HB:=iB;clear cK cO dw iB;clear hb OJ;obtain ⟨XJ,Zn,avg⟩:=Kd.gW yX.o;subst avg)|((first|((with_reducible refine Ti (f:=63) rfl ?_);refine Tt (some 41) rfl rfl Tryz.func63 (by kernel_rfl) rfl #[.string (⟨#[78,79,84]⟩:ByteArray),.slice XJ M6.length Zn] rfl (by (try simp only [List.map_toArray,List.map_cons,List.map_nil]);first|done|rfl|(simp only [List.length_drop,List.length_take];rfl)) ?_;(with_reducible refine (ib.calls k2 (⟨#[78,79,84]⟩:ByteArray) _ _ M6 WF WG _ ?aR ?bg Na.o).mono ?_);(case aR=>repeat (first|exact (Kd.dH yX.o).2.2|(with_reducible refine Kd.rO ?_ _)|(with_reducible refine Kd.rQ ?_ _)|(with_reducible refine Kd.rP ?_)));(case bg=>exact (Kd.dH yX.o).2.1);rintro e MP ⟨aCs,rfl,ho0,hb⟩;refine ⟨_,rfl,?_⟩)|(go_at_call 63;refine (ib.calls k2 (⟨#[78,79,84]⟩:ByteArray) _ _ M6 WF WG _ ?aR ?bg Na.o).mono ?_;(case aR=>repeat (first|exact (Kd.dH yX.o).2.2|(with_reducible refine Kd.rO ?_ _)|(with_reducible refine Kd.rQ ?_ _)|(with_reducible refine Kd.rP ?_)));(case bg=>exact (Kd.dH yX.o).2.1);rintro e MP ⟨aCs,rfl,ho0,hb⟩));have cK:=af.mk (Yx (by (with_reducible repeat (first|apply Kd.iH|apply Kd.iJ|apply Kd.fU));exact gH.o) (Kd.Yw ho0) hb);have cO:=af.mk (Kd.cu (rs yX) hb);have dw:=af.mk (Kd.mM (Kd.eF (ok':=fun k_=>((w.heap.size≤k_)∧some k_≠(u4:Value).ownBlock∧some k_≠(.slice XJ M6.length Zn:Value).ownBlock∧k_≠rA)∧MO.heap.size≤k_) (Kd.pQ ho0) (fun k_ hk_=>⟨⟨(Nat.le_trans (bJ (bs HB)) hk_.2.1),(Kd.fresh' (Kd.Yy (by (with_reducible repeat (first|apply Kd.iH|apply Kd.iJ|apply Kd.fU));exact gH.o)) k_ hk_.2.1),(Kd.fresh' (Kd.kU (rs yX)) k_ hk_.2.1),(Kd.vC (g:=rA) (o:=.cells #[.int .i64 ag,.string aj,.string ak,.int .i64 aM,.slice (some ai5) az.length dx,.slice dJ ah.length df] 45 (0,0)) (ks eB) k_ hk_.2.1)⟩,hk_.2.1⟩)) (bJ (bs HB)));have iB:=af.mk (aU (ks eB) hb);have nG:=af.mk (gP (bs HB) hb);clear gH;clear yX;clear eB;clear HB;have gH:=cK;have yX:=cO;have aci:=dw;have eB:=iB;have HB:=nG;clear cK cO dw iB nG;(try clear hb);(try clear hb2);(try clear hk);(try clear hi);(try clear ho0);obtain ⟨XK,Zo,Oh⟩:=Kd.ji aci.o;subst Oh)|((with_reducible refine rY (b:=.append) (xs:=#[.tmp 34,.tmp 42]) rfl ?_);at_builtin;refine Kd.Yv oO (w0:=w) w.heap.size rfl (.tmp 34) (.tmp 42) 57 62 (.agg #[(.string ⟨#[]⟩),(.slice none 0 0)]) 40 rfl Tryz.underlying57 V7 rfl (by decide) (by omega) u4 mX (⟨WF,WG⟩:bn) [.string WF,.slice XK WG.length Zo] (fun k_=>(w.heap.size≤k_)∧some k_≠(.slice XJ M6.length Zn:Value).ownBlock∧k_≠rA) (fun k_=>(fun k_=>((fun k_=>(w.heap.size≤k_)∧some k_≠(.slice XJ M6.length Zn:Value).ownBlock∧k_≠rA)) k_∧some k_≠(u4:Value).ownBlock) k_∧MO.heap.size≤k_) rfl rfl ?aP (fun _ hk=>hk.1) ?aF ?aO ?aB ?aS ?aL ?_;(case aP=>exact ⟨_,rfl,Kd.eF aci.o (fun k_ hk=>⟨⟨⟨hk.1.1,⟨hk.1.2.2.1,hk.1.2.2.2⟩⟩,hk.1.2.1⟩,hk.2⟩)⟩);(case aB=>exact (bs HB));(case aF=>exact (fun k_ hk=>⟨(Nat.le_trans (bJ (bs HB)) hk),Kd.fresh' (Kd.kU (rs yX)) k_ hk,Kd.vC (g:=rA) (o:=.cells #[.int .i64 ag,.string aj,.string ak,.int .i64 aM,.slice (some ai5) az.length dx,.slice dJ ah.length df] 45 (0,0)) (ks eB) k_ hk⟩));(case aO=>exact (by (with_reducible repeat (first|apply Kd.iH|apply Kd.iJ|apply Kd.fU));exact Kd.eF gH.o (fun _ hk=>⟨⟨hk.1.1.1.1,⟨hk.1.1.2,hk.1.1.1.2⟩⟩,fun hT_=>Nat.not_le_of_lt hk.2 hT_.2⟩)));(case aS=>exact (bJ (bs HB)));(case aL=>have:=ars.o;omega);intro aMj w32 ho hb hg hat;rw [← ar6.o] at ho;have cK:=af.mk (fV (ks eB) hg (Kd.EJ gH.o eB.o (by decide)));have cO:=af.mk (Kd.GM (rs yX) (Kd.Bv (by (with_reducible repeat (first|apply Kd.iH|apply Kd.iJ|apply Kd.fU));exact gH.o)) (by decide) hg);have dw:=af.mk (hb);have iB:=af.mk (ho);clear eB;clear yX;clear HB;clear gH;clear aci;have eB:=cK;have yX:=cO;have HB:=dw;have aqk:=iB;clear cK cO dw iB;clear ho hb hg hat))
      go_roundg k2
      case measure=>have:=X4.o;have:=dD.o;omega
      case rel=>exact ⟨(aoM),(wrap64 (fw+1)),fg,H',⟨by have:=X4.o;have:=dD.o;omega⟩,⟨by (with_reducible repeat (first|apply Kd.iH|apply Kd.iJ|apply Kd.fU));exact Kd.eF aqk.o (fun _ hk=>⟨hk.1,hk.2.2⟩)⟩,⟨ks eB⟩,⟨bs HB⟩⟩
     ·intro G9 H;have H':=af.mk H;clear H;have aeb:=dO eB
      go_wp2
      go_loopg [4,6] k2 (fun kq v4 v6 w'=>∃ (Bd:List bn) (iC:Int),v6=.int .i64 iC∧af (fQ.l1 kq Bd iC ag aj ak aM az ah=some r)∧af (kq≤k2)∧af (Kd.S oO 62 w' w.heap.size (fun k_=>(w.heap.size≤k_)∧k_≠rA) v4 Bd)∧af (w'.heap[rA]? = some (.cells #[.int .i64 ag,.string aj,.string ak,.int .i64 aM,(.slice dB az.length dx),(.slice dJ ah.length df)] 45 (0,0)))∧af (Below w.heap.size w w'))
      case atStart=>exact ⟨(mX),(0),fg,H',⟨Nat.le_refl _⟩,⟨by (with_reducible repeat (first|apply Kd.iH|apply Kd.iJ|apply Kd.fU));exact gH.o⟩,⟨ks eB⟩,⟨bs HB⟩⟩
      case round =>
       clear H'
       try clear c2
       try clear G9
       try clear aeb
       try clear zZ
       try clear eB
       obtain ⟨Bd,iC,rfl,HA,rU,gH,eB,HB⟩:=hrel
       cases gk with
       | zero=>exact absurd HA.o (by simp [fQ.l1])
       | succ k3 =>
        have H:=HA.o;clear HA;simp only [fQ.l1] at H
        revert H;refine bK ?_ ?_
        ·intro Zd H
         revert H;refine bv ?_
         intro wm H;replace H:=bo H;obtain ⟨⟨aaT,aaU⟩,A37,H⟩:=H;(try dsimp only at H)
         revert H;refine ku ?_
         intro He H;have arw:=af.mk He;clear He;obtain ⟨aoN,afd⟩:∃ y_:List bn,y_=(Bd++[(⟨aaT,aaU⟩:bn)]):=⟨_,rfl⟩
         replace H:(fQ.l1 k3 aoN (wrap64 (iC+1)) ag aj ak aM az ah)=some r:=ye afd H
         have ar7:=af.mk afd;clear afd;have H':=af.mk H;clear H;have aed:=dO eB
         try go_wp2
         replace gH:=af.mk (Kd.fU gH.o);replace eB:=af.mk (bD eB.o);replace HB:=af.mk (cZ HB.o);have af3:0≤(iC:Int):=oa;have agd:iC<(ah.length:Int):=oa;obtain ⟨ai6,e260,Z7,Z8,aaa,aab,aac⟩:=uA ni.o iC af3 agd;have Vm:=aac;have Vl:=aab;have Vk:=aaa;have Vj:=Z8;have Vi:=Z7
         cases e260
         replace Z7:=cb HB Z7;replace Z8:=cb HB Z8;replace aaa:=cb HB aaa;replace aab:=cb HB aab;replace aac:=cb HB aac;replace af3:=eq_true af3;replace agd:=eq_true agd;refine gD 12 (qJ eB (aC (cb HB Vi) (aC (cb HB Vj) (aC (cb HB Vk) (aC (cb HB Vl) (hc (cb HB Vm))))))) (fun hHeld=>?_);refine fu fQ.yI fQ.yf (fun HT_ HW_=>?_)
         generalize wr.drew=Jg at gH eB HB Z7 Z8 aaa aab aac hHeld ⊢
         refine pA 0 51 HT_ ?_;refine pA 1 52 HT_ ?_;refine pA 3 54 HT_ ?_;refine pA 5 56 HT_ ?_;refine tA 2 53 HT_ HW_ hHeld ?_;refine tA 4 55 HT_ HW_ hHeld ?_;refine pA 6 57 HT_ ?_;refine tA 7 58 HT_ HW_ hHeld ?_;refine oA 8 59 HT_ (fun K hK=>?_);refine gA Tryz.func64 #[.int .i64 ag,.agg #[.int .i64 ((ai ah iC).f0),.string ((ai ah iC).f1),.int .i64 ((ai ah iC).f2),.int .i64 ((ai ah iC).f3),.string ((ai ah iC).f4)]] ?_;(with_reducible refine (fq.calls k3 ag ((ai ah iC).f0) ((ai ah iC).f1) ((ai ah iC).f2) ((ai ah iC).f3) ((ai ah iC).f4) aaT aaU _ A37.o).mono ?_);rintro e w41 ⟨aMk,rfl,ho0,hb⟩;refine ⟨_,rfl,?_⟩;have cK:=af.mk (Yx (by (with_reducible repeat (first|apply Kd.iH|apply Kd.iJ|apply Kd.fU));exact gH.o) (Kd.Yw ho0) hb);have cO:=af.mk (Kd.mM (Kd.eF (ok':=fun k_=>((w.heap.size≤k_)∧some k_≠(u4:Value).ownBlock∧k_≠rA)∧Jg.heap.size≤k_) (Kd.pQ ho0) (fun k_ hk_=>⟨⟨(Nat.le_trans (bJ (bs HB)) hk_.2.1),(Kd.fresh' (Kd.Yy (by (with_reducible repeat (first|apply Kd.iH|apply Kd.iJ|apply Kd.fU));exact gH.o)) k_ hk_.2.1),(Kd.vC (g:=rA) (o:=.cells #[.int .i64 ag,.string aj,.string ak,.int .i64 aM,.slice dB az.length dx,.slice (some ai6) ah.length df] 45 (0,0)) (ks eB) k_ hk_.2.1)⟩,hk_.2.1⟩)) (bJ (bs HB)));have dw:=af.mk (aU (ks eB) hb);have iB:=af.mk (gP (bs HB) hb);clear gH;clear eB;clear HB;have gH:=cK;have acj:=cO;have eB:=dw;have HB:=iB;clear cK cO dw iB;(try clear hb);(try clear hb2);(try clear hk);(try clear hi);(try clear ho0);obtain ⟨apk,auv,akb⟩:=Kd.ji acj.o
         (first|subst akb|(injection akb with fO jy fP;have jA:=fO.symm;have jB:=fP.symm;clear fO jy fP;subst jA;subst jB))
         refine hK.out _ _ (qJ eB (aC (cb HB Vi) (aC (cb HB Vj) (aC (cb HB Vk) (aC (cb HB Vl) (hc (cb HB Vm))))))).o (fun hHeld=>?_);clear hK K;refine nA 59 ?_;refine oA 9 60 HT_ (fun K hK=>?_);refine F8 (w1:=?_) (v:=?_) (by rfl) rfl ?_ ?_
         rotate_left 2
         ·go_simp
          constructor
          ·rfl
          ·rfl
         refine hK.out _ _ ⟨(aA (eY eB.o _) 0).trans rfl,(aA (eY eB.o _) 1).trans rfl,(aA (eY eB.o _) 2).trans rfl,(aA (eY eB.o _) 3).trans rfl,(aA (eY eB.o _) 4).trans rfl,(aA (eY eB.o _) 5).trans rfl,(World.cell?_alloc_lt _ _ _ (World.block_lt_of_cell? _ _ (((cb HB Vi).trans rfl)))).trans (((cb HB Vi).trans rfl)),(World.cell?_alloc_lt _ _ _ (World.block_lt_of_cell? _ _ (((cb HB Vj).trans rfl)))).trans (((cb HB Vj).trans rfl)),(World.cell?_alloc_lt _ _ _ (World.block_lt_of_cell? _ _ (((cb HB Vk).trans rfl)))).trans (((cb HB Vk).trans rfl)),(World.cell?_alloc_lt _ _ _ (World.block_lt_of_cell? _ _ (((cb HB Vl).trans rfl)))).trans (((cb HB Vl).trans rfl)),(World.cell?_alloc_lt _ _ _ (World.block_lt_of_cell? _ _ (((cb HB Vm).trans rfl)))).trans (((cb HB Vm).trans rfl))⟩ (fun hHeld=>?_);clear hK K;refine nA 60 ?_;refine oA 10 61 HT_ (fun K hK=>?_);refine Kd.NL oO (w0:=w) w.heap.size (by rfl) (.tmp 51) (.tmp 60) 57 62 (.agg #[(.string ⟨#[]⟩),(.slice none 0 0)]) 40 rfl Tryz.underlying57 V7 rfl (by decide) (by omega) u4 Bd (⟨aaT,aaU⟩:bn) [.string aaT,.slice apk aaU.length auv] (fun k_=>(w.heap.size≤k_)∧k_≠rA) (fun k_=>(fun k_=>((fun k_=>(w.heap.size≤k_)∧k_≠rA)) k_∧some k_≠(u4:Value).ownBlock) k_∧Jg.heap.size≤k_) rfl rfl ?aP (fun _ hk=>hk.1) ?aF ?aO ?aB ?aS ?aL ?_
         (case aP=>exact ⟨_,rfl,Kd.eF acj.o (fun k_ hk=>⟨⟨⟨hk.1.1,hk.1.2.2⟩,hk.1.2.1⟩,hk.2⟩)⟩)
         (case aB=>exact (bs HB))
         (case aF=>exact (fun k_ hk=>⟨(Nat.le_trans (bJ (bs HB)) hk),Kd.vC (g:=rA) (o:=.cells #[.int .i64 ag,.string aj,.string ak,.int .i64 aM,.slice dB az.length dx,.slice (some ai6) ah.length df] 45 (0,0)) (ks eB) k_ hk⟩))
         (case aO=>exact (by (with_reducible repeat (first|apply Kd.iH|apply Kd.iJ|apply Kd.fU));exact Kd.eF gH.o (fun _ hk=>⟨⟨hk.1.1.1,hk.1.1.2⟩,fun hT_=>Nat.not_le_of_lt hk.2 hT_.2⟩)))
         (case aS=>exact (bJ (bs HB)))
         (case aL=>have:=arw.o;omega)
         intro aMl vN ho hb hg hat
         rw [← ar7.o] at ho
         have cK:=af.mk (fV (ks eB) hg (Kd.EJ gH.o eB.o (by decide)));have cO:=af.mk (hb);have dw:=af.mk (ho);clear eB;clear HB;clear gH;clear acj;have eB:=cK;have HB:=cO;have aql:=dw;clear cK cO dw;clear ho hb hg hat;refine hK.out _ _ (qJ eB (aC (cb HB Vi) (aC (cb HB Vj) (aC (cb HB Vk) (aC (cb HB Vl) (hc (cb HB Vm))))))).o (fun hHeld=>?_);clear hK K;refine nA 61 ?_;refine pA 11 4 HT_ ?_;refine ek (fo HT_.o (by kernel_rfl)) ?_
         try go_wp2
         go_roundg k3
         case measure=>have:=X4.o;have:=dD.o;have:=rU.o;omega
         case rel=>exact ⟨(aoN),(wrap64 (iC+1)),fg,H',⟨by have:=X4.o;have:=dD.o;have:=rU.o;omega⟩,⟨by (with_reducible repeat (first|apply Kd.iH|apply Kd.iJ|apply Kd.fU));exact aql.o⟩,⟨ks eB⟩,⟨bs HB⟩⟩
        ·intro Zd H;obtain rfl:=si H;have aee:=dO eB
         go_wp2
         go_ret
         exact ⟨_,ff,by (with_reducible repeat (first|apply Kd.iH|apply Kd.iJ|apply Kd.fU));exact Kd.eF gH.o (fun _ hk=>hk.1),bs HB⟩
theorem fQ.calls (k:Nat)(ag:Int)(aj ak:ByteArray)(aM:Int)(dB:Option Addr)(dx:Nat)(az:List ByteArray)(dJ:Option Addr)(df:Nat)(ah:List aZ)(r:List bn)(w:World)(lm:Kd.C Kd.string w dB az.length az)(kY:az.length≤dx)(lq:Kd.C iA w dJ ah.length ah)(kZ:ah.length≤df)(H:fQ.f k ag aj ak aM az ah=some r) :
  Calls Tryz.prog 32 #[.agg #[.int .i64 ag,.string aj,.string ak,.int .i64 aM,.slice dB az.length dx,.slice dJ ah.length df]] w fun e w'=>∃ lX:Value,e=.returned (lX)∧Kd.N kP 62 w' w.heap.size (fun k_=>(w.heap.size≤k_)) lX r∧Below w.heap.size w w':=by
 refine (fQ.Dr k ag aj ak aM dB dx az dJ df ah r w lm kY lq kZ H).mono ?_
 rintro e w' ⟨v,he,hS,hb⟩
 exact ⟨v,he,am6 hS,hb⟩
theorem wV.calls (k:Nat)(a0:ByteArray)(r:Bool)(w:World)(H:wV.f k a0=some r) :
  Calls Tryz.prog 65 #[.string a0] w fun e w'=>e=.returned (.bool r)∧aW w w':=by
 unfold wV.f at H
 revert H;refine bH ?_ ?_
 ·intro gQ jE H;have H':=am H;clear H
  go_in
  go_wp2
  go_loopg [3] k (fun kq v3 w'=>∃ (dU:Int),v3=.int .i64 dU∧af (wV.l0 kq a0 dU=some r)∧af (kq≤k)∧aW w w')
  case atStart=>exact ⟨(0),fg,H',⟨Nat.le_refl _⟩,by repeat (first|exact aW.refl _|apply aW.step)⟩
  case round =>
   clear H'
   try clear gQ
   try clear jE
   obtain ⟨dU,rfl,HA,aQ,⟨m1,rfl⟩⟩:=hrel
   cases gk with
   | zero=>exact absurd HA.o (by simp [wV.l0])
   | succ k1 =>
    have H:=HA.o;clear HA;simp only [wV.l0] at H
    revert H;refine bK ?_ ?_
    ·intro aY H
     revert H;refine bv ?_
     intro dF H
     revert H;refine bv ?_
     intro ja H
     revert H;refine bK ?_ ?_
     ·intro kH H;obtain rfl:=si H;have p6:0≤(dU:Int):=oa;have q6:dU<(a0.size:Int):=oa;have hx6:=gX a0 dU;replace p6:=eq_true p6;replace q6:=eq_true q6
      go_wp2
      go_ret
      exact ⟨fg,dr⟩
     ·intro kH H
      revert H;refine gT ?_ ?_
      ·intro c9 H;have nN:decide (90<(bt a0 dU))=true:=decide_eq_true c9;clear c9;obtain rfl:=si H;have p6:0≤(dU:Int):=oa;have q6:dU<(a0.size:Int):=oa;have hx6:=gX a0 dU;replace p6:=eq_true p6;replace q6:=eq_true q6;have p8:0≤(dU:Int):=oa;have q8:dU<(a0.size:Int):=oa;have hx8:=gX a0 dU;replace p8:=eq_true p8;replace q8:=eq_true q8
       go_wp2
       go_ret
       exact ⟨fg,dr⟩
      ·intro c9 H;have nN:decide (90<(bt a0 dU))=false:=decide_eq_false c9;clear c9;have H':=am H;clear H;have p6:0≤(dU:Int):=oa;have q6:dU<(a0.size:Int):=oa;have hx6:=gX a0 dU;replace p6:=eq_true p6;replace q6:=eq_true q6;have p8:0≤(dU:Int):=oa;have q8:dU<(a0.size:Int):=oa;have hx8:=gX a0 dU;replace p8:=eq_true p8;replace q8:=eq_true q8
       go_wp2
       go_roundg k1
       case measure=>have:=aQ.o;omega
       case rel=>exact ⟨(wrap64 (dU+1)),fg,H',⟨by have:=aQ.o;omega⟩,by repeat (first|exact aW.refl _|apply aW.step)⟩
    ·intro aY H;obtain rfl:=si H
     go_wp2
     go_ret
     exact ⟨fg,dr⟩
 ·intro c2 gQ jE H;obtain rfl:=si H
  go_in
  go_wp2
  go_ret
  exact ⟨fg,dr⟩
theorem ui.calls (k:Nat)(a0:ByteArray)(r:Bool)(w:World)(H:ui.f k a0=some r) :
  Calls Tryz.prog 66 #[.string a0] w fun e w'=>e=.returned (.bool r)∧aW w w':=by
 unfold ui.f at H
 revert H;refine gT ?_ ?_
 ·intro c2 H;have gQ:decide (40<(a0.size:Int))=true:=decide_eq_true c2;have jE:decide (40<a0.size)=true:=decide_eq_true (by omega);clear c2;obtain rfl:=si H
  go_in
  go_wp2
  go_ret
  exact ⟨fg,dr⟩
 ·intro c2 H;have gQ:decide (40<(a0.size:Int))=false:=decide_eq_false c2;have jE:decide (40<a0.size)=false:=decide_eq_false (by omega);clear c2;have H':=am H;clear H
  go_in
  go_wp2
  go_loopg [3] k (fun kq v3 w'=>∃ (dU:Int),v3=.int .i64 dU∧af (ui.l0 kq a0 dU=some r)∧af (kq≤k)∧aW w w')
  case atStart=>exact ⟨(0),fg,H',⟨Nat.le_refl _⟩,by repeat (first|exact aW.refl _|apply aW.step)⟩
  case round =>
   clear H'
   try clear c2
   try clear gQ
   try clear jE
   obtain ⟨dU,rfl,HA,aQ,⟨m1,rfl⟩⟩:=hrel
   cases gk with
   | zero=>exact absurd HA.o (by simp [ui.l0])
   | succ k1 =>
    have H:=HA.o;clear HA;simp only [ui.l0] at H
    revert H;refine bK ?_ ?_
    ·intro aY H
     revert H;refine bv ?_
     intro dF H
     revert H;refine bK ?_ ?_
     ·intro gu H;obtain rfl:=si H;have p5:0≤(dU:Int):=oa;have q5:dU<(a0.size:Int):=oa;have hx5:=gX a0 dU;replace p5:=eq_true p5;replace q5:=eq_true q5
      go_wp2
      go_ret
      exact ⟨fg,dr⟩
     ·intro gu H
      revert H;refine gT ?_ ?_
      ·intro c8 H;have kr:decide (126<(bt a0 dU))=true:=decide_eq_true c8;clear c8;obtain rfl:=si H;have p5:0≤(dU:Int):=oa;have q5:dU<(a0.size:Int):=oa;have hx5:=gX a0 dU;replace p5:=eq_true p5;replace q5:=eq_true q5;have p7:0≤(dU:Int):=oa;have q7:dU<(a0.size:Int):=oa;have hx7:=gX a0 dU;replace p7:=eq_true p7;replace q7:=eq_true q7
       go_wp2
       go_ret
       exact ⟨fg,dr⟩
      ·intro c8 H;have kr:decide (126<(bt a0 dU))=false:=decide_eq_false c8;clear c8;have H':=am H;clear H;have p5:0≤(dU:Int):=oa;have q5:dU<(a0.size:Int):=oa;have hx5:=gX a0 dU;replace p5:=eq_true p5;replace q5:=eq_true q5;have p7:0≤(dU:Int):=oa;have q7:dU<(a0.size:Int):=oa;have hx7:=gX a0 dU;replace p7:=eq_true p7;replace q7:=eq_true q7
       go_wp2
       go_roundg k1
       case measure=>have:=aQ.o;omega
       case rel=>exact ⟨(wrap64 (dU+1)),fg,H',⟨by have:=aQ.o;omega⟩,by repeat (first|exact aW.refl _|apply aW.step)⟩
    ·intro aY H;obtain rfl:=si H
     go_wp2
     go_ret
     exact ⟨fg,dr⟩
theorem Mc.calls (Gq:Option Addr)(G6:Nat)(pY:List ByteArray)(r:Bool)(w:World)(UZ:Kd.C Kd.string w Gq pY.length pY)(Tu:pY.length≤G6)(H:Mc.f pY=some r) :
  Calls Tryz.prog 67 #[.agg #[.slice Gq pY.length G6]] w fun e w'=>e=.returned (.bool r)∧Below w.heap.size w w':=by
 have Dy:=Tryz.underlying97;have acr:=am UZ;have ahK:=am Tu;clear UZ Tu;have HB:=am (Below.refl w.heap.size w);unfold Mc.f at H
 revert H;refine bH ?_ ?_
 ·intro gQ jE H
  revert H;refine qO ?_
  intro c3 aY H;have dS:decide (0<pY.length)=true:=decide_eq_true (by omega);clear c3;obtain rfl:=si H
  go_in
  go_wp2_with (first|((with_reducible refine aJ (N:=1) rfl ?_);refine bz 1 (cs:=#[.slice Gq pY.length G6]) (t:=97) HB ?_;clear HB;intro vE hg w4 eG Q6 hb HB;clear hb hg;have BQ:=vB eG;have p8:0≤(0:Int):=(by omega);have q8:0<(pY.length:Int):=oa;obtain ⟨YF,e8,DJ⟩:=Kd.jw acr.o 0 p8 q8;cases e8;have qi8:(0<pY.length)=True:=eq_true (by omega);(try rw [show ((0:Int)).toNat=0 from rfl] at DJ);(try rw [Addr.add_zero'] at DJ);replace DJ:=cb HB DJ;replace p8:=eq_true p8;replace q8:=eq_true q8))
  go_ret
  exact ⟨ff,bs HB⟩
 ·intro c2 gQ jE H;obtain rfl:=si H
  go_in
  go_wp2_with (first|((with_reducible refine aJ (N:=1) rfl ?_);refine bz 1 (cs:=#[.slice Gq pY.length G6]) (t:=97) HB ?_;clear HB;intro vE hg w6 eG Q6 hb HB;clear hb hg;have BS:=vB eG))
  go_ret
  exact ⟨ff,bs HB⟩
theorem iZ.calls (k:Nat)(ag:ByteArray)(gN:Option Addr)(fZ:Nat)(aN:List bN)(r:Bool)(w:World)(lW:Kd.C jO w gN aN.length aN)(lV:aN.length≤fZ)(H:iZ.f k ag aN=some r) :
  Calls Tryz.prog 33 #[.agg #[.string ag,.slice gN aN.length fZ]] w fun e w'=>e=.returned (.bool r)∧Below w.heap.size w w':=by
 have r9:=Tryz.underlying62;have Dy:=Tryz.underlying97;have lZ:=am lW;have uu:=am lV;clear lW lV;have HB:=am (Below.refl w.heap.size w);unfold iZ.f at H;have lY:=am H;clear H
 go_in
 go_upto_region 1 with (first|((with_reducible refine aJ (N:=1) rfl ?_);(try (refine jc (by rfl) ?_;dsimp only));refine bz 1 (cs:=#[.string ag,.slice gN aN.length fZ]) (t:=62) HB ?_;clear HB;intro E9 hg w3 kS Q4 hb HB;clear hb hg))
 (try simp only [Act.put,List.setIfInBounds_toArray,List.set_cons_zero,List.set_cons_succ])
 go_cut [15] (fun v15 wc=>∃ (kq:Nat) (Gc:Bool),v15=.bool Gc∧af (iZ.j0 kq Gc ag aN=some r)∧af (kq≤k)∧af (wc.heap[E9]? = some (.cells #[.string ag,(.slice gN aN.length fZ)] 62 (0,0)))∧af (Below w.heap.size w wc))
 case first =>
  have H:=lY.o;clear lY;replace H:=bo H;obtain ⟨t37,A4,H⟩:=H;have BQ:=fM kS
  try go_wp2_with (fail)
  go_at_call 65;refine (wV.calls k ag t37 _ A4.o).mono ?_;rintro e w' ⟨rfl,⟨nd,rfl⟩⟩
  obtain rfl|rfl:=bt t37
  ·replace H:=dm H;have H':=am H;clear H;have BS:=fM kS
   go_wp2
   go_meet
   case rel=>exact ⟨_,(decide ((aN.length:Int)>10)),fg,H',⟨fl⟩,⟨ks kS⟩,⟨bs HB⟩⟩
  ·replace H:=di H;have H':=am H;clear H
   go_wp2
   go_meet
   case rel=>exact ⟨_,(true),fg,H',⟨fl⟩,⟨ks kS⟩,⟨bs HB⟩⟩
 case rest =>
  clear lY
  obtain ⟨kq,Gc,rfl,HA,iL,kS,HB⟩:=hcut
  cases kq with
  | zero=>exact absurd HA.o (by simp [iZ.j0])
  | succ mV =>
   have H:=HA.o;clear HA;simp only [iZ.j0] at H
   obtain rfl|rfl:=bt Gc
   ·replace H:=dm H;obtain rfl:=si H
    go_wp2
    go_ret
    exact ⟨ff,bs HB⟩
   ·replace H:=di H;have H':=am H;clear H
    go_wp2
    go_loopg [3] mV (fun kq v3 w'=>∃ (bF:Int),v3=.int .i64 bF∧af (iZ.l0 kq bF ag aN=some r)∧af (kq≤mV)∧af (w'.heap[E9]? = some (.cells #[.string ag,(.slice gN aN.length fZ)] 62 (0,0)))∧af (Below w.heap.size w w'))
    case atStart=>exact ⟨(0),fg,H',⟨Nat.le_refl _⟩,⟨ks kS⟩,⟨bs HB⟩⟩
    case round =>
     clear H'
     try clear kS
     obtain ⟨bF,rfl,HA,dD,kS,HB⟩:=hrel
     cases gk with
     | zero=>exact absurd HA.o (by simp [iZ.l0])
     | succ k2 =>
      have H:=HA.o;clear HA;simp only [iZ.l0] at H
      revert H;refine bK ?_ ?_
      ·intro nN H
       revert H;refine bv ?_
       intro zi H;have JA:=am H;clear H;have Fe:=fM kS;obtain ⟨p6,q6,ad6,aDj,aEO,e6,VT,alH,ak9⟩:=wi (lN lZ.o bF)
       cases e6
       replace VT:=cb HB VT;have aie:=am ak9;have aDZ:=am alH;clear ak9 alH
       go_upto_region 7 with (fail)
       go_cut [50] (fun v50 wc=>∃ (kq:Nat) (abo:Bool),v50=.bool abo∧af (iZ.j2 kq bF ((aK aN bF).f0) abo ag aN=some r)∧af (kq≤k2)∧af (wc.heap[E9]? = some (.cells #[.string ag,(.slice (some ad6) aN.length fZ)] 62 (0,0)))∧af (Below w.heap.size w wc))
       case first =>
        have H:=JA.o;clear JA
        revert H;refine Ct ?_ ?_
        ·intro c13 mq H;have BG:decide (((aK aN bF).f0).length<1)=true:=decide_eq_true (by omega);clear c13
         (first|rw [mq]|(simp only [fC,gK];rw [mq])|rw [BG]|skip)
         have H':=am H;clear H
         go_wp2
         go_meet
         case rel=>exact ⟨_,(true),fg,H',⟨by have:=iL.o;have:=dD.o;first|omega|exact Nat.le_refl _⟩,⟨ks kS⟩,⟨bs HB⟩⟩
        ·intro c13 mq H;have BG:decide (((aK aN bF).f0).length<1)=false:=decide_eq_false (by omega);clear c13
         (first|rw [mq]|(simp only [fC,gK];rw [mq])|rw [BG]|skip)
         revert H;refine gT ?_ ?_
         ·intro c14 H;have ry:decide (4<(((aK aN bF).f0).length:Int))=true:=decide_eq_true c14;have N8:decide (4<((aK aN bF).f0).length)=true:=decide_eq_true (by omega);clear c14;have H':=am H;clear H
          go_wp2
          go_meet
          case rel=>exact ⟨_,(true),fg,H',⟨by have:=iL.o;have:=dD.o;first|omega|exact Nat.le_refl _⟩,⟨ks kS⟩,⟨bs HB⟩⟩
         ·intro c14 H;have ry:decide (4<(((aK aN bF).f0).length:Int))=false:=decide_eq_false c14;have N8:decide (4<((aK aN bF).f0).length)=false:=decide_eq_false (by omega);clear c14
          revert H;refine gT ?_ ?_
          ·intro c15 H;have vX:decide (1<(((aK aN bF).f0).length:Int))=true:=decide_eq_true c15;have Kq:decide (1<((aK aN bF).f0).length)=true:=decide_eq_true (by omega);clear c15;obtain ⟨Pt,ZQ⟩:∃ j_:Int,(wrap64 ((((aK aN bF).f0).length:Int) - 1))=j_:=⟨_,rfl⟩
           replace H:(if 0≤(Pt) then (if (Pt)<(((aK aN bF).f0).length:Int) then (iZ.j2 k2 bF ((aK aN bF).f0) ((bA ByteArray.empty ((aK aN bF).f0) (Pt)).toList == ([]:List UInt8)) ag aN) else none) else none)=some r:=by first|(rw [ZQ] at H;exact H)|(simp only [ZQ] at H ⊢;exact H)
           have aH1:(IntKind.i64.wrap ((((aK aN bF).f0).length:Int) - 1))=Pt:=(fC _).trans ZQ
           revert H;refine bv ?_
           intro qD H
           revert H;refine bv ?_
           intro xk H;have H':=am H;clear H;obtain ⟨p34,PK,aEf,e34,amB⟩:=wi (Kd.jw aie.o (Pt))
           cases e34
           replace amB:=cb HB amB
           go_wp2
           go_meet
           case rel=>exact ⟨_,(((bA ByteArray.empty ((aK aN bF).f0) (Pt)).toList == ([]:List UInt8))),(by first|rfl|(simp;done)|(simp only [← ZQ] <;> (first|rfl|simp))|(simp [*];done)),H',⟨by have:=iL.o;have:=dD.o;first|omega|exact Nat.le_refl _⟩,⟨ks kS⟩,⟨bs HB⟩⟩
          ·intro c15 H;have vX:decide (1<(((aK aN bF).f0).length:Int))=false:=decide_eq_false c15;have Kq:decide (1<((aK aN bF).f0).length)=false:=decide_eq_false (by omega);clear c15;have H':=am H;clear H
           go_wp2
           go_meet
           case rel=>exact ⟨_,(false),fg,H',⟨by have:=iL.o;have:=dD.o;first|omega|exact Nat.le_refl _⟩,⟨ks kS⟩,⟨bs HB⟩⟩
       case rest =>
        clear JA
        try clear nN
        try clear zi
        try clear Fe
        try clear VT
        try clear p6
        try clear q6
        obtain ⟨kq,abo,rfl,HA,Ew,kS,HB⟩:=hcut
        cases kq with
        | zero=>exact absurd HA.o (by simp [iZ.j2])
        | succ FN =>
         have H:=HA.o;clear HA;simp only [iZ.j2] at H
         obtain rfl|rfl:=bt abo
         ·replace H:=dm H;obtain rfl:=si H
          go_wp2
          go_ret
          exact ⟨ff,bs HB⟩
         ·replace H:=di H;have H':=am H;clear H
          go_wp2
          go_loopg [5] FN (fun kq v5 w'=>∃ (og:Int),v5=.int .i64 og∧af (iZ.l1 kq bF ((aK aN bF).f0) og ag aN=some r)∧af (kq≤FN)∧af (w'.heap[E9]? = some (.cells #[.string ag,(.slice (some ad6) aN.length fZ)] 62 (0,0)))∧af (Below w.heap.size w w'))
          case atStart=>exact ⟨(0),fg,H',⟨Nat.le_refl _⟩,⟨ks kS⟩,⟨bs HB⟩⟩
          case round =>
           clear H'
           try clear nN
           try clear zi
           try clear Fe
           try clear VT
           try clear p6
           try clear q6
           try clear kS
           obtain ⟨og,rfl,HA,vU,kS,HB⟩:=hrel
           cases gk with
           | zero=>exact absurd HA.o (by simp [iZ.l1])
           | succ k4 =>
            have H:=HA.o;clear HA;simp only [iZ.l1] at H
            revert H;refine bK ?_ ?_
            ·intro vY H
             revert H;refine bv ?_
             intro zm H;replace H:=bo H;obtain ⟨t38,Ej,H⟩:=H;obtain ⟨p35,q35,ai7,e35,O3⟩:=wi (Kd.jw aie.o og)
             cases e35
             replace O3:=cb HB O3
             try go_wp2_with (fail)
             go_at_call 66;refine (ui.calls k4 (bA ByteArray.empty ((aK aN bF).f0) og) t38 _ Ej.o).mono ?_;rintro e w' ⟨rfl,⟨nd,rfl⟩⟩
             obtain rfl|rfl:=bt t38
             ·replace H:=dm H;have H':=am H;clear H
              go_wp2
              go_roundg k4
              case measure=>have:=iL.o;have:=dD.o;have:=Ew.o;have:=vU.o;omega
              case rel=>exact ⟨(wrap64 (og+1)),fg,H',⟨by have:=iL.o;have:=dD.o;have:=Ew.o;have:=vU.o;omega⟩,⟨ks kS⟩,⟨bs HB⟩⟩
             ·replace H:=di H;obtain rfl:=si H
              go_wp2
              go_ret
              exact ⟨ff,bs HB⟩
            ·intro vY H;have H':=am H;clear H
             go_wp2
             go_roundg k4
             case measure=>have:=iL.o;have:=dD.o;have:=Ew.o;have:=vU.o;omega
             case rel=>exact ⟨(wrap64 (bF+1)),fg,H',⟨by have:=iL.o;have:=dD.o;have:=Ew.o;have:=vU.o;omega⟩,⟨ks kS⟩,⟨bs HB⟩⟩
      ·intro nN H
       revert H;refine bH ?_ ?_
       ·intro vZ Kr H;obtain rfl:=si H;have ad5:=fM kS
        go_wp2
        go_ret
        exact ⟨ff,bs HB⟩
       ·intro c24 vZ Kr H
        have ajE:¬ (aN=[]):=fun h_=>c24 (by rw [h_];rfl)
        obtain ⟨IA,ZT⟩:∃ j_:Int,(wrap64 ((aN.length:Int) - 1))=j_:=⟨_,rfl⟩
        replace H:(if 0≤(IA) then (if (IA)<(aN.length:Int) then ((Mc.f ((aK aN (IA)).f0)).bind fun t36=>(some (!t36))) else none) else none)=some r:=by first|(rw [ZT] at H;exact H)|(simp only [ZT] at H ⊢;exact H)
        have aH4:(IntKind.i64.wrap ((aN.length:Int) - 1))=IA:=(fC _).trans ZT
        by_cases yl:0≤(IA)
        ·rw [if_pos yl] at H;have Kt:decide (0≤(IA))=true:=decide_eq_true yl;clear yl
         revert H;refine bv ?_
         intro ajF H;replace H:=bo H;obtain ⟨t36,A29,H⟩:=H;obtain rfl:=si H;have akB:=fM kS;obtain ⟨p23,q23,aEb,aC6,aEx,e23,amx,alo,akR⟩:=wi (lN lZ.o (IA))
         cases e23
         replace amx:=cb HB amx;have aqU:=am akR;have apW:=am alo;clear akR alo
         go_wp2_with (first|(go_at_call 67;refine (Mc.calls _ _ ((aK aN (IA)).f0) t36 _ (Kd.bi aqU.o (bs HB)) apW.o A29.o).mono ?_;rintro e MP ⟨rfl,hb⟩;replace kS:=bb kS hb;replace HB:=bq HB hb;(try clear hb)))
         go_ret
         exact ⟨by first|rfl|(simp [qF,qG] <;> rfl)|(simp only [← ZT];first|rfl|(simp [qF,qG] <;> rfl))|(simp [*,qF,qG] <;> rfl),bs HB⟩
        ·rw [if_neg yl] at H
         exact absurd H (by simp)
end Go.Proofs.YtapilmimgiaglaaGreatDoor.QX
