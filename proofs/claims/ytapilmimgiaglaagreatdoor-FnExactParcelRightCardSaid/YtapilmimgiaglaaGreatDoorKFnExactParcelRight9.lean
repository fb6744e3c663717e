-- Merged by a program of this session (wip/tool/pack.py) out of its own texts for this claim.
import Derived.Test.YtapilmimgiaglaaGreatDoorKFnExactParcelRight8
set_option maxHeartbeats 8000000
set_option maxRecDepth 100000
set_option linter.unusedSimpArgs false
set_option linter.unusedVariables false
namespace Go.Proofs.YtapilmimgiaglaaGreatDoor.QA
open Go.RowKit Go.Proofs.bB.fA Go.Proofs.bB.PrintLast Go.Proofs.bB.PrintMore
attribute [local go_sem] o6 pg o9 pE o8 pz o7 pq   -- for this text's walks alone
def fB.T3:Bool × List (List Nat × List Nat):=(true,[([],[]),([0],[0]),([],[]),([2],[2]),([],[]),([4],[4]),([5],[5]),([1,3,6],[1,3,6]),([7,6,0,1,2,3,4,5,6,7],[7])])
def fB.B3:List Nat:=[0,1,0,4,0,16,48,127,255]
theorem fB.Tv:fJ .any (opsOf Tryz.f32 3)=fB.T3:=by kernel_rfl
theorem fB.OZ:iY fB.T3.2 fB.B3=true:=by kernel_rfl
def fB.sK:Bool × List (List Nat × List Nat):=(true,[([],[]),([],[]),([1],[1]),([],[]),([3],[3]),([],[]),([4,5],[4,5]),([6],[6]),([2,7],[2,7]),([8],[8]),([0,9,8],[0,9]),([10,10,0,1,2,3,4,5,6,7,8,9,10],[0,10])])
def fB.zh:List Nat:=[0,0,2,0,8,0,56,120,254,510,1023,2047]
theorem fB.wP:fJ .any (opsOf Tryz.f32 12)=fB.sK:=by kernel_rfl
theorem fB.vY:iY fB.sK.2 fB.zh=true:=by kernel_rfl
theorem fB.CF (k:Nat) (ag:Int) (aj:ByteArray) (ak:ByteArray) (aD:Int) (bY:Option Addr) (bW:Nat) (ay:List ByteArray) (df:Option Addr) (bR:Nat) (ah:List (aY)) (r:List (bA)) (w:World) (ko:Kd.C Kd.string w bY ay.length ay) (j6:ay.length≤bW) (kr:Kd.C iR w df ah.length ah) (kg:ah.length≤bR) (H:fB.f k ag aj ak aD ay ah=some r) :
  Calls Tryz.prog 32 #[.agg #[.int .i64 ag,.string aj,.string ak,.int .i64 aD,.slice bY ay.length bW,.slice df ah.length bR]] w fun e w'=>∃ kT:Value,e=.returned (kT)∧Kd.S qW 62 w' w.heap.size (fun k_=>(w.heap.size≤k_)) kT r∧Below w.heap.size w w':=by
 have uX:=Tryz.underlying45;have Bh:=Tryz.underlying95;have ng:=af.mk ko;have pR:=af.mk j6;clear ko j6;have lW:=af.mk kr;have oM:=af.mk kg;clear kr kg;have HB:=af.mk (Below.refl w.heap.size w);unfold fB.f at H;replace H:=bo H;obtain ⟨t233,A2,H⟩:=H;obtain ⟨aei,aca⟩:∃ y_:List ByteArray,y_=(([aj,t233]:List ByteArray)):=⟨_,rfl⟩
 replace H:((Bz.f ag).bind fun M4=>(if M4=true then ((fw.f k aD).bind fun BG=>(fB.j0 k (([aj,ak,BG]:List ByteArray)) ag aj ak aD ay ah)) else (fB.j0 k aei ag aj ak aD ay ah)))=some r:=ye aca H
 have afB:=af.mk aca;clear aca;replace H:=bo H;obtain ⟨M4,A3,H⟩:=H
 go_in
 try go_wp2_with (first|((with_reducible refine aN (N:=1) rfl ?_);refine bx 1 (cs:=#[.int .i64 ag,.string aj,.string ak,.int .i64 aD,.slice bY ay.length bW,.slice df ah.length bR]) (t:=45) ?_;intro oV hg w4 hbox hb;have dQ:=af.mk (hbox);have az6:=af.mk ((gs hg (bs HB)));have azX:=af.mk ((gs hg (bs HB)));replace HB:=af.mk (fF (bs HB) hb);clear hb hbox hg))
 replace dQ:=af.mk (bg dQ.out);replace HB:=af.mk (cO HB.out);refine il 7 (hb6 dQ) (fun hHeld=>?_)
 generalize w4.drew=w5 at dQ HB hHeld ⊢
 refine MN (i:=0) (N:=some 7) (v:=?_) (a':=?_) #[true,false,false,false,false,false,false] rfl rfl (by kernel_rfl) (fun _ _ _ h=>h) (Or.inl ⟨by rfl,?_⟩) ?_ ?_
 rotate_left
 ·intro w'
  go_simp
  (with_reducible rfl)
 rotate_left
 ·simp only [Act.put,List.setIfInBounds_toArray,List.set_cons_zero,List.set_cons_succ,fu,gy]
  rfl
 refine MN (i:=2) (N:=some 9) (v:=?_) (a':=?_) #[true,false,true,false,false,false,false] rfl rfl (by kernel_rfl) (fun _ _ _ h=>h) (Or.inl ⟨by rfl,?_⟩) ?_ ?_
 rotate_left
 ·intro w'
  go_simp
  (with_reducible rfl)
 rotate_left
 ·simp only [Act.put,List.setIfInBounds_toArray,List.set_cons_zero,List.set_cons_succ,fu,gy]
  rfl
 refine JK (i:=1) (N:=some 8) (v:=?_) (a':=?_) #[true,true,true,false,false,false,false] rfl rfl (by kernel_rfl) (fun _ _ _ h=>h) (Or.inl ⟨by rfl,?_⟩) hHeld ?_ ?_
 rotate_left
 ·rintro w' ⟨s0,s1,s2,s3,s4,s5⟩
  go_simp
  (with_reducible rfl)
 rotate_left
 ·simp only [Act.put,List.setIfInBounds_toArray,List.set_cons_zero,List.set_cons_succ,fu,gy]
  rfl
 refine JK (i:=3) (N:=some 10) (v:=?_) (a':=?_) #[true,true,true,true,false,false,false] rfl rfl (by kernel_rfl) (fun _ _ _ h=>h) (Or.inl ⟨by rfl,?_⟩) hHeld ?_ ?_
 rotate_left
 ·rintro w' ⟨s0,s1,s2,s3,s4,s5⟩
  go_simp
  (with_reducible rfl)
 rotate_left
 ·simp only [Act.put,List.setIfInBounds_toArray,List.set_cons_zero,List.set_cons_succ,fu,gy]
  rfl
 refine nG (i:=4) (N:=some 11) #[true,true,true,true,true,false,false] rfl rfl (by kernel_rfl) (by decide) (fun K hK=>?_);refine gA Tryz.func61 #[.int .i64 aD] ?_;(with_reducible refine (fw.calls k aD t233 _ A2.out).mono ?_);rintro e w6 ⟨rfl,hb⟩;refine ⟨_,rfl,?_⟩;replace dQ:=af.mk (aZ (ks dQ) hb);replace HB:=af.mk (fF (bs HB) hb);(try clear hb);(try clear hb2);(try clear hk);(try clear hi);refine hK.out _ _ (hb6 dQ).out (fun hHeld=>?_);clear hK K;refine nA 11 ?_;refine nG (i:=5) (N:=some 12) #[true,true,true,true,true,true,false] rfl rfl (by kernel_rfl) (by decide) (fun K hK=>?_);refine Kd.yh Kd.string _ 9 ?hg (N:=12) ?hd (xs:=([aj,t233]:List ByteArray)) (inner:=[.string aj,.string t233]) (ok:=fun _=>True) (okp:=fun _=>True) ?hr ?hp (fun _ hk=>hk) trivial (Below.refl _ _) (Nat.le_refl _) (by simp) ?_;(case hd=>rfl);(case hg=>rfl);(case hr=>first|(go_simp;done)|(go_simp;rfl));(case hp=>exact (aQ.one (show Kd.M Kd.string _ _ _ aj [.string aj] from rfl) (aQ.one (show Kd.M Kd.string _ _ _ t233 [.string t233] from rfl) (aQ.none _ _))));intro ayW w7 Q4 hb hg_ hnew_;clear hg_ hnew_
 (first|rw [← afB.out] at Q4|(simp only [Int.reduceToNat] at Q4;rw [← afB.out] at Q4))
 have yg:=af.mk (Kd.gU (Kd.KL (M:=fun k_=>(w.heap.size≤k_)) Q4 (bC (bs HB)) (fun k_ h_=>h_)) (bC (bs HB)));replace dQ:=af.mk (aZ (ks dQ) hb);replace HB:=af.mk (fF (bs HB) hb);clear hb Q4;refine hK.out _ _ (hb6 dQ).out (fun hHeld=>?_);clear hK K;refine nA 12 ?_;refine MN (i:=6) (N:=some 3) (v:=?_) (a':=?_) #[true,true,true,true,true,true,true] rfl rfl (by kernel_rfl) (fun _ _ _ h=>h) (Or.inl ⟨by rfl,?_⟩) ?_ ?_
 rotate_left
 ·intro w'
  go_simp
  (with_reducible rfl)
 rotate_left
 ·simp only [Act.put,List.setIfInBounds_toArray,List.set_cons_zero,List.set_cons_succ,fu,gy]
  rfl
 refine fq (by kernel_rfl) ?_;have CS:=dC dQ
 try go_wp2_with (fail)
 go_at_call 62;(with_reducible refine (Bz.calls ag M4 _ A3.out).mono ?_);rintro e w' ⟨rfl,⟨nd,rfl⟩⟩;have Y3:=af.mk H;clear H
 go_upto_if 15 with (fail)
 go_cut [3] (fun v3 wc=>∃ (kq:Nat) (BQ:List ByteArray),af (fB.j0 kq BQ ag aj ak aD ay ah=some r)∧af (kq≤k)∧af (Kd.R Kd.string 9 wc w.heap.size (fun k_=>(w.heap.size≤k_)) v3 BQ)∧af (wc.heap[oV]? = some (.cells #[.int .i64 ag,.string aj,.string ak,.int .i64 aD,(.slice bY ay.length bW),(.slice df ah.length bR)] 45 (0,0)))∧af (Below w.heap.size w wc))
 case first =>
  have H:=Y3.out;clear Y3
  obtain rfl|rfl:=bt M4
  ·replace H:=dE H;replace H:=bo H;obtain ⟨BG,vQ,H⟩:=H;obtain ⟨alU,acb⟩:∃ y_:List ByteArray,y_=(([aj,ak,BG]:List ByteArray)):=⟨_,rfl⟩
   replace H:(fB.j0 k alU ag aj ak aD ay ah)=some r:=ye acb H
   have afC:=af.mk acb;clear acb;have H':=af.mk H;clear H
   try go_wp2
   (try (rw [arD w7];generalize hq_:World.drewN w7 _=w7;have bP:af (Kd.R Kd.string 9 w7 w.heap.size (fun k_=>(w.heap.size≤k_)) ayW aei):=⟨by rw [← hq_];exact (by (with_reducible repeat (first|apply Kd.jW|apply Kd.jk|apply Kd.dY));exact Kd.dI yg.out (fun _ hk=>hk.1))⟩;have bQ:af (w7.heap[oV]? = some (.cells #[.int .i64 ag,.string aj,.string ak,.int .i64 aD,.slice bY ay.length bW,.slice df ah.length bR] 45 (0,0))):=⟨by rw [← hq_];exact (ks dQ)⟩;have bU:af (Below w.heap.size w w7):=⟨by rw [← hq_];exact (bs HB)⟩;clear yg dQ HB hq_;have yg:=bP;have dQ:=bQ;have HB:=bU;clear bP bQ bU))
   replace yg:=af.mk (Kd.dY yg.out);replace dQ:=af.mk (bg dQ.out);replace HB:=af.mk (cO HB.out);refine il 9 (hb6 dQ) (fun hHeld=>?_);refine gq fB.Tv fB.OZ (fun HT_ HW_=>?_)
   generalize w7.drew=vO at yg dQ HB hHeld ⊢
   refine pA 0 16 HT_ ?_;refine pA 2 18 HT_ ?_;refine pA 4 20 HT_ ?_;refine tA 1 17 HT_ HW_ hHeld ?_;refine tA 3 19 HT_ HW_ hHeld ?_;refine tA 5 21 HT_ HW_ hHeld ?_;refine oA 6 22 HT_ (fun K hK=>?_);refine gA Tryz.func61 #[.int .i64 aD] ?_;(with_reducible refine (fw.calls k aD BG _ vQ.out).mono ?_);rintro e vP ⟨rfl,hb⟩;refine ⟨_,rfl,?_⟩;replace yg:=af.mk (Kd.dK (rs yg) hb);replace dQ:=af.mk (aZ (ks dQ) hb);replace HB:=af.mk (fF (bs HB) hb);(try clear hb);(try clear hb2);(try clear hk);(try clear hi);refine hK.out _ _ (hb6 dQ).out (fun hHeld=>?_);clear hK K;refine nA 22 ?_;refine oA 7 23 HT_ (fun K hK=>?_);refine Kd.yh Kd.string _ 9 ?hg (N:=23) ?hd (xs:=([aj,ak,BG]:List ByteArray)) (inner:=[.string aj,.string ak,.string BG]) (ok:=fun _=>True) (okp:=fun _=>True) ?hr ?hp (fun _ hk=>hk) trivial (Below.refl _ _) (Nat.le_refl _) (by simp) ?_;(case hd=>rfl);(case hg=>rfl);(case hr=>first|(go_simp;done)|(go_simp;rfl));(case hp=>exact (aQ.one (show Kd.M Kd.string _ _ _ aj [.string aj] from rfl) (aQ.one (show Kd.M Kd.string _ _ _ ak [.string ak] from rfl) (aQ.one (show Kd.M Kd.string _ _ _ BG [.string BG] from rfl) (aQ.none _ _)))));intro aII DJ LA hb hg_ hnew_;clear hg_ hnew_
   (first|rw [← afC.out] at LA|(simp only [Int.reduceToNat] at LA;rw [← afC.out] at LA))
   have anm:=af.mk (Kd.gU (Kd.Cq (Kd.KL (M:=fun k_=>(w.heap.size≤k_)) LA (bC (bs HB)) (fun k_ h_=>h_)) (Kd.jX (rs yg))) (bC (bs HB)));replace yg:=af.mk (Kd.Co (rs yg) (Kd.oO LA) hb);replace dQ:=af.mk (aZ (ks dQ) hb);replace HB:=af.mk (fF (bs HB) hb);clear hb LA;refine hK.out _ _ (hb6 dQ).out (fun hHeld=>?_);clear hK K;refine nA 23 ?_;refine pA 8 3 HT_ ?_;refine fq (gp HT_.out (by kernel_rfl)) ?_
   try go_wp2
   go_meet
   case rel=>exact ⟨_,(alU),H',⟨fl⟩,⟨by (with_reducible repeat (first|apply Kd.jW|apply Kd.jk|apply Kd.dY));exact Kd.dI anm.out (fun _ hk=>hk.1.1)⟩,⟨ks dQ⟩,⟨bs HB⟩⟩
  ·replace H:=dD H;have H':=af.mk H;clear H
   go_wp2
   go_meet
   case rel=>exact ⟨_,(aei),H',⟨fl⟩,⟨by (with_reducible repeat (first|apply Kd.jW|apply Kd.jk|apply Kd.dY));exact Kd.dI yg.out (fun _ hk=>hk.1)⟩,⟨ks dQ⟩,⟨bs HB⟩⟩
 case rest =>
  clear Y3
  try clear CS
  obtain ⟨kq,BQ,HA,UE,gu,dQ,HB⟩:=hcut
  cases kq with
  | zero=>exact absurd HA.out (by simp [fB.j0])
  | succ Sv =>
   have H:=HA.out;clear HA;simp only [fB.j0] at H;replace H:=bo H;obtain ⟨⟨S9,Ta⟩,Gn,H⟩:=H;(try dsimp only at H);obtain ⟨alV,acd⟩:∃ y_:List (bA),y_=(([(⟨S9,Ta⟩:bA)]:List (bA))):=⟨_,rfl⟩
   replace H:(fB.l0 Sv alV 0 ag aj ak aD ay ah)=some r:=ye acd H
   have afD:=af.mk acd;clear acd;have H':=af.mk H;clear H;obtain ⟨Kh,K9,aa7⟩:=Kd.iy gu.out;subst aa7
   go_wp2_with (first|((first|((with_reducible refine PM (f:=63) rfl ?_);refine PT (some 25) rfl rfl Tryz.func63 (by kernel_rfl) rfl #[.string (⟨#[68,79,67]⟩:ByteArray),.slice Kh BQ.length K9] rfl (by (try simp only [List.map_toArray,List.map_cons,List.map_nil]);first|done|rfl|(simp only [List.length_drop,List.length_take];rfl)) ?_;(with_reducible refine (gI.calls Sv (⟨#[68,79,67]⟩:ByteArray) _ _ BQ S9 Ta _ ?aI ?aW Gn.out).mono ?_);(case aI=>repeat (first|exact (Kd.dU gu.out).2.2|(with_reducible refine Kd.pM ?_ _)|(with_reducible refine Kd.pQ ?_ _)|(with_reducible refine Kd.pO ?_)));(case aW=>exact (Kd.dU gu.out).2.1);rintro e pG ⟨ayX,rfl,ho0,hb⟩;refine ⟨_,rfl,?_⟩)|(go_at_call 63;(with_reducible refine (gI.calls Sv (⟨#[68,79,67]⟩:ByteArray) _ _ BQ S9 Ta _ ?aI ?aW Gn.out).mono ?_);(case aI=>repeat (first|exact (Kd.dU gu.out).2.2|(with_reducible refine Kd.pM ?_ _)|(with_reducible refine Kd.pQ ?_ _)|(with_reducible refine Kd.pO ?_)));(case aW=>exact (Kd.dU gu.out).2.1);rintro e pG ⟨ayX,rfl,ho0,hb⟩));have ZA:=af.mk (Kd.mJ (Kd.fU (ok':=fun k_=>(w.heap.size≤k_)∧some k_≠(.slice Kh BQ.length K9:Value).ownBlock∧k_≠oV) (Kd.uf ho0) (fun k_ hk_=>⟨(Nat.le_trans (bC (bs HB)) hk_.2.1),(Kd.fresh' (Kd.jX (rs gu)) k_ hk_.2.1),(Kd.sU (g:=oV) (o:=.cells #[.int .i64 ag,.string aj,.string ak,.int .i64 aD,.slice bY ay.length bW,.slice df ah.length bR] 45 (0,0)) (ks dQ) k_ hk_.2.1)⟩)) (bC (bs HB)));replace gu:=af.mk (Kd.dK (rs gu) hb);replace dQ:=af.mk (aZ (ks dQ) hb);replace HB:=af.mk (fF (bs HB) hb);(try clear hb);(try clear hb2);(try clear hk);(try clear hi);(try clear ho0);obtain ⟨zg,yt,H5⟩:=Kd.kI ZA.out;subst H5)|((with_reducible refine aN (N:=26) rfl ?_);refine Kd.af5 qW (w0:=w) w.heap.size 62 ?hg (N:=26) ?hd (xs:=([(⟨S9,Ta⟩:bA)]:List (bA))) (inner:=[.string S9,.slice zg Ta.length yt]) (ok:=(fun k_=>(w.heap.size≤k_)∧some k_≠(.slice Kh BQ.length K9:Value).ownBlock∧k_≠oV)) (fun j_ k_=>j_=0∧(fun k_=>(w.heap.size≤k_)∧some k_≠(.slice Kh BQ.length K9:Value).ownBlock∧k_≠oV) k_) ?hr rfl ?hp (fun _ _ _ h1 h2=>h1.1.trans h2.1.symm) (fun _ _ h=>h.2) ((show ∀ k_,pG.heap.size≤k_→(fun k_=>(w.heap.size≤k_)∧some k_≠(.slice Kh BQ.length K9:Value).ownBlock∧k_≠oV) k_ from fun k_ hk=>⟨(Nat.le_trans (bC (bs HB)) hk),Kd.fresh' (Kd.jX (rs gu)) k_ hk,Kd.sU (g:=oV) (o:=.cells #[.int .i64 ag,.string aj,.string ak,.int .i64 aD,.slice bY ay.length bW,.slice df ah.length bR] 45 (0,0)) (ks dQ) k_ hk⟩) _ (Nat.le_refl _)) (bs HB) (bC (bs HB)) (by simp) ?_;(case hd=>rfl);(case hg=>rfl);(case hr=>first|(go_simp;done)|(go_simp;rfl));(case hp=>intro j_ x_ hx_;rcases j_ with _|j_;(obtain rfl:=Option.some.inj hx_;exact ⟨_,rfl,Kd.fU ZA.out (fun k_ hk=>⟨rfl,⟨hk.1,⟨hk.2.1,hk.2.2⟩⟩⟩)⟩);exact absurd hx_ (by simp));intro aIJ Ah QU hb hg_ hnew_;clear hnew_;(first|rw [← afD.out] at QU|(simp only [Int.reduceToNat] at QU;rw [← afD.out] at QU));have bP:=True.intro;have bQ:=af.mk QU;have bU:=af.mk (fG (ks dQ) hg_ (fun e_=>nomatch e_));have gW:=af.mk hb;clear gu;clear dQ;clear HB;clear ZA;have gu:=bP;have ann:=bQ;have dQ:=bU;have HB:=gW;clear bP bQ bU gW;clear hb QU hg_))
   go_loopg [4,5] Sv (fun kq v4 v5 w'=>∃ (lU:List (bA)) (eG:Int),v5=.int .i64 eG∧af (fB.l0 kq lU eG ag aj ak aD ay ah=some r)∧af (kq≤Sv)∧af (Kd.S qW 62 w' w.heap.size (fun k_=>(w.heap.size≤k_)∧k_≠oV) v4 lU)∧af (w'.heap[oV]? = some (.cells #[.int .i64 ag,.string aj,.string ak,.int .i64 aD,(.slice bY ay.length bW),(.slice df ah.length bR)] 45 (0,0)))∧af (Below w.heap.size w w'))
   case atStart=>exact ⟨(alV),(0),fg,H',⟨Nat.le_refl _⟩,⟨by (with_reducible repeat (first|apply Kd.fD|apply Kd.fE|apply Kd.dV));exact Kd.fU ann.out (fun _ hk=>⟨hk.1,hk.2.2⟩)⟩,⟨ks dQ⟩,⟨bs HB⟩⟩
   case round =>
    clear H'
    try clear c2
    try clear CS
    try clear dQ
    obtain ⟨lU,eG,rfl,HA,cz,fQ,dQ,HB⟩:=hrel
    cases gk with
    | zero=>exact absurd HA.out (by simp [fB.l0])
    | succ k2 =>
     have H:=HA.out;clear HA;simp only [fB.l0] at H
     revert H;refine cB ?_ ?_
     ·intro ED H
      revert H;refine bu ?_
      intro uj H;obtain ⟨Ka,ace⟩:∃ y_:List ByteArray,y_=(([aX ByteArray.empty ay eG]:List ByteArray)):=⟨_,rfl⟩
      replace H:((gI.f k2 (⟨#[78,79,84]⟩:ByteArray) Ka).bind fun O0=>(if lU.length<3518437208883 then (fB.l0 k2 (lU++[(⟨O0.1,O0.2⟩:bA)]) (wrap64 (eG+1)) ag aj ak aD ay ah) else (none)))=some r:=ye ace H
      have afE:=af.mk ace;clear ace;replace H:=bo H;obtain ⟨⟨Tc,Td⟩,Kg,H⟩:=H;(try dsimp only at H)
      revert H;refine jE ?_
      intro c26 H;have aoq:=af.mk c26;clear c26;obtain ⟨alW,acf⟩:∃ y_:List (bA),y_=(lU++[(⟨Tc,Td⟩:bA)]):=⟨_,rfl⟩
      replace H:(fB.l0 k2 alW (wrap64 (eG+1)) ag aj ak aD ay ah)=some r:=ye acf H
      have ao5:=af.mk acf;clear acf;have H':=af.mk H;clear H;have PX:=dC dQ;have ac5:0≤(eG:Int):=oa;have adg:eG<(ay.length:Int):=oa;obtain ⟨aga,e249,ajL⟩:=Kd.iZ ng.out eG ac5 adg
      cases e249
      replace ajL:=cb HB ajL;replace ac5:=eq_true ac5;replace adg:=eq_true adg
      go_wp2_with (first|((with_reducible refine aN (N:=40) rfl ?_);refine Kd.KI Kd.string _ 9 ?hg (N:=40) ?hd (xs:=([aX ByteArray.empty ay eG]:List ByteArray)) (inner:=[.string (aX ByteArray.empty ay eG)]) (ok:=fun _=>True) (okp:=fun _=>True) ?hr ?hp (fun _ hk=>hk) trivial (Below.refl _ _) (Nat.le_refl _) (by simp) ?_;(case hd=>rfl);(case hg=>rfl);(case hr=>first|(go_simp;done)|(go_simp;rfl));(case hp=>exact (aQ.one (show Kd.M Kd.string _ _ _ (aX ByteArray.empty ay eG) [.string (aX ByteArray.empty ay eG)] from rfl) (aQ.none _ _)));intro aIK JQ LD hb hg_ hnew_;clear hg_ hnew_;(first|rw [← afE.out] at LD|(simp only [Int.reduceToNat] at LD;rw [← afE.out] at LD));have bP:=af.mk (Kd.GY (by (with_reducible repeat (first|apply Kd.fD|apply Kd.fE|apply Kd.dV));exact fQ.out) (Kd.oO LD) hb);have bQ:=af.mk (Kd.gU (Kd.KL (M:=fun k_=>(w.heap.size≤k_)) LD (bC (bs HB)) (fun k_ h_=>h_)) (bC (bs HB)));have bU:=af.mk (aZ (ks dQ) hb);have gW:=af.mk (fF (bs HB) hb);clear fQ;clear dQ;clear HB;have fQ:=bP;have xk:=bQ;have dQ:=bU;have HB:=gW;clear bP bQ bU gW;clear hb LD;obtain ⟨Um,VT,asb⟩:=Kd.iy xk.out;subst asb)|((first|((with_reducible refine PM (f:=63) rfl ?_);refine PT (some 41) rfl rfl Tryz.func63 (by kernel_rfl) rfl #[.string (⟨#[78,79,84]⟩:ByteArray),.slice Um Ka.length VT] rfl (by (try simp only [List.map_toArray,List.map_cons,List.map_nil]);first|done|rfl|(simp only [List.length_drop,List.length_take];rfl)) ?_;(with_reducible refine (gI.calls k2 (⟨#[78,79,84]⟩:ByteArray) _ _ Ka Tc Td _ ?aI ?aW Kg.out).mono ?_);(case aI=>repeat (first|exact (Kd.dU xk.out).2.2|(with_reducible refine Kd.pM ?_ _)|(with_reducible refine Kd.pQ ?_ _)|(with_reducible refine Kd.pO ?_)));(case aW=>exact (Kd.dU xk.out).2.1);rintro e F7 ⟨ayY,rfl,ho0,hb⟩;refine ⟨_,rfl,?_⟩)|(go_at_call 63;(with_reducible refine (gI.calls k2 (⟨#[78,79,84]⟩:ByteArray) _ _ Ka Tc Td _ ?aI ?aW Kg.out).mono ?_);(case aI=>repeat (first|exact (Kd.dU xk.out).2.2|(with_reducible refine Kd.pM ?_ _)|(with_reducible refine Kd.pQ ?_ _)|(with_reducible refine Kd.pO ?_)));(case aW=>exact (Kd.dU xk.out).2.1);rintro e F7 ⟨ayY,rfl,ho0,hb⟩));have bP:=af.mk (U7 (by (with_reducible repeat (first|apply Kd.fD|apply Kd.fE|apply Kd.dV));exact fQ.out) (Kd.KO ho0) hb);have bQ:=af.mk (Kd.dK (rs xk) hb);have bU:=af.mk (Kd.mJ (Kd.fU (ok':=fun k_=>((w.heap.size≤k_)∧some k_≠(u4:Value).ownBlock∧some k_≠(.slice Um Ka.length VT:Value).ownBlock∧k_≠oV)∧JQ.heap.size≤k_) (Kd.uf ho0) (fun k_ hk_=>⟨⟨(Nat.le_trans (bC (bs HB)) hk_.2.1),(Kd.fresh' (Kd.KQ (by (with_reducible repeat (first|apply Kd.fD|apply Kd.fE|apply Kd.dV));exact fQ.out)) k_ hk_.2.1),(Kd.fresh' (Kd.jX (rs xk)) k_ hk_.2.1),(Kd.sU (g:=oV) (o:=.cells #[.int .i64 ag,.string aj,.string ak,.int .i64 aD,.slice (some aga) ay.length bW,.slice df ah.length bR] 45 (0,0)) (ks dQ) k_ hk_.2.1)⟩,hk_.2.1⟩)) (bC (bs HB)));have gW:=af.mk (aZ (ks dQ) hb);have l9:=af.mk (fF (bs HB) hb);clear fQ;clear xk;clear dQ;clear HB;have fQ:=bP;have xk:=bQ;have ZB:=bU;have dQ:=gW;have HB:=l9;clear bP bQ bU gW l9;(try clear hb);(try clear hb2);(try clear hk);(try clear hi);(try clear ho0);obtain ⟨Un,VU,Lb⟩:=Kd.kI ZB.out;subst Lb)|((with_reducible refine pX (b:=.append) (xs:=#[.tmp 34,.tmp 42]) rfl ?_);at_builtin;refine Kd.U6 qW (w0:=w) w.heap.size rfl (.tmp 34) (.tmp 42) 57 62 (.agg #[(.string ⟨#[]⟩),(.slice none 0 0)]) 40 rfl Tryz.underlying57 Sq rfl (by decide) (by omega) u4 lU (⟨Tc,Td⟩:bA) [.string Tc,.slice Un Td.length VU] (fun k_=>(w.heap.size≤k_)∧some k_≠(.slice Um Ka.length VT:Value).ownBlock∧k_≠oV) (fun k_=>(fun k_=>((fun k_=>(w.heap.size≤k_)∧some k_≠(.slice Um Ka.length VT:Value).ownBlock∧k_≠oV)) k_∧some k_≠(u4:Value).ownBlock) k_∧JQ.heap.size≤k_) rfl rfl ?aP (fun _ hk=>hk.1) ?aF ?aO ?aB ?aS ?aL ?_;(case aP=>exact ⟨_,rfl,Kd.fU ZB.out (fun k_ hk=>⟨⟨⟨hk.1.1,⟨hk.1.2.2.1,hk.1.2.2.2⟩⟩,hk.1.2.1⟩,hk.2⟩)⟩);(case aB=>exact (bs HB));(case aF=>exact (fun k_ hk=>⟨(Nat.le_trans (bC (bs HB)) hk),Kd.fresh' (Kd.jX (rs xk)) k_ hk,Kd.sU (g:=oV) (o:=.cells #[.int .i64 ag,.string aj,.string ak,.int .i64 aD,.slice (some aga) ay.length bW,.slice df ah.length bR] 45 (0,0)) (ks dQ) k_ hk⟩));(case aO=>exact (by (with_reducible repeat (first|apply Kd.fD|apply Kd.fE|apply Kd.dV));exact Kd.fU fQ.out (fun _ hk=>⟨⟨hk.1.1.1.1,⟨hk.1.1.2,hk.1.1.1.2⟩⟩,fun hT_=>Nat.not_le_of_lt hk.2 hT_.2⟩)));(case aS=>exact (bC (bs HB)));(case aL=>have:=aoq.out;omega);intro aIL w32 ho hb hg hat;rw [← ao5.out] at ho;have bP:=af.mk (fG (ks dQ) hg (Kd.Cr fQ.out dQ.out (by decide)));have bQ:=af.mk (Kd.Er (rs xk) (Kd.zt (by (with_reducible repeat (first|apply Kd.fD|apply Kd.fE|apply Kd.dV));exact fQ.out)) (by decide) hg);have bU:=af.mk (hb);have gW:=af.mk (ho);clear dQ;clear xk;clear HB;clear fQ;clear ZB;have dQ:=bP;have xk:=bQ;have HB:=bU;have ano:=gW;clear bP bQ bU gW;clear ho hb hg hat))
      go_roundg k2
      case measure=>have:=UE.out;have:=cz.out;omega
      case rel=>exact ⟨(alW),(wrap64 (eG+1)),fg,H',⟨by have:=UE.out;have:=cz.out;omega⟩,⟨by (with_reducible repeat (first|apply Kd.fD|apply Kd.fE|apply Kd.dV));exact Kd.fU ano.out (fun _ hk=>⟨hk.1,hk.2.2⟩)⟩,⟨ks dQ⟩,⟨bs HB⟩⟩
     ·intro ED H;have H':=af.mk H;clear H;have abh:=dC dQ
      go_wp2
      go_loopg [4,6] k2 (fun kq v4 v6 w'=>∃ (ze:List (bA)) (gX:Int),v6=.int .i64 gX∧af (fB.l1 kq ze gX ag aj ak aD ay ah=some r)∧af (kq≤k2)∧af (Kd.S qW 62 w' w.heap.size (fun k_=>(w.heap.size≤k_)∧k_≠oV) v4 ze)∧af (w'.heap[oV]? = some (.cells #[.int .i64 ag,.string aj,.string ak,.int .i64 aD,(.slice bY ay.length bW),(.slice df ah.length bR)] 45 (0,0)))∧af (Below w.heap.size w w'))
      case atStart=>exact ⟨(lU),(0),fg,H',⟨Nat.le_refl _⟩,⟨by (with_reducible repeat (first|apply Kd.fD|apply Kd.fE|apply Kd.dV));exact fQ.out⟩,⟨ks dQ⟩,⟨bs HB⟩⟩
      case round =>
       clear H'
       try clear c2
       try clear ED
       try clear abh
       try clear CS
       try clear dQ
       obtain ⟨ze,gX,rfl,HA,pU,fQ,dQ,HB⟩:=hrel
       cases gk with
       | zero=>exact absurd HA.out (by simp [fB.l1])
       | succ k3 =>
        have H:=HA.out;clear HA;simp only [fB.l1] at H
        revert H;refine cB ?_ ?_
        ·intro VM H
         revert H;refine bu ?_
         intro uk H;replace H:=bo H;obtain ⟨⟨XN,XO⟩,A37,H⟩:=H;(try dsimp only at H)
         revert H;refine jE ?_
         intro EF H;have aou:=af.mk EF;clear EF;obtain ⟨alX,ach⟩:∃ y_:List (bA),y_=(ze++[(⟨XN,XO⟩:bA)]):=⟨_,rfl⟩
         replace H:(fB.l1 k3 alX (wrap64 (gX+1)) ag aj ak aD ay ah)=some r:=ye ach H
         have ao6:=af.mk ach;clear ach;have H':=af.mk H;clear H;have abk:=dC dQ
         try go_wp2
         replace fQ:=af.mk (Kd.dV fQ.out);replace dQ:=af.mk (bg dQ.out);replace HB:=af.mk (cO HB.out);have ac6:0≤(gX:Int):=oa;have adh:gX<(ah.length:Int):=oa;obtain ⟨agb,e260,WL,WM,WN,WO,WP⟩:=rM lW.out gX ac6 adh;have Rs:=WP;have Rq:=WO;have Rp:=WN;have Ro:=WM;have Rn:=WL
         cases e260
         replace WL:=cb HB WL;replace WM:=cb HB WM;replace WN:=cb HB WN;replace WO:=cb HB WO;replace WP:=cb HB WP;replace ac6:=eq_true ac6;replace adh:=eq_true adh;refine il 12 (oF dQ (aJ (cb HB Rn) (aJ (cb HB Ro) (aJ (cb HB Rp) (aJ (cb HB Rq) (hc (cb HB Rs))))))) (fun hHeld=>?_);refine gq fB.wP fB.vY (fun HT_ HW_=>?_)
         generalize wr.drew=F8 at fQ dQ HB WL WM WN WO WP hHeld ⊢
         refine pA 0 51 HT_ ?_;refine pA 1 52 HT_ ?_;refine pA 3 54 HT_ ?_;refine pA 5 56 HT_ ?_;refine tA 2 53 HT_ HW_ hHeld ?_;refine tA 4 55 HT_ HW_ hHeld ?_;refine pA 6 57 HT_ ?_;refine tA 7 58 HT_ HW_ hHeld ?_;refine oA 8 59 HT_ (fun K hK=>?_);refine gA Tryz.func64 #[.int .i64 ag,.agg #[.int .i64 ((ai ah gX).f0),.string ((ai ah gX).f1),.int .i64 ((ai ah gX).f2),.int .i64 ((ai ah gX).f3),.string ((ai ah gX).f4)]] ?_;(with_reducible refine (eF.calls k3 ag ((ai ah gX).f0) ((ai ah gX).f1) ((ai ah gX).f2) ((ai ah gX).f3) ((ai ah gX).f4) XN XO _ A37.out).mono ?_);rintro e w41 ⟨aIM,rfl,ho0,hb⟩;refine ⟨_,rfl,?_⟩;have bP:=af.mk (U7 (by (with_reducible repeat (first|apply Kd.fD|apply Kd.fE|apply Kd.dV));exact fQ.out) (Kd.KO ho0) hb);have bQ:=af.mk (Kd.mJ (Kd.fU (ok':=fun k_=>((w.heap.size≤k_)∧some k_≠(u4:Value).ownBlock∧k_≠oV)∧F8.heap.size≤k_) (Kd.uf ho0) (fun k_ hk_=>⟨⟨(Nat.le_trans (bC (bs HB)) hk_.2.1),(Kd.fresh' (Kd.KQ (by (with_reducible repeat (first|apply Kd.fD|apply Kd.fE|apply Kd.dV));exact fQ.out)) k_ hk_.2.1),(Kd.sU (g:=oV) (o:=.cells #[.int .i64 ag,.string aj,.string ak,.int .i64 aD,.slice bY ay.length bW,.slice (some agb) ah.length bR] 45 (0,0)) (ks dQ) k_ hk_.2.1)⟩,hk_.2.1⟩)) (bC (bs HB)));have bU:=af.mk (aZ (ks dQ) hb);have gW:=af.mk (fF (bs HB) hb);clear fQ;clear dQ;clear HB;have fQ:=bP;have ZC:=bQ;have dQ:=bU;have HB:=gW;clear bP bQ bU gW;(try clear hb);(try clear hb2);(try clear hk);(try clear hi);(try clear ho0);obtain ⟨amv,arp,ahn⟩:=Kd.kI ZC.out
         (first|subst ahn|(injection ahn with dZ iJ d9;have iK:=dZ.symm;have iL:=d9.symm;clear dZ iJ d9;subst iK;subst iL))
         refine hK.out _ _ (oF dQ (aJ (cb HB Rn) (aJ (cb HB Ro) (aJ (cb HB Rp) (aJ (cb HB Rq) (hc (cb HB Rs))))))).out (fun hHeld=>?_);clear hK K;refine nA 59 ?_;refine oA 9 60 HT_ (fun K hK=>?_);refine DF (w1:=?_) (v:=?_) (by rfl) rfl ?_ ?_
         rotate_left 2
         ·go_simp
          constructor
          ·rfl
          ·rfl
         refine hK.out _ _ ⟨(az (eu dQ.out _) 0).trans rfl,(az (eu dQ.out _) 1).trans rfl,(az (eu dQ.out _) 2).trans rfl,(az (eu dQ.out _) 3).trans rfl,(az (eu dQ.out _) 4).trans rfl,(az (eu dQ.out _) 5).trans rfl,(World.cell?_alloc_lt _ _ _ (World.block_lt_of_cell? _ _ (((cb HB Rn).trans rfl)))).trans (((cb HB Rn).trans rfl)),(World.cell?_alloc_lt _ _ _ (World.block_lt_of_cell? _ _ (((cb HB Ro).trans rfl)))).trans (((cb HB Ro).trans rfl)),(World.cell?_alloc_lt _ _ _ (World.block_lt_of_cell? _ _ (((cb HB Rp).trans rfl)))).trans (((cb HB Rp).trans rfl)),(World.cell?_alloc_lt _ _ _ (World.block_lt_of_cell? _ _ (((cb HB Rq).trans rfl)))).trans (((cb HB Rq).trans rfl)),(World.cell?_alloc_lt _ _ _ (World.block_lt_of_cell? _ _ (((cb HB Rs).trans rfl)))).trans (((cb HB Rs).trans rfl))⟩ (fun hHeld=>?_);clear hK K;refine nA 60 ?_;refine oA 10 61 HT_ (fun K hK=>?_);refine Kd.KM qW (w0:=w) w.heap.size (by rfl) (.tmp 51) (.tmp 60) 57 62 (.agg #[(.string ⟨#[]⟩),(.slice none 0 0)]) 40 rfl Tryz.underlying57 Sq rfl (by decide) (by omega) u4 ze (⟨XN,XO⟩:bA) [.string XN,.slice amv XO.length arp] (fun k_=>(w.heap.size≤k_)∧k_≠oV) (fun k_=>(fun k_=>((fun k_=>(w.heap.size≤k_)∧k_≠oV)) k_∧some k_≠(u4:Value).ownBlock) k_∧F8.heap.size≤k_) rfl rfl ?aP (fun _ hk=>hk.1) ?aF ?aO ?aB ?aS ?aL ?_
         (case aP=>exact ⟨_,rfl,Kd.fU ZC.out (fun k_ hk=>⟨⟨⟨hk.1.1,hk.1.2.2⟩,hk.1.2.1⟩,hk.2⟩)⟩)
         (case aB=>exact (bs HB))
         (case aF=>exact (fun k_ hk=>⟨(Nat.le_trans (bC (bs HB)) hk),Kd.sU (g:=oV) (o:=.cells #[.int .i64 ag,.string aj,.string ak,.int .i64 aD,.slice bY ay.length bW,.slice (some agb) ah.length bR] 45 (0,0)) (ks dQ) k_ hk⟩))
         (case aO=>exact (by (with_reducible repeat (first|apply Kd.fD|apply Kd.fE|apply Kd.dV));exact Kd.fU fQ.out (fun _ hk=>⟨⟨hk.1.1.1,hk.1.1.2⟩,fun hT_=>Nat.not_le_of_lt hk.2 hT_.2⟩)))
         (case aS=>exact (bC (bs HB)))
         (case aL=>have:=aou.out;omega)
         intro aIN tJ ho hb hg hat
         rw [← ao6.out] at ho
         have bP:=af.mk (fG (ks dQ) hg (Kd.Cr fQ.out dQ.out (by decide)));have bQ:=af.mk (hb);have bU:=af.mk (ho);clear dQ;clear HB;clear fQ;clear ZC;have dQ:=bP;have HB:=bQ;have anp:=bU;clear bP bQ bU;clear ho hb hg hat;refine hK.out _ _ (oF dQ (aJ (cb HB Rn) (aJ (cb HB Ro) (aJ (cb HB Rp) (aJ (cb HB Rq) (hc (cb HB Rs))))))).out (fun hHeld=>?_);clear hK K;refine nA 61 ?_;refine pA 11 4 HT_ ?_;refine fq (gp HT_.out (by kernel_rfl)) ?_
         try go_wp2
         go_roundg k3
         case measure=>have:=UE.out;have:=cz.out;have:=pU.out;omega
         case rel=>exact ⟨(alX),(wrap64 (gX+1)),fg,H',⟨by have:=UE.out;have:=cz.out;have:=pU.out;omega⟩,⟨by (with_reducible repeat (first|apply Kd.fD|apply Kd.fE|apply Kd.dV));exact anp.out⟩,⟨ks dQ⟩,⟨bs HB⟩⟩
        ·intro VM H;obtain rfl:=si H;have abl:=dC dQ
         go_wp2
         go_ret
         exact ⟨_,ff,by (with_reducible repeat (first|apply Kd.fD|apply Kd.fE|apply Kd.dV));exact Kd.fU fQ.out (fun _ hk=>hk.1),bs HB⟩
theorem fB.calls (k:Nat) (ag:Int) (aj:ByteArray) (ak:ByteArray) (aD:Int) (bY:Option Addr) (bW:Nat) (ay:List ByteArray) (df:Option Addr) (bR:Nat) (ah:List (aY)) (r:List (bA)) (w:World) (ko:Kd.C Kd.string w bY ay.length ay) (j6:ay.length≤bW) (kr:Kd.C iR w df ah.length ah) (kg:ah.length≤bR) (H:fB.f k ag aj ak aD ay ah=some r) :
  Calls Tryz.prog 32 #[.agg #[.int .i64 ag,.string aj,.string ak,.int .i64 aD,.slice bY ay.length bW,.slice df ah.length bR]] w fun e w'=>∃ kT:Value,e=.returned (kT)∧Kd.N kS 62 w' w.heap.size (fun k_=>(w.heap.size≤k_)) kT r∧Below w.heap.size w w':=by
 refine (fB.CF k ag aj ak aD bY bW ay df bR ah r w ko j6 kr kg H).mono ?_
 rintro e w' ⟨v,he,hS,hb⟩
 exact ⟨v,he,akn hS,hb⟩
theorem uG.calls (k:Nat) (a0:ByteArray) (r:Bool) (w:World) (H:uG.f k a0=some r) :
  Calls Tryz.prog 65 #[.string a0] w fun e w'=>e=.returned (.bool r)∧aT w w':=by
 unfold uG.f at H
 revert H;refine bL ?_ ?_
 ·intro gJ ja H;have H':=am H;clear H
  go_in
  go_wp2
  go_loopg [3] k (fun kq v3 w'=>∃ (dW:Int),v3=.int .i64 dW∧af (uG.l0 kq a0 dW=some r)∧af (kq≤k)∧aT w w')
  case atStart=>exact ⟨(0),fg,H',⟨Nat.le_refl _⟩,by repeat (first|exact aT.refl _|apply aT.step)⟩
  case round =>
   clear H'
   try clear gJ
   try clear ja
   obtain ⟨dW,rfl,HA,aU,⟨m1,rfl⟩⟩:=hrel
   cases gk with
   | zero=>exact absurd HA.out (by simp [uG.l0])
   | succ k1 =>
    have H:=HA.out;clear HA;simp only [uG.l0] at H
    revert H;refine cB ?_ ?_
    ·intro bN H
     revert H;refine bu ?_
     intro dS H
     revert H;refine bu ?_
     intro kv H
     revert H;refine cB ?_ ?_
     ·intro kJ H;obtain rfl:=si H;have p6:0≤(dW:Int):=oa;have q6:dW<(a0.size:Int):=oa;have hx6:=gF a0 dW;replace p6:=eq_true p6;replace q6:=eq_true q6
      go_wp2
      go_ret
      exact ⟨fg,dr⟩
     ·intro kJ H
      revert H;refine gz ?_ ?_
      ·intro c9 H;have nk:decide (90<(bt a0 dW))=true:=decide_eq_true c9;clear c9;obtain rfl:=si H;have p6:0≤(dW:Int):=oa;have q6:dW<(a0.size:Int):=oa;have hx6:=gF a0 dW;replace p6:=eq_true p6;replace q6:=eq_true q6;have p8:0≤(dW:Int):=oa;have q8:dW<(a0.size:Int):=oa;have hx8:=gF a0 dW;replace p8:=eq_true p8;replace q8:=eq_true q8
       go_wp2
       go_ret
       exact ⟨fg,dr⟩
      ·intro c9 H;have nk:decide (90<(bt a0 dW))=false:=decide_eq_false c9;clear c9;have H':=am H;clear H;have p6:0≤(dW:Int):=oa;have q6:dW<(a0.size:Int):=oa;have hx6:=gF a0 dW;replace p6:=eq_true p6;replace q6:=eq_true q6;have p8:0≤(dW:Int):=oa;have q8:dW<(a0.size:Int):=oa;have hx8:=gF a0 dW;replace p8:=eq_true p8;replace q8:=eq_true q8
       go_wp2
       go_roundg k1
       case measure=>have:=aU.out;omega
       case rel=>exact ⟨(wrap64 (dW+1)),fg,H',⟨by have:=aU.out;omega⟩,by repeat (first|exact aT.refl _|apply aT.step)⟩
    ·intro bN H;obtain rfl:=si H
     go_wp2
     go_ret
     exact ⟨fg,dr⟩
 ·intro c2 gJ ja H;obtain rfl:=si H
  go_in
  go_wp2
  go_ret
  exact ⟨fg,dr⟩
theorem rq.calls (k:Nat) (a0:ByteArray) (r:Bool) (w:World) (H:rq.f k a0=some r) :
  Calls Tryz.prog 66 #[.string a0] w fun e w'=>e=.returned (.bool r)∧aT w w':=by
 unfold rq.f at H
 revert H;refine gz ?_ ?_
 ·intro c2 H;have gJ:decide (40<(a0.size:Int))=true:=decide_eq_true c2;have ja:decide (40<a0.size)=true:=decide_eq_true (by omega);clear c2;obtain rfl:=si H
  go_in
  go_wp2
  go_ret
  exact ⟨fg,dr⟩
 ·intro c2 H;have gJ:decide (40<(a0.size:Int))=false:=decide_eq_false c2;have ja:decide (40<a0.size)=false:=decide_eq_false (by omega);clear c2;have H':=am H;clear H
  go_in
  go_wp2
  go_loopg [3] k (fun kq v3 w'=>∃ (dW:Int),v3=.int .i64 dW∧af (rq.l0 kq a0 dW=some r)∧af (kq≤k)∧aT w w')
  case atStart=>exact ⟨(0),fg,H',⟨Nat.le_refl _⟩,by repeat (first|exact aT.refl _|apply aT.step)⟩
  case round =>
   clear H'
   try clear c2
   try clear gJ
   try clear ja
   obtain ⟨dW,rfl,HA,aU,⟨m1,rfl⟩⟩:=hrel
   cases gk with
   | zero=>exact absurd HA.out (by simp [rq.l0])
   | succ k1 =>
    have H:=HA.out;clear HA;simp only [rq.l0] at H
    revert H;refine cB ?_ ?_
    ·intro bN H
     revert H;refine bu ?_
     intro dS H
     revert H;refine cB ?_ ?_
     ·intro gQ H;obtain rfl:=si H;have p5:0≤(dW:Int):=oa;have q5:dW<(a0.size:Int):=oa;have hx5:=gF a0 dW;replace p5:=eq_true p5;replace q5:=eq_true q5
      go_wp2
      go_ret
      exact ⟨fg,dr⟩
     ·intro gQ H
      revert H;refine gz ?_ ?_
      ·intro c8 H;have jR:decide (126<(bt a0 dW))=true:=decide_eq_true c8;clear c8;obtain rfl:=si H;have p5:0≤(dW:Int):=oa;have q5:dW<(a0.size:Int):=oa;have hx5:=gF a0 dW;replace p5:=eq_true p5;replace q5:=eq_true q5;have p7:0≤(dW:Int):=oa;have q7:dW<(a0.size:Int):=oa;have hx7:=gF a0 dW;replace p7:=eq_true p7;replace q7:=eq_true q7
       go_wp2
       go_ret
       exact ⟨fg,dr⟩
      ·intro c8 H;have jR:decide (126<(bt a0 dW))=false:=decide_eq_false c8;clear c8;have H':=am H;clear H;have p5:0≤(dW:Int):=oa;have q5:dW<(a0.size:Int):=oa;have hx5:=gF a0 dW;replace p5:=eq_true p5;replace q5:=eq_true q5;have p7:0≤(dW:Int):=oa;have q7:dW<(a0.size:Int):=oa;have hx7:=gF a0 dW;replace p7:=eq_true p7;replace q7:=eq_true q7
       go_wp2
       go_roundg k1
       case measure=>have:=aU.out;omega
       case rel=>exact ⟨(wrap64 (dW+1)),fg,H',⟨by have:=aU.out;omega⟩,by repeat (first|exact aT.refl _|apply aT.step)⟩
    ·intro bN H;obtain rfl:=si H
     go_wp2
     go_ret
     exact ⟨fg,dr⟩
theorem Jg.calls (Ue:Option Addr) (VB:Nat) (wJ:List ByteArray) (r:Bool) (w:World) (ajx:Kd.C Kd.string w Ue wJ.length wJ) (ahM:wJ.length≤VB) (H:Jg.f wJ=some r) :
  Calls Tryz.prog 67 #[.agg #[.slice Ue wJ.length VB]] w fun e w'=>e=.returned (.bool r)∧Below w.heap.size w w':=by
 have Fb:=Tryz.underlying97;have anP:=am ajx;have aAk:=am ahM;clear ajx ahM;have HB:=am (Below.refl w.heap.size w);unfold Jg.f at H
 revert H;refine bL ?_ ?_
 ·intro gJ ja H
  revert H;refine qx ?_
  intro c3 bN H;have fo:decide (0<wJ.length)=true:=decide_eq_true (by omega);clear c3;obtain rfl:=si H
  go_in
  go_wp2_with (first|((with_reducible refine aN (N:=1) rfl ?_);refine bz 1 (cs:=#[.slice Ue wJ.length VB]) (t:=97) HB ?_;clear HB;intro uo hg w4 eT Uv hb HB;clear hb hg;have Bf:=uV eT;have p8:0≤(0:Int):=(by omega);have q8:0<(wJ.length:Int):=oa;obtain ⟨ad8,e8,Iw⟩:=Kd.iZ anP.out 0 p8 q8;cases e8;have qi8:(0<wJ.length)=True:=eq_true (by omega);(try rw [show ((0:Int)).toNat=0 from rfl] at Iw);(try rw [Addr.add_zero'] at Iw);replace Iw:=cb HB Iw;replace p8:=eq_true p8;replace q8:=eq_true q8))
  go_ret
  exact ⟨ff,bs HB⟩
 ·intro c2 gJ ja H;obtain rfl:=si H
  go_in
  go_wp2_with (first|((with_reducible refine aN (N:=1) rfl ?_);refine bz 1 (cs:=#[.slice Ue wJ.length VB]) (t:=97) HB ?_;clear HB;intro uo hg w6 eT Uv hb HB;clear hb hg;have Bg:=uV eT))
  go_ret
  exact ⟨ff,bs HB⟩
theorem iG.calls (k:Nat) (ag:ByteArray) (iw:Option Addr) (gV:Nat) (aK:List (dw)) (r:Bool) (w:World) (mR:Kd.C lG w iw aK.length aK) (mQ:aK.length≤gV) (H:iG.f k ag aK=some r) :
  Calls Tryz.prog 33 #[.agg #[.string ag,.slice iw aK.length gV]] w fun e w'=>e=.returned (.bool r)∧Below w.heap.size w w':=by
 have qR:=Tryz.underlying62;have Fb:=Tryz.underlying97;have mq:=am mR;have vT:=am mQ;clear mR mQ;have HB:=am (Below.refl w.heap.size w);unfold iG.f at H;have kV:=am H;clear H
 go_in
 go_upto_region 1 with (first|((with_reducible refine aN (N:=1) rfl ?_);(try (refine iM (by rfl) ?_;dsimp only));refine bz 1 (cs:=#[.string ag,.slice iw aK.length gV]) (t:=62) HB ?_;clear HB;intro CK hg w3 jU Od hb HB;clear hb hg))
 (try simp only [Act.put,List.setIfInBounds_toArray,List.set_cons_zero,List.set_cons_succ])
 go_cut [15] (fun v15 wc=>∃ (kq:Nat) (DT:Bool),v15=.bool DT∧af (iG.j0 kq DT ag aK=some r)∧af (kq≤k)∧af (wc.heap[CK]? = some (.cells #[.string ag,(.slice iw aK.length gV)] 62 (0,0)))∧af (Below w.heap.size w wc))
 case first =>
  have H:=kV.out;clear kV;replace H:=bo H;obtain ⟨t37,A4,H⟩:=H;have Bf:=gG jU
  try go_wp2_with (fail)
  go_at_call 65;(with_reducible refine (uG.calls k ag t37 _ A4.out).mono ?_);rintro e w' ⟨rfl,⟨nd,rfl⟩⟩
  obtain rfl|rfl:=bt t37
  ·replace H:=dE H;have H':=am H;clear H;have Bg:=gG jU
   go_wp2
   go_meet
   case rel=>exact ⟨_,(decide ((aK.length:Int)>10)),fg,H',⟨fl⟩,⟨ks jU⟩,⟨bs HB⟩⟩
  ·replace H:=dD H;have H':=am H;clear H
   go_wp2
   go_meet
   case rel=>exact ⟨_,(true),fg,H',⟨fl⟩,⟨ks jU⟩,⟨bs HB⟩⟩
 case rest =>
  clear kV
  obtain ⟨kq,DT,rfl,HA,ib,jU,HB⟩:=hcut
  cases kq with
  | zero=>exact absurd HA.out (by simp [iG.j0])
  | succ lS =>
   have H:=HA.out;clear HA;simp only [iG.j0] at H
   obtain rfl|rfl:=bt DT
   ·replace H:=dE H;obtain rfl:=si H
    go_wp2
    go_ret
    exact ⟨ff,bs HB⟩
   ·replace H:=dD H;have H':=am H;clear H
    go_wp2
    go_loopg [3] lS (fun kq v3 w'=>∃ (bv:Int),v3=.int .i64 bv∧af (iG.l0 kq bv ag aK=some r)∧af (kq≤lS)∧af (w'.heap[CK]? = some (.cells #[.string ag,(.slice iw aK.length gV)] 62 (0,0)))∧af (Below w.heap.size w w'))
    case atStart=>exact ⟨(0),fg,H',⟨Nat.le_refl _⟩,⟨ks jU⟩,⟨bs HB⟩⟩
    case round =>
     clear H'
     try clear jU
     obtain ⟨bv,rfl,HA,cz,jU,HB⟩:=hrel
     cases gk with
     | zero=>exact absurd HA.out (by simp [iG.l0])
     | succ k2 =>
      have H:=HA.out;clear HA;simp only [iG.l0] at H
      revert H;refine cB ?_ ?_
      ·intro nk H
       revert H;refine bu ?_
       intro xD H;have Gq:=am H;clear H;have CP:=gG jU;obtain ⟨p6,q6,ad6,azM,aBi,e6,Xa,aiP,aio⟩:=wi (lZ mq.out bv)
       cases e6
       replace Xa:=cb HB Xa;have afk:=am aio;have aAw:=am aiP;clear aio aiP
       go_upto_region 7 with (fail)
       go_cut [50] (fun v50 wc=>∃ (kq:Nat) (Yp:Bool),v50=.bool Yp∧af (iG.j2 kq bv ((aH aK bv).f0) Yp ag aK=some r)∧af (kq≤k2)∧af (wc.heap[CK]? = some (.cells #[.string ag,(.slice (some ad6) aK.length gV)] 62 (0,0)))∧af (Below w.heap.size w wc))
       case first =>
        have H:=Gq.out;clear Gq
        revert H;refine zW ?_ ?_
        ·intro c13 lC H;have zA:decide (((aH aK bv).f0).length<1)=true:=decide_eq_true (by omega);clear c13
         (first|rw [lC]|(simp only [fu,gy];rw [lC])|rw [zA]|skip)
         have H':=am H;clear H
         go_wp2
         go_meet
         case rel=>exact ⟨_,(true),fg,H',⟨by have:=ib.out;have:=cz.out;first|omega|exact Nat.le_refl _⟩,⟨ks jU⟩,⟨bs HB⟩⟩
        ·intro c13 lC H;have zA:decide (((aH aK bv).f0).length<1)=false:=decide_eq_false (by omega);clear c13
         (first|rw [lC]|(simp only [fu,gy];rw [lC])|rw [zA]|skip)
         revert H;refine gz ?_ ?_
         ·intro c14 H;have oU:decide (4<(((aH aK bv).f0).length:Int))=true:=decide_eq_true c14;have K4:decide (4<((aH aK bv).f0).length)=true:=decide_eq_true (by omega);clear c14;have H':=am H;clear H
          go_wp2
          go_meet
          case rel=>exact ⟨_,(true),fg,H',⟨by have:=ib.out;have:=cz.out;first|omega|exact Nat.le_refl _⟩,⟨ks jU⟩,⟨bs HB⟩⟩
         ·intro c14 H;have oU:decide (4<(((aH aK bv).f0).length:Int))=false:=decide_eq_false c14;have K4:decide (4<((aH aK bv).f0).length)=false:=decide_eq_false (by omega);clear c14
          revert H;refine gz ?_ ?_
          ·intro c15 H;have uh:decide (1<(((aH aK bv).f0).length:Int))=true:=decide_eq_true c15;have Hl:decide (1<((aH aK bv).f0).length)=true:=decide_eq_true (by omega);clear c15;obtain ⟨MB,Wt⟩:∃ j_:Int,(wrap64 ((((aH aK bv).f0).length:Int) - 1))=j_:=⟨_,rfl⟩
           replace H:(if 0≤(MB) then (if (MB)<(((aH aK bv).f0).length:Int) then (iG.j2 k2 bv ((aH aK bv).f0) ((aX ByteArray.empty ((aH aK bv).f0) (MB)).toList == ([]:List UInt8)) ag aK) else (none)) else (none))=some r:=by first|(rw [Wt] at H;exact H)|(simp only [Wt] at H ⊢;exact H)
           have aEt:(IntKind.i64.wrap ((((aH aK bv).f0).length:Int) - 1))=MB:=(fu _).trans Wt
           revert H;refine bu ?_
           intro oo H
           revert H;refine bu ?_
           intro uT H;have H':=am H;clear H;obtain ⟨p34,MO,aAL,e34,ajO⟩:=wi (Kd.iZ afk.out (MB))
           cases e34
           replace ajO:=cb HB ajO
           go_wp2
           go_meet
           case rel=>exact ⟨_,(((aX ByteArray.empty ((aH aK bv).f0) (MB)).toList == ([]:List UInt8))),(by first|rfl|(simp;done)|(simp only [← Wt] <;> (first|rfl|simp))|(simp [*];done)),H',⟨by have:=ib.out;have:=cz.out;first|omega|exact Nat.le_refl _⟩,⟨ks jU⟩,⟨bs HB⟩⟩
          ·intro c15 H;have uh:decide (1<(((aH aK bv).f0).length:Int))=false:=decide_eq_false c15;have Hl:decide (1<((aH aK bv).f0).length)=false:=decide_eq_false (by omega);clear c15;have H':=am H;clear H
           go_wp2
           go_meet
           case rel=>exact ⟨_,(false),fg,H',⟨by have:=ib.out;have:=cz.out;first|omega|exact Nat.le_refl _⟩,⟨ks jU⟩,⟨bs HB⟩⟩
       case rest =>
        clear Gq
        try clear nk
        try clear xD
        try clear CP
        try clear Xa
        try clear p6
        try clear q6
        obtain ⟨kq,Yp,rfl,HA,Ci,jU,HB⟩:=hcut
        cases kq with
        | zero=>exact absurd HA.out (by simp [iG.j2])
        | succ Dp =>
         have H:=HA.out;clear HA;simp only [iG.j2] at H
         obtain rfl|rfl:=bt Yp
         ·replace H:=dE H;obtain rfl:=si H
          go_wp2
          go_ret
          exact ⟨ff,bs HB⟩
         ·replace H:=dD H;have H':=am H;clear H
          go_wp2
          go_loopg [5] Dp (fun kq v5 w'=>∃ (mI:Int),v5=.int .i64 mI∧af (iG.l1 kq bv ((aH aK bv).f0) mI ag aK=some r)∧af (kq≤Dp)∧af (w'.heap[CK]? = some (.cells #[.string ag,(.slice (some ad6) aK.length gV)] 62 (0,0)))∧af (Below w.heap.size w w'))
          case atStart=>exact ⟨(0),fg,H',⟨Nat.le_refl _⟩,⟨ks jU⟩,⟨bs HB⟩⟩
          case round =>
           clear H'
           try clear nk
           try clear xD
           try clear CP
           try clear Xa
           try clear p6
           try clear q6
           try clear jU
           obtain ⟨mI,rfl,HA,tV,jU,HB⟩:=hrel
           cases gk with
           | zero=>exact absurd HA.out (by simp [iG.l1])
           | succ k4 =>
            have H:=HA.out;clear HA;simp only [iG.l1] at H
            revert H;refine cB ?_ ?_
            ·intro ui H
             revert H;refine bu ?_
             intro xH H;replace H:=bo H;obtain ⟨t38,BV,H⟩:=H;obtain ⟨p35,q35,agc,e35,L8⟩:=wi (Kd.iZ afk.out mI)
             cases e35
             replace L8:=cb HB L8
             try go_wp2_with (fail)
             go_at_call 66;(with_reducible refine (rq.calls k4 (aX ByteArray.empty ((aH aK bv).f0) mI) t38 _ BV.out).mono ?_);rintro e w' ⟨rfl,⟨nd,rfl⟩⟩
             obtain rfl|rfl:=bt t38
             ·replace H:=dE H;have H':=am H;clear H
              go_wp2
              go_roundg k4
              case measure=>have:=ib.out;have:=cz.out;have:=Ci.out;have:=tV.out;omega
              case rel=>exact ⟨(wrap64 (mI+1)),fg,H',⟨by have:=ib.out;have:=cz.out;have:=Ci.out;have:=tV.out;omega⟩,⟨ks jU⟩,⟨bs HB⟩⟩
             ·replace H:=dD H;obtain rfl:=si H
              go_wp2
              go_ret
              exact ⟨ff,bs HB⟩
            ·intro ui H;have H':=am H;clear H
             go_wp2
             go_roundg k4
             case measure=>have:=ib.out;have:=cz.out;have:=Ci.out;have:=tV.out;omega
             case rel=>exact ⟨(wrap64 (bv+1)),fg,H',⟨by have:=ib.out;have:=cz.out;have:=Ci.out;have:=tV.out;omega⟩,⟨ks jU⟩,⟨bs HB⟩⟩
      ·intro nk H
       revert H;refine bL ?_ ?_
       ·intro uj Ho H;obtain rfl:=si H;have abg:=gG jU
        go_wp2
        go_ret
        exact ⟨ff,bs HB⟩
       ·intro c24 uj Ho H
        have agP:¬ (aK=[]):=fun h_=>c24 (by rw [h_];rfl)
        obtain ⟨Fz,Wv⟩:∃ j_:Int,(wrap64 ((aK.length:Int) - 1))=j_:=⟨_,rfl⟩
        replace H:(if 0≤(Fz) then (if (Fz)<(aK.length:Int) then ((Jg.f ((aH aK (Fz)).f0)).bind fun t36=>(some (!t36))) else (none)) else (none))=some r:=by first|(rw [Wv] at H;exact H)|(simp only [Wv] at H ⊢;exact H)
        have aEw:(IntKind.i64.wrap ((aK.length:Int) - 1))=Fz:=(fu _).trans Wv
        by_cases wm:0≤(Fz)
        ·rw [if_pos wm] at H;have Hq:decide (0≤(Fz))=true:=decide_eq_true wm;clear wm
         revert H;refine bu ?_
         intro agQ H;replace H:=bo H;obtain ⟨t36,YL,H⟩:=H;obtain rfl:=si H;have ahT:=gG jU;obtain ⟨p23,q23,aAH,azz,aA1,e23,ajK,aiy,ah6⟩:=wi (lZ mq.out (Fz))
         cases e23
         replace ajK:=cb HB ajK;have anX:=am ah6;have am1:=am aiy;clear ah6 aiy
         go_wp2_with (first|(go_at_call 67;(with_reducible refine (Jg.calls _ _ ((aH aK (Fz)).f0) t36 _ (Kd.bJ anX.out (bs HB)) am1.out YL.out).mono ?_);rintro e F7 ⟨rfl,hb⟩;replace jU:=bb jU hb;replace HB:=bq HB hb;(try clear hb)))
         go_ret
         exact ⟨by first|rfl|(simp [ou,oz] <;> rfl)|(simp only [← Wv];first|rfl|(simp [ou,oz] <;> rfl))|(simp [*,ou,oz] <;> rfl),bs HB⟩
        ·rw [if_neg wm] at H
         exact absurd H (by simp)
end Go.Proofs.YtapilmimgiaglaaGreatDoor.QA
