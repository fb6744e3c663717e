import Derived.Test.YtapilmimgiaglaaGreatDoorKFnExactParcelIx6
set_option maxHeartbeats 8000000
set_option maxRecDepth 100000
set_option linter.unusedSimpArgs false
set_option linter.unusedVariables false
namespace Go.Proofs.YtapilmimgiaglaaGreatDoor.QX
open Go.RowKit Go.Proofs.bB.eH Go.Proofs.bB.PrintLast Go.Proofs.bB.PrintMore
attribute [local go_sem] oU o5 oZ o8 oW o7 oV o6
theorem LD.calls (k:Nat)(ag aj:ByteArray)(ak:Int)(dZ:Option Addr)(dW:Nat)(au:List mK)(a1 r:Int)(w:World)(jl:Kd.C DR w dZ au.length au)(jk:au.length≤dW)(H:LD.f k ag aj ak au a1=some r) :
  Calls Tryz.prog 5 #[.agg #[.string ag,.string aj,.int .i64 ak,.slice dZ au.length dW],.int .i64 a1] w fun e w'=>e=.returned (.int .i64 r)∧Below w.heap.size w w':=by
 have axy:=Tryz.underlying24;have oH:=am jl;have qw:=am jk;clear jl jk;have HB:=am (Below.refl w.heap.size w);unfold LD.f at H
 revert H;refine bK ?_ ?_
 ·intro aY H;obtain rfl:=si H
  go_in
  go_wp2_with (first|((with_reducible refine aJ (N:=2) rfl ?_);refine bz 2 (cs:=#[.string ag,.string aj,.int .i64 ak,.slice dZ au.length dW]) (t:=24) HB ?_;clear HB;intro ZE hg w4 nI XQ hb HB;clear hb hg;have BQ:=aX nI))
  go_ret
  exact ⟨ff,bs HB⟩
 ·intro aY H
  revert H;refine bK ?_ ?_
  ·intro gu H;obtain rfl:=si H
   go_in
   go_wp2_with (first|((with_reducible refine aJ (N:=2) rfl ?_);refine bz 2 (cs:=#[.string ag,.string aj,.int .i64 ak,.slice dZ au.length dW]) (t:=24) HB ?_;clear HB;intro ZE hg w7 nI XQ hb HB;clear hb hg;have BU:=aX nI))
   go_ret
   exact ⟨ff,bs HB⟩
  ·intro gu H;replace H:=bo H;obtain ⟨qQ,A9,H⟩:=H
   go_in
   try go_wp2_with (first|((with_reducible refine aJ (N:=2) rfl ?_);refine bz 2 (cs:=#[.string ag,.string aj,.int .i64 ak,.slice dZ au.length dW]) (t:=24) HB ?_;clear HB;intro ZE hg qo nI XQ hb HB;clear hb hg;have zq:=aX nI))
   go_at_call 16;refine (wO.calls k _ _ au (wrap64 ((wrap64 (a1 - (ag.size:Int))) - (aj.size:Int))) qQ _ (Kd.bi oH.o (bs HB)) qw.o A9.o).mono ?_;rintro e nZ ⟨rfl,hb⟩;replace nI:=bb nI hb;replace HB:=bq HB hb;(try clear hb)
   revert H;refine bK ?_ ?_
   ·intro mq H;obtain rfl:=si H
    go_wp2
    go_ret
    exact ⟨ff,bs HB⟩
   ·intro mq H;obtain rfl:=si H
    go_wp2
    go_ret
    exact ⟨ff,bs HB⟩
theorem uL.calls (k:Nat)(A0:Option Addr)(c0:Nat)(l0 r:List ByteArray)(w:World)(hr0:Kd.C Kd.string w A0 l0.length l0)(hc0:l0.length≤c0)(H:uL.f k l0=some r) :
  Calls Tryz.prog 75 #[.slice A0 l0.length c0] w fun e w'=>∃ lX:Value,e=.returned (lX)∧Kd.R Kd.string 9 w' w.heap.size (fun _=>True) lX r∧Below w.heap.size w w':=by
 have bG:=am hr0;have jC:=am hc0;clear hr0 hc0;have HB:=am (Below.refl w.heap.size w);unfold uL.f at H
 revert H;refine gT ?_ ?_
 ·intro c2 H;have gQ:=eq_true c2;have jE:decide (0≤(l0.length:Int))=true:=decide_eq_true c2;clear c2
  revert H;refine ku ?_
  intro c3 H;have aY:=eq_true c3;have dS:decide (((l0.length:Int):Int).toNat≤17592186044416)=true:=decide_eq_true c3;clear c3;obtain ⟨y13,aeX⟩:∃ y_:List ByteArray,y_=(List.replicate ((l0.length:Int):Int).toNat (⟨#[]⟩:ByteArray)):=⟨_,rfl⟩
  replace H:(uL.l0 k l0 y13 0)=some r:=ye aeX H
  have air:=am aeX;clear aeX;have H':=am H;clear H
  go_in
  go_wp2_with (first|((with_reducible refine aJ (N:=7) rfl ?_);refine Kd.ac1 Kd.string _ 9 rfl (N:=7) rfl 42 _ _ rfl (l0.length:Int) rfl rfl Tryz.underlying42 (.string ⟨#[]⟩) 16 zC rfl (by decide) (by omega) (⟨#[]⟩:ByteArray) (ok:=fun _=>True) (okp:=fun _=>True) rfl (fun _ hk=>hk) trivial (oa) (Nat.le_trans (Nat.mul_le_mul_right _ (oa:(l0.length:Int).toNat≤17592186044416)) (by omega)) (Below.refl _ _) (Nat.le_refl _) ?_;intro v15 w4 Ci hb hg_ hnew_;clear hg_ hnew_;(first|rw [← air.o] at Ci|(simp only [Int.reduceToNat] at Ci;rw [← air.o] at Ci));have acg:=am (Kd.ic Ci (bJ (bs HB)));replace HB:=bq HB hb;clear hb Ci))
  go_loopg [4] k (fun kq v4 w'=>∃ (dU:List ByteArray) (dY:Int),v4=.int .i64 dY∧af (uL.l0 kq l0 dU dY=some r)∧af (kq≤k)∧af (Kd.R Kd.string 9 w' w.heap.size (fun _=>True) v15 dU)∧af (Below w.heap.size w w'))
  case atStart=>exact ⟨(y13),(0),fg,H',⟨Nat.le_refl _⟩,⟨rz acg.o⟩,⟨bs HB⟩⟩
  case round =>
   clear H'
   try clear c2
   try clear gQ
   try clear jE
   try clear c3
   try clear aY
   try clear dS
   obtain ⟨dU,dY,rfl,HA,aQ,gU,HB⟩:=hrel
   cases gk with
   | zero=>exact absurd HA.o (by simp [uL.l0])
   | succ k1 =>
    have H:=HA.o;clear HA;simp only [uL.l0] at H
    revert H;refine bK ?_ ?_
    ·intro gu H
     revert H;refine bv ?_
     intro kH H
     revert H;refine bv ?_
     intro kr H;obtain ⟨y14,aeY⟩:∃ y_:List ByteArray,y_=(dU.set (dY:Int).toNat (bA ByteArray.empty l0 dY)):=⟨_,rfl⟩
     replace H:(uL.l0 k1 l0 y14 (wrap64 (dY+1)))=some r:=ye aeY H
     have ar2:=am aeY;clear aeY;have H':=am H;clear H;obtain ⟨iO,iK,GV,e12,nO⟩:=wi (Kd.jw bG.o dY)
     cases e12
     replace nO:=cb HB nO;have p9:0≤(dY:Int):=oa;have q9:(dY:Int)<((dU.length:Int):Int):=oa;obtain ⟨go9,co9,eo9,vE,gl9,cl9,HG9⟩:=Kd.ac0 gU.o (by omega)
     (first|cases eo9|(injection eo9 with ea_ en_ ec_;(first|subst ea_|(injection ea_ with ea_;subst ea_));subst ec_;clear en_))
     have GB9:=am vE;have GG9:=am HG9;clear vE gl9 HG9;obtain ⟨l8,aGC⟩:=Kd.acY (⟨#[]⟩:ByteArray) gU.o (dY:Int) p9 q9;replace p9:=eq_true p9;replace q9:=eq_true q9;have aco:=Kd.aiX gU.o (dY:Int) (bA ByteArray.empty l0 dY)
     go_wp2_with (first|((with_reducible refine oJ (t:=9) (p:=20) rfl ?_);refine pg (t:=9) (p:=20) (v:=?aMP) (w1:=(wr.setCell ⟨go9,(dY:Int).toNat,none⟩ (.string (bA ByteArray.empty l0 dY)))) ?hg ?ho ?hn ?hr ?_;(case ho=>rfl);(case hg=>rfl);(case hn=>rfl);(case hr=>first|(go_simp;done)|(go_simp;rfl));intro jY hw;have hg:wr.grownBy jY (some go9):=(by rw [hw];exact aco.2);have hp_:Kd.R Kd.string 9 jY w.heap.size (fun _=>True) (.slice (some ⟨go9,0,none⟩) dU.length co9) y14:=(by rw [hw,ar2.o];exact aco.1);clear aco;replace gU:=am (hp_);replace HB:=am ((by rw [hw];exact eX (HB.o) GB9.o:Below w.heap.size w jY));clear hg hw hp_))
     go_roundg k1
     case measure=>have:=aQ.o;omega
     case rel=>exact ⟨(y14),(wrap64 (dY+1)),fg,H',⟨by have:=aQ.o;omega⟩,⟨rz gU.o⟩,⟨bs HB⟩⟩
    ·intro gu H;obtain rfl:=si H
     go_wp2
     go_ret
     exact ⟨_,ff,by (with_reducible repeat (first|apply Kd.kM|apply Kd.jK|apply Kd.eO));exact gU.o,bs HB⟩
 ·intro c2 H
  exact absurd H (by simp)
theorem Py.calls (ag:Int)(aj:ByteArray)(ak aM:Int)(oh:ByteArray)(r1:Int)(r2:ByteArray)(r3 r4:Int)(r5:ByteArray)(w:World)(H:Py.f ag aj ak aM oh=some (r1,r2,r3,r4,r5)) :
  Calls Tryz.prog 108 #[.agg #[.int .i64 ag,.string aj,.int .i64 ak,.int .i64 aM,.string oh]] w fun e w'=>e=.returned (.agg #[.int .i64 r1,.string r2,.int .i64 r3,.int .i64 r4,.string r5])∧Below w.heap.size w w':=by
 have ams:=Tryz.underlying127;have Dx:=Tryz.underlying95;have HB:=am (Below.refl w.heap.size w);unfold Py.f at H;replace H:=IY H;obtain ⟨rfl,rfl,rfl,rfl,rfl⟩:=H
 go_in
 go_wp2_with (first|((with_reducible refine aJ (N:=1) rfl ?_);refine bz 1 (cs:=#[.int .i64 ag,.string aj,.int .i64 ak,.int .i64 aM,.string oh]) (t:=127) HB ?_;clear HB;intro KG hg w2 jD Jz hb HB;clear hb hg)|((with_reducible refine aJ (N:=2) rfl ?_);refine bz 2 (cs:=#[.int .i64 0,.string (⟨#[]⟩:ByteArray),.int .i64 0,.int .i64 0,.string (⟨#[]⟩:ByteArray)]) (t:=95) HB ?_;clear HB;intro E8 hg w3 ig XP hb HB;have arE:=na hg jD;have arG:=nc hg jD;replace jD:=bb jD hb;clear hb hg)|((with_reducible refine aJ (N:=3) rfl ?_);refine bz 3 (cs:=#[.int .i64 0,.string (⟨#[]⟩:ByteArray),.int .i64 0,.int .i64 0,.string (⟨#[]⟩:ByteArray)]) (t:=95) HB ?_;clear HB;intro uC hg w4 bO uq hb HB;have arF:=na hg jD;have arI:=nc hg jD;replace jD:=bb jD hb;have arH:=na hg ig;have arJ:=nc hg ig;replace ig:=bb ig hb;clear hb hg;have ZV:=arE.o;have ZX:=arG.o;have aeB:=arF.o;have aeH:=arI.o;have BS:=kW jD;have amc:=arJ.o;have amn:=arH.o;have zZ:=kW bO;have zo:=kW ig))
 refine bodyPost_ret (results_cell_row rfl _ _ E8 95 #[.int .i64 ag,.string aj,.int .i64 ak,.int .i64 aM,.string oh] (0,0) _ rfl (kp ig) Tryz.underlying95 rfl (by kernel_rfl)) rfl ?_
 exact ⟨ff,bs HB⟩
theorem wQ.calls (k:Nat)(A0:Option Addr)(c0:Nat)(l0:List mJ)(r:List aZ)(w:World)(hr0:Kd.C DN w A0 l0.length l0)(hc0:l0.length≤c0)(H:wQ.f k l0=some r) :
  Calls Tryz.prog 76 #[.slice A0 l0.length c0] w fun e w'=>∃ lX:Value,e=.returned (lX)∧Kd.R iA 95 w' w.heap.size (fun _=>True) lX r∧Below w.heap.size w w':=by
 have hu:=Tryz.underlying127;have hu2:=Tryz.underlying95;have bG:=am hr0;clear hr0 hc0;have HB:=am (Below.refl w.heap.size w);unfold wQ.f at H
 revert H;refine ku ?_;intro c2 H;have gQ:=eq_true c2;have jE:decide (0≤(l0.length:Int))=true:=decide_eq_true c2;clear c2
 revert H;refine ku ?_;intro c3 H;have aY:=eq_true c3;have dS:decide (((l0.length:Int):Int).toNat≤5026338869833)=true:=decide_eq_true c3;clear c3;have H':=am H;clear H
 go_in
 go_wp2_with (first|((with_reducible refine aJ (N:=7) rfl ?_);refine Kd.ac1 iA _ 95 rfl (N:=7) rfl 43 _ _ rfl (l0.length:Int) rfl rfl Tryz.underlying43 ((.agg #[(.int .i64 0),(.string ⟨#[]⟩),(.int .i64 0),(.int .i64 0),(.string ⟨#[]⟩)])) 56 aat rfl (by decide) (by omega) Eh (ok:=fun _=>True) (okp:=fun _=>True) (Lp _ _ _ Eh) (fun _ hk=>hk) trivial (oa) (Nat.le_trans (Nat.mul_le_mul_right _ (oa:(l0.length:Int).toNat≤5026338869833)) (by omega)) (Below.refl _ _) (Nat.le_refl _) ?_;intro v wa ho hb hg_ hn_;clear hg_ hn_;have HO:=am (Kd.dE (ok':=(fun k_=>(False∨w.heap.size≤k_))) (Kd.rV (Kd.ic ho (bJ (bs HB)))) (fun _ q=>.inr q.2.1));replace HB:=bq HB hb;clear hb ho))
 go_loopg [4] k (fun kq v4 w'=>∃ (x3:List aZ) (x4:Int),v4=.int .i64 x4∧af (wQ.l0 kq l0 x3 x4=some r)∧af (kq≤k)∧af (Kd.R iA 95 w' w.heap.size (fun k_=>(False∨w.heap.size≤k_)) v x3)∧af (Below w.heap.size w w'))
 case atStart=>exact ⟨_,0,fg,H',⟨Nat.le_refl _⟩,HO,HB⟩
 case round =>
  clear H' HO;(try clear gQ);(try clear jE);(try clear aY);(try clear dS);obtain ⟨x3,x4,rfl,HA,aQ,HO,HB⟩:=hrel
  cases gk with
  | zero=>exact absurd HA.o (by simp [wQ.l0])
  | succ k1 =>
   have H:=HA.o;clear HA;simp only [wQ.l0] at H
   revert H;refine bK ?_ ?_
   ·intro gu H;revert H;refine bv ?_;intro kH H;replace H:=bo H;obtain ⟨⟨t0,t1,t2,t3,t4⟩,A8,H⟩:=H;(try dsimp only at H);revert H;refine bv ?_;intro nN H;have H':=am H;clear H;have p1:0≤(x4:Int):=oa;have q1:x4<(l0.length:Int):=oa;have q2:(x4:Int)<(x3.length:Int):=oa;obtain ⟨ad,ea,g0,g1,g2,g3,g4⟩:=ajh bG.o x4 p1 q1;cases ea;replace g0:=cb HB g0;replace g1:=cb HB g1;replace g2:=cb HB g2;replace g3:=cb HB g3;replace g4:=cb HB g4;obtain ⟨g,cap,oki,c,eo,hM,hL⟩:=hol Eh x4 (aiZ (fun _ _ _ _ _ h=>by obtain rfl:=aau h;exact Lp _ _ _ _) HO.o) HB.o (Kept.of_below HB.o _) p1 q2
    cases eo
    obtain rfl:=aau hM;have HL:=am hL;clear hL hM HO;replace p1:=eq_true p1;replace q1:=eq_true q1;replace q2:=eq_true q2
    go_wp2_with (first|(go_at_call 108;refine (Py.calls ((nH l0 x4).f0) ((nH l0 x4).f1) ((nH l0 x4).f2) ((nH l0 x4).f3) ((nH l0 x4).f4) t0 t1 t2 t3 t4 _ A8.o).mono ?_;rintro e wb ⟨rfl,hb⟩;replace HL:=am (HL.o.below hb);clear hb;obtain ⟨hx0,hf0⟩:=HL.o.nz 5 rfl rfl;obtain ⟨-,hx1,hf1⟩:=HL.o.nx 5 1 rfl rfl rfl;obtain ⟨-,hx2,hf2⟩:=HL.o.nx 5 2 rfl rfl rfl;obtain ⟨-,hx3,hf3⟩:=HL.o.nx 5 3 rfl rfl rfl;obtain ⟨-,hx4,hf4⟩:=HL.o.nx 5 4 rfl rfl rfl)|((with_reducible refine oJ (t:=95) (p:=21) rfl ?_);refine pg (t:=95) (p:=21) (v:=?vo) (w1:=(((((wb.setCell ⟨g,(x4:Int).toNat * 5,none⟩ (.int .i64 t0)).setCell ⟨g,(x4:Int).toNat * 5+1,none⟩ (.string t1)).setCell ⟨g,(x4:Int).toNat * 5+2,none⟩ (.int .i64 t2)).setCell ⟨g,(x4:Int).toNat * 5+3,none⟩ (.int .i64 t3)).setCell ⟨g,(x4:Int).toNat * 5+4,none⟩ (.string t4))) ?hg ?ho ?hn ?hr ?_;(case ho=>rfl);(case hg=>rfl);(case hn=>rfl);(case hr=>first|(go_simp;done)|(go_simp;rfl));intro wc hw;replace HL:=am (((((HL.o.put 0 (.int .i64 t0) (by decide) rfl rfl).put 1 (.string t1) (by decide) rfl rfl).put 2 (.int .i64 t2) (by decide) rfl rfl).put 3 (.int .i64 t3) (by decide) rfl rfl).put 4 (.string t4) (by decide) rfl hw);clear hw))
    go_roundg k1
    case measure=>have:=aQ.o;omega
    case rel=>exact ⟨_,wrap64 (x4+1),fg,H',⟨by have:=aQ.o;omega⟩,⟨HL.o.back (⟨t0,t1,t2,t3,t4⟩:aZ) (Lp _ _ _ (⟨t0,t1,t2,t3,t4⟩:aZ))⟩,⟨HL.o.hB⟩⟩
   ·intro gu H;obtain rfl:=si H
    go_wp2
    go_ret
    exact ⟨_,ff,Kd.dE HO.o (fun _ _=>trivial),bs HB⟩
theorem LG.calls (k:Nat)(ag:Int)(aj ak:ByteArray)(aM:Int)(dB:Option Addr)(dx:Nat)(az:List ByteArray)(dJ:Option Addr)(df:Nat)(ah:List mJ)(r1:Int)(r2 r3:ByteArray)(r4:Int)(r5:List ByteArray)(r6:List aZ)(w:World)(lm:Kd.C Kd.string w dB az.length az)(kY:az.length≤dx)(lq:Kd.C DN w dJ ah.length ah)(kZ:ah.length≤df)(H:LG.f k ag aj ak aM az ah=some (r1,r2,r3,r4,r5,r6)) :
  Calls Tryz.prog 39 #[.agg #[.int .i64 ag,.string aj,.string ak,.int .i64 aM,.slice dB az.length dx,.slice dJ ah.length df]] w fun e w'=>∃ Jb Jc:Value,e=.returned (.agg #[.int .i64 r1,.string r2,.string r3,.int .i64 r4,Jb,Jc])∧Kd.R Kd.string 9 w' w.heap.size (fun _=>True) Jb r5∧Kd.R iA 95 w' w.heap.size (fun _=>True) Jc r6∧Below w.heap.size w w':=by
 have aeK:=Tryz.underlying56;have xq:=Tryz.underlying45;have oI:=am lm;have rR:=am kY;clear lm kY;have ni:=am lq;have qW:=am kZ;clear lq kZ;have HB:=am (Below.refl w.heap.size w);unfold LG.f at H;replace H:=bo H;obtain ⟨t25,A2,H⟩:=H;replace H:=bo H;obtain ⟨t24,A3,H⟩:=H;replace H:=PR H;obtain ⟨rfl,rfl,rfl,rfl,rfl,rfl⟩:=H
 go_in
 go_wp2_with (first|((with_reducible refine aJ (N:=1) rfl ?_);refine bz 1 (cs:=#[.int .i64 ag,.string aj,.string ak,.int .i64 aM,.slice dB az.length dx,.slice dJ ah.length df]) (t:=56) HB ?_;clear HB;intro Fa hg w4 jS ahE hb HB;clear hb hg)|((with_reducible refine aJ (N:=2) rfl ?_);refine bz 2 (cs:=#[.int .i64 0,.string (⟨#[]⟩:ByteArray),.string (⟨#[]⟩:ByteArray),.int .i64 0,.slice none 0 0,.slice none 0 0]) (t:=45) HB ?_;clear HB;intro om hg w5 jr Eu hb HB;have arP:=na hg jS;have arS:=nc hg jS;replace jS:=bb jS hb;clear hb hg)|((with_reducible refine aJ (N:=3) rfl ?_);refine bz 3 (cs:=#[.int .i64 0,.string (⟨#[]⟩:ByteArray),.string (⟨#[]⟩:ByteArray),.int .i64 0,.slice none 0 0,.slice none 0 0]) (t:=45) HB ?_;clear HB;intro Du hg w6 rM aDC hb HB;have arO:=na hg jS;have arQ:=nc hg jS;replace jS:=bb jS hb;have arT:=na hg jr;have arR:=nc hg jr;replace jr:=bb jr hb;clear hb hg;have ZW:=arP.o;have ZY:=arS.o;have amc:=arO.o;have amn:=arQ.o;have zZ:=dO jS;have OE:=arR.o;have OG:=arT.o;have aFo:w6.cell? ⟨Du,0,none⟩=some (.int .i64 0):=(aA rM.o 0).trans rfl;have aFp:w6.cell? ⟨Du,1,none⟩=some (.string (⟨#[]⟩:ByteArray)):=(aA rM.o 1).trans rfl;have aFq:w6.cell? ⟨Du,2,none⟩=some (.string (⟨#[]⟩:ByteArray)):=(aA rM.o 2).trans rfl;have aFr:w6.cell? ⟨Du,3,none⟩=some (.int .i64 0):=(aA rM.o 3).trans rfl;have aFs:w6.cell? ⟨Du,4,none⟩=some (.slice none 0 0):=(aA rM.o 4).trans rfl;have aFt:w6.cell? ⟨Du,5,none⟩=some (.slice none 0 0):=(aA rM.o 5).trans rfl;have aHe:=bu rM.o 0;have aHf:=bu rM.o 1;have aHg:=bu rM.o 2;have aHh:=bu rM.o 3;have aHi:=bu rM.o 4;have aHj:=bu rM.o 5)|((go_at_call 75;refine (uL.calls k _ _ az t25 _ ?aR rR.o A2.o).mono ?_;(case aR=>exact Kd.bi oI.o (bs HB));rintro e nZ ⟨v28,rfl,ho0,hb⟩);have X7:=am (Kd.ic ho0 (bJ (bs HB)));replace jS:=bb jS hb;replace jr:=bb jr hb;replace rM:=am (aU (g:=Du) (o:=.cells #[.int .i64 ag,.string aj,.string ak,.int .i64 aM,.slice none 0 0,.slice none 0 0] 45 (0,0)) (kp rM) hb);replace HB:=bq HB hb;(try clear hb);(try clear ho0);obtain ⟨Gt,Hl,Og⟩:=Kd.gW X7.o;subst Og;have ad3:=dO rM;have aFF:nZ.cell? ⟨Fa,0,none⟩=some (.int .i64 ag):=(aA jS.o 0).trans rfl;have aFG:nZ.cell? ⟨Fa,1,none⟩=some (.string aj):=(aA jS.o 1).trans rfl;have aFH:nZ.cell? ⟨Fa,2,none⟩=some (.string ak):=(aA jS.o 2).trans rfl;have aFI:nZ.cell? ⟨Fa,3,none⟩=some (.int .i64 aM):=(aA jS.o 3).trans rfl;have aFJ:nZ.cell? ⟨Fa,4,none⟩=some (.slice dB az.length dx):=(aA jS.o 4).trans rfl;have aFK:nZ.cell? ⟨Fa,5,none⟩=some (.slice dJ ah.length df):=(aA jS.o 5).trans rfl;have aHo:=bu jS.o 0;have aHp:=bu jS.o 1;have aHq:=bu jS.o 2;have aHr:=bu jS.o 3;have aHs:=bu jS.o 4;have aHt:=bu jS.o 5)|((go_at_call 76;refine (wQ.calls k _ _ ah t24 _ ?aR qW.o A3.o).mono ?_;(case aR=>exact Kd.bi ni.o (bs HB));rintro e w16 ⟨v29,rfl,ho0,hb⟩);replace X7:=am (Kd.cu (by (with_reducible repeat (first|apply Kd.kM|apply Kd.jK|apply Kd.eO));exact (Kd.dE (rf (Kd.mi X7.o rM.o (by decide))) (fun _ h_=>h_.1))) hb);have ah2:=am (Kd.ic ho0 (bJ (bs HB)));replace jS:=am (aU (ks jS) hb);replace jr:=am (aU (ks jr) hb);replace rM:=am (aU (g:=Du) (o:=.cells #[.int .i64 ag,.string aj,.string ak,.int .i64 aM,.slice Gt t25.length Hl,.slice none 0 0] 45 (0,0)) (kp rM) hb);replace HB:=am (gP (bs HB) hb);(try clear hb);(try clear ho0);obtain ⟨En,EX,SX⟩:=Kd.gW ah2.o;subst SX;have KQ:=dO rM;have Oo:=dO jr))
 refine bodyPost_ret (results_cell_row rfl _ _ om 45 #[.int .i64 ag,.string aj,.string ak,.int .i64 aM,.slice Gt t25.length Hl,.slice En t24.length EX] (0,0) _ rfl (kp jr) Tryz.underlying45 rfl (by kernel_rfl)) rfl ?_
 exact ⟨_,_,ff,by (with_reducible repeat (first|apply Kd.kM|apply Kd.jK|apply Kd.eO));exact Kd.dE (Kd.qC (p:=⟨om,5,none⟩) (Kd.qC (p:=⟨om,4,none⟩) (Kd.qC (p:=⟨om,3,none⟩) (Kd.qC (p:=⟨om,2,none⟩) (Kd.qC (p:=⟨om,1,none⟩) (Kd.qC (p:=⟨om,0,none⟩) (Kd.qC (p:=⟨Du,5,none⟩) (Kd.mi (Kd.mi X7.o rM.o (by decide)) jr.o (by decide)) (fun _ hk=>hk.1.2) (.slice En t24.length EX)) (fun _ hk=>hk.2) (.int .i64 ag)) (fun _ hk=>hk.2) (.string aj)) (fun _ hk=>hk.2) (.string ak)) (fun _ hk=>hk.2) (.int .i64 aM)) (fun _ hk=>hk.2) (.slice Gt t25.length Hl)) (fun _ hk=>hk.2) (.slice En t24.length EX)) (fun _ hk=>trivial),by (with_reducible repeat (first|apply Kd.kM|apply Kd.jK|apply Kd.eO));exact Kd.dE (Kd.qC (p:=⟨om,5,none⟩) (Kd.qC (p:=⟨om,4,none⟩) (Kd.qC (p:=⟨om,3,none⟩) (Kd.qC (p:=⟨om,2,none⟩) (Kd.qC (p:=⟨om,1,none⟩) (Kd.qC (p:=⟨om,0,none⟩) (Kd.qC (p:=⟨Du,5,none⟩) (Kd.mi (Kd.mi ah2.o rM.o (by decide)) jr.o (by decide)) (fun _ hk=>hk.1.2) (.slice En t24.length EX)) (fun _ hk=>hk.2) (.int .i64 ag)) (fun _ hk=>hk.2) (.string aj)) (fun _ hk=>hk.2) (.string ak)) (fun _ hk=>hk.2) (.int .i64 aM)) (fun _ hk=>hk.2) (.slice Gt t25.length Hl)) (fun _ hk=>hk.2) (.slice En t24.length EX)) (fun _ hk=>trivial),bs HB⟩
theorem uK.calls (k:Nat)(A0:Option Addr)(c0:Nat)(l0:List mK)(r:List eT)(w:World)(hr0:Kd.C DR w A0 l0.length l0)(hc0:l0.length≤c0)(H:uK.f k l0=some r) :
  Calls Tryz.prog 20 #[.slice A0 l0.length c0] w fun e w'=>∃ lX:Value,e=.returned (lX)∧Kd.S jG 45 w' w.heap.size (fun _=>True) lX r∧Below w.heap.size w w':=by
 have aeK:=Tryz.underlying56;have xq:=Tryz.underlying45;have bG:=am hr0;have jC:=am hc0;clear hr0 hc0;have HB:=am (Below.refl w.heap.size w);unfold uK.f at H
 revert H;refine gT ?_ ?_
 ·intro c2 H;have gQ:=eq_true c2;have jE:decide (0≤(l0.length:Int))=true:=decide_eq_true c2;clear c2
  revert H;refine ku ?_
  intro c3 H;have aY:=eq_true c3;have dS:decide (((l0.length:Int):Int).toNat≤2932031007402)=true:=decide_eq_true c3;clear c3;obtain ⟨Jp,K7⟩:∃ y_:List eT,y_=(List.replicate ((l0.length:Int):Int).toNat z45):=⟨_,rfl⟩
  replace H:(uK.l0 k l0 Jp 0)=some r:=ye K7 H
  have RG:=am K7;clear K7;have H':=am H;clear H
  go_in
  go_wp2_with (first|((with_reducible refine aJ (N:=7) rfl ?_);refine Kd.asC jG _ 45 rfl (N:=7) rfl 27 _ _ rfl (l0.length:Int) rfl rfl Tryz.underlying27 (.agg #[(.int .i64 0),(.string ⟨#[]⟩),(.string ⟨#[]⟩),(.int .i64 0),(.slice none 0 0),(.slice none 0 0)]) 96 axQ rfl (by decide) (by omega) z45 (ok:=fun _=>True) (okp:=fun _=>True) (afM _ _ _ z45 (Kd.rq _ _ _ _ _) (Kd.rq _ _ _ _ _)) (fun _ hk=>hk) trivial (oa) (Nat.le_trans (Nat.mul_le_mul_right _ (oa:(l0.length:Int).toNat≤2932031007402)) (by omega)) (Below.refl _ _) (Nat.le_refl _) ?_;intro v30 w4 Ci hb hg_ hnew_;clear hg_ hnew_;(first|rw [← RG.o] at Ci|(simp only [Int.reduceToNat] at Ci;rw [← RG.o] at Ci));have X9:=am (Kd.mM Ci (bJ (bs HB)));replace HB:=bq HB hb;clear hb Ci))
  go_loopg [4] k (fun kq v4 w'=>∃ (dU:List eT) (dY:Int),v4=.int .i64 dY∧af (uK.l0 kq l0 dU dY=some r)∧af (kq≤k)∧af (Kd.S jG 45 w' w.heap.size (fun _=>True) v30 dU)∧af (Below w.heap.size w w'))
  case atStart=>exact ⟨(Jp),(0),fg,H',⟨Nat.le_refl _⟩,⟨by (with_reducible repeat (first|apply Kd.iH|apply Kd.iJ|apply Kd.fU));exact X9.o⟩,⟨bs HB⟩⟩
  case round =>
   clear H'
   try clear c2
   try clear gQ
   try clear jE
   try clear c3
   try clear aY
   try clear dS
   obtain ⟨dU,dY,rfl,HA,aQ,gU,HB⟩:=hrel
   cases gk with
   | zero=>exact absurd HA.o (by simp [uK.l0])
   | succ k1 =>
    have H:=HA.o;clear HA;simp only [uK.l0] at H
    revert H;refine bK ?_ ?_
    ·intro gu H
     revert H;refine bv ?_
     intro kH H;replace H:=bo H;obtain ⟨⟨t17,lK,mG,t22,t25,t26⟩,A8,H⟩:=H;(try dsimp only at H)
     revert H;refine bv ?_
     intro nN H;obtain ⟨Gp,K8⟩:∃ y_:List eT,y_=(dU.set (dY:Int).toNat (⟨t17,lK,mG,t22,t25,t26⟩:eT)):=⟨_,rfl⟩
     replace H:(uK.l0 k1 l0 Gp (wrap64 (dY+1)))=some r:=ye K8 H
     have Yl:=am K8;clear K8;have H':=am H;clear H;obtain ⟨uf,ug,Dk,XF,Y6,XG,Y7,e14,iQ,jM,rD,Ad,Af,Ai,H9,H5,Ia,H6⟩:=wi (aji bG.o dY)
     cases e14
     replace iQ:=cb HB iQ;replace jM:=cb HB jM;replace rD:=cb HB rD;replace Ad:=cb HB Ad;replace Af:=cb HB Af;replace Ai:=cb HB Ai;have JG:=am H5;have Q8:=am H9;clear H5 H9;have JH:=am H6;have Q9:=am Ia;clear H6 Ia
     go_wp2_with (first|((go_at_call 39;refine (LG.calls k1 ((jW l0 dY).f0) ((jW l0 dY).f1) ((jW l0 dY).f2) ((jW l0 dY).f3) _ _ ((jW l0 dY).f4) _ _ ((jW l0 dY).f5) t17 lK mG t22 t25 t26 _ (Kd.bi JG.o (bs HB)) Q8.o (Kd.bi JH.o (bs HB)) Q9.o A8.o).mono ?_;rintro e jY ⟨v28,v29,rfl,ho0,ho1,hb⟩);replace gU:=am (Kd.eF (Kd.ai3 (Kd.ai3 (Kd.asD (by (with_reducible repeat (first|apply Kd.iH|apply Kd.iJ|apply Kd.fU));exact gU.o) hb) (Kd.qZ ho0)) (Kd.qZ ho1)) (fun _ h_=>h_.1));have Nt:=am (Kd.ic ho0 (bJ (bs HB)));have EA:=am (Kd.ic ho1 (bJ (bs HB)));replace HB:=am (gP (bs HB) hb);(try clear hb);(try clear ho0);(try clear ho1);have jT:0≤(dY:Int):=oa;have jP:(dY:Int)<((dU.length:Int):Int):=oa;obtain ⟨oK,SC,KE,adW,avQ,aE2,ahQ⟩:=Kd.NN gU.o (by omega);(first|cases KE|(injection KE with ea_ en_ ec_;(first|subst ea_|(injection ea_ with ea_;subst ea_));subst ec_;clear en_));have Nf:=am adW;have aDy:=am ahQ;clear adW avQ ahQ;obtain ⟨_,aEZ,avV,aku,KL,KT,_,_⟩:=Kd.Ka gU.o z45 (dY:Int) jT jP;obtain ⟨aCy,aCz,rfl,aE8,aE9⟩:=afN aku;have ww:jY.cell? ⟨oK,(dY:Int).toNat * 6,none⟩=some (.int .i64 ((aG dU dY).f0)):=KL 0 _ rfl;have xu:jY.cell? ⟨oK,(dY:Int).toNat * 6+1,none⟩=some (.string ((aG dU dY).f1)):=KL 1 _ rfl;have yu:jY.cell? ⟨oK,(dY:Int).toNat * 6+2,none⟩=some (.string ((aG dU dY).f2)):=KL 2 _ rfl;have amu:jY.cell? ⟨oK,(dY:Int).toNat * 6+3,none⟩=some (.int .i64 ((aG dU dY).f3)):=KL 3 _ rfl;have amv:jY.cell? ⟨oK,(dY:Int).toNat * 6+4,none⟩=some (aCy):=KL 4 _ rfl;have aLA:jY.cell? ⟨oK,(dY:Int).toNat * 6+5,none⟩=some (aCz):=KL 5 _ rfl;have aGv:jY.frozen? ⟨oK,(dY:Int).toNat * 6,none⟩=false:=KT 0;have aGw:jY.frozen? ⟨oK,(dY:Int).toNat * 6+1,none⟩=false:=KT 1;have aGx:jY.frozen? ⟨oK,(dY:Int).toNat * 6+2,none⟩=false:=KT 2;have aGy:jY.frozen? ⟨oK,(dY:Int).toNat * 6+3,none⟩=false:=KT 3;have aGz:jY.frozen? ⟨oK,(dY:Int).toNat * 6+4,none⟩=false:=KT 4;have aGA:jY.frozen? ⟨oK,(dY:Int).toNat * 6+5,none⟩=false:=KT 5;clear avV KL KT aku;replace jT:=eq_true jT;replace jP:=eq_true jP;have n_:=am (Kd.eF (ok':=(fun k_=>some k_≠(v28:Value).ownBlock∧some k_≠(v29:Value).ownBlock)) gU.o (fun k_ hk=>⟨hk.1.2,hk.2⟩));clear gU;have gU:=n_;clear n_;have ard:=am (show Kd.S jG 45 jY w.heap.size (fun k_=>((fun _=>True)) k_∧¬ ((fun k_=>some k_=(v28:Value).ownBlock∨some k_=(v29:Value).ownBlock)) k_) (.slice (some ⟨oK,0,none⟩) dU.length SC) dU from (by (with_reducible repeat (first|apply Kd.iH|apply Kd.iJ|apply Kd.fU));exact Kd.eF gU.o (fun k_ hk=>⟨trivial,fun e_=>e_.elim (fun h_=>hk.1 h_) (fun h_=>hk.2 h_)⟩)));obtain ⟨aLM,aE0,avW,akv,KM,KU,axt,akt⟩:=Kd.Ka ard.o z45 (dY:Int) (oa) (by have h_:(dY:Int)<((dU.length:Int):Int):=oa;first|exact h_|(have e_:=(Kd.sI gU.o).1;omega)|simpa using h_);obtain ⟨aML,aMM,rfl,aFa,aFb⟩:=afN akv;have acp:=Kd.asF akt (oa) (by have h_:(dY:Int)<((dU.length:Int):Int):=oa;first|exact h_|(have e_:=(Kd.sI gU.o).1;omega)|simpa using h_) (seg:=[.int .i64 t17,.string lK,.string mG,.int .i64 t22,v28,v29]) (j:=0) (show 6≤6 from by decide) (x':=(⟨t17,lK,mG,t22,t25,t26⟩:eT)) (afM _ _ _ (⟨t17,lK,mG,t22,t25,t26⟩:eT) (Kd.dE (Kd.Yr rfl (Kd.dE (ok':=fun k_=>((fun _=>True)) k_∧k_≠oK) (Kd.GK (Nt.o) (Kd.Bv gU.o) (by decide)) (fun k_ hk=>⟨trivial,fun e_=>(hk.2) (by rw [e_];rfl)⟩))) (fun _ h_=>Or.inr (Or.inl h_))) (Kd.dE (Kd.Yr rfl (Kd.dE (ok':=fun k_=>((fun _=>True)) k_∧k_≠oK) (Kd.GK (EA.o) (Kd.Bv gU.o) (by decide)) (fun k_ hk=>⟨trivial,fun e_=>(hk.2) (by rw [e_];rfl)⟩))) (fun _ h_=>Or.inr (Or.inr (h_))))) (fun _ hk=>hk) (fun k_ hk_=>hk_.elim (fun h_=>((Kd.dE (ok':=fun k_=>((fun _=>True)) k_∧k_≠oK) (Kd.GK (Nt.o) (Kd.Bv gU.o) (by decide)) (fun k_ hk=>⟨trivial,fun e_=>(hk.2) (by rw [e_];rfl)⟩))).1 k_ h_.symm) (fun h_=>((Kd.dE (ok':=fun k_=>((fun _=>True)) k_∧k_≠oK) (Kd.GK (EA.o) (Kd.Bv gU.o) (by decide)) (fun k_ hk=>⟨trivial,fun e_=>(hk.2) (by rw [e_];rfl)⟩))).1 k_ h_.symm));have nO:=KM 0 _ rfl;(try simp only [show (jG).sz=6 from rfl,Nat.mul_one,Nat.add_zero] at nO);have awo:=KU 0;(try simp only [show (jG).sz=6 from rfl,Nat.mul_one,Nat.add_zero] at awo);have K3:=KM 1 _ rfl;(try simp only [show (jG).sz=6 from rfl,Nat.mul_one,Nat.add_zero] at K3);have awp:=KU 1;(try simp only [show (jG).sz=6 from rfl,Nat.mul_one,Nat.add_zero] at awp);have Ih:=KM 2 _ rfl;(try simp only [show (jG).sz=6 from rfl,Nat.mul_one,Nat.add_zero] at Ih);have awq:=KU 2;(try simp only [show (jG).sz=6 from rfl,Nat.mul_one,Nat.add_zero] at awq);have Z4:=KM 3 _ rfl;(try simp only [show (jG).sz=6 from rfl,Nat.mul_one,Nat.add_zero] at Z4);have awr:=KU 3;(try simp only [show (jG).sz=6 from rfl,Nat.mul_one,Nat.add_zero] at awr);have Z5:=KM 4 _ rfl;(try simp only [show (jG).sz=6 from rfl,Nat.mul_one,Nat.add_zero] at Z5);have aws:=KU 4;(try simp only [show (jG).sz=6 from rfl,Nat.mul_one,Nat.add_zero] at aws);have Z6:=KM 5 _ rfl;(try simp only [show (jG).sz=6 from rfl,Nat.mul_one,Nat.add_zero] at Z6);have awt:=KU 5;(try simp only [show (jG).sz=6 from rfl,Nat.mul_one,Nat.add_zero] at awt);clear avW KM KU akv axt akt)|((with_reducible refine oJ (t:=45) (p:=21) rfl ?_);refine pg (t:=45) (p:=21) (v:=?aMQ) (w1:=((((((jY.setCell ⟨oK,(dY:Int).toNat * 6,none⟩ (.int .i64 t17)).setCell ⟨oK,(dY:Int).toNat * 6+1,none⟩ (.string lK)).setCell ⟨oK,(dY:Int).toNat * 6+2,none⟩ (.string mG)).setCell ⟨oK,(dY:Int).toNat * 6+3,none⟩ (.int .i64 t22)).setCell ⟨oK,(dY:Int).toNat * 6+4,none⟩ (v28)).setCell ⟨oK,(dY:Int).toNat * 6+5,none⟩ (v29))) ?hg ?ho ?hn ?hr ?_;(case ho=>rfl);(case hg=>rfl);(case hn=>rfl);(case hr=>first|(go_simp;done)|(go_simp;rfl)|((try (first|(obtain ⟨ahk,ajO,SS⟩:=Kd.gW Nt.o;subst SS)|(obtain ⟨ahk,ajO,SS⟩:=Kd.gW (Kd.rW Nt.o);subst SS)|(obtain ⟨ahk,ajO,SS⟩:=Kd.J8 Nt.o;subst SS)));(try (first|(obtain ⟨ahl,ajP,SV⟩:=Kd.gW EA.o;subst SV)|(obtain ⟨ahl,ajP,SV⟩:=Kd.gW (Kd.rW EA.o);subst SV)|(obtain ⟨ahl,ajP,SV⟩:=Kd.J8 EA.o;subst SV)));first|(go_simp;done)|(go_simp;rfl)));intro tC hw;have hg:jY.grownBy tC (some oK):=(by rw [hw];exact acp.2);have hp_:Kd.S jG 45 tC w.heap.size (fun _=>True) (.slice (some ⟨oK,0,none⟩) dU.length SC) Gp:=(by rw [hw,Yl.o];exact acp.1);clear acp;replace gU:=am (hp_);replace HB:=am ((by rw [hw];exact eX (eX (eX (eX (eX (eX (HB.o) Nf.o) Nf.o) Nf.o) Nf.o) Nf.o) Nf.o:Below w.heap.size w tC));clear Nt;clear EA;clear hg hw hp_))
     go_roundg k1
     case measure=>have:=aQ.o;omega
     case rel=>exact ⟨(Gp),(wrap64 (dY+1)),fg,H',⟨by have:=aQ.o;omega⟩,⟨by (with_reducible repeat (first|apply Kd.iH|apply Kd.iJ|apply Kd.fU));exact gU.o⟩,⟨bs HB⟩⟩
    ·intro gu H;obtain rfl:=si H
     go_wp2
     go_ret
     exact ⟨_,ff,by (with_reducible repeat (first|apply Kd.iH|apply Kd.iJ|apply Kd.fU));exact gU.o,bs HB⟩
 ·intro c2 H
  exact absurd H (by simp)
theorem zF.calls (k:Nat)(ag aj:ByteArray)(ak:Int)(dZ:Option Addr)(dW:Nat)(au:List mK)(r1 r2:ByteArray)(r3:Int)(r4:List eT)(w:World)(jl:Kd.C DR w dZ au.length au)(jk:au.length≤dW)(H:zF.f k ag aj ak au=some (r1,r2,r3,r4)) :
  Calls Tryz.prog 7 #[.agg #[.string ag,.string aj,.int .i64 ak,.slice dZ au.length dW]] w fun e w'=>∃ tq:Value,e=.returned (.agg #[.string r1,.string r2,.int .i64 r3,tq])∧Kd.S jG 45 w' w.heap.size (fun _=>True) tq r4∧Below w.heap.size w w':=by
 have axy:=Tryz.underlying24;have U3:=Tryz.underlying29;have oH:=am jl;have qw:=am jk;clear jl jk;have HB:=am (Below.refl w.heap.size w);unfold zF.f at H;replace H:=bo H;obtain ⟨mG,A2,H⟩:=H;replace H:=F3 H;obtain ⟨rfl,rfl,rfl,rfl⟩:=H
 go_in
 go_wp2_with (first|((with_reducible refine aJ (N:=1) rfl ?_);refine bz 1 (cs:=#[.string ag,.string aj,.int .i64 ak,.slice dZ au.length dW]) (t:=24) HB ?_;clear HB;intro ako hg w3 lL ahD hb HB;clear hb hg)|((with_reducible refine aJ (N:=2) rfl ?_);refine bz 2 (cs:=#[.string (⟨#[]⟩:ByteArray),.string (⟨#[]⟩:ByteArray),.int .i64 0,.slice none 0 0]) (t:=29) HB ?_;clear HB;intro gy hg w4 bR Bi hb HB;have ED:=na hg lL;have EC:=nc hg lL;replace lL:=bb lL hb;clear hb hg)|((with_reducible refine aJ (N:=3) rfl ?_);refine bz 3 (cs:=#[.string (⟨#[]⟩:ByteArray),.string (⟨#[]⟩:ByteArray),.int .i64 0,.slice none 0 0]) (t:=29) HB ?_;clear HB;intro rZ hg w5 fA ahC hb HB;have arN:=na hg lL;have arL:=nc hg lL;replace lL:=bb lL hb;have arM:=na hg bR;have arK:=nc hg bR;replace bR:=bb bR hb;clear hb hg;have aeB:=ED.o;have aeH:=EC.o;have ZW:=arN.o;have ZY:=arL.o;have BU:=aX lL;have UH:=arK.o;have UL:=arM.o;have aFh:w5.cell? ⟨rZ,0,none⟩=some (.string (⟨#[]⟩:ByteArray)):=(aA fA.o 0).trans rfl;have aFi:w5.cell? ⟨rZ,1,none⟩=some (.string (⟨#[]⟩:ByteArray)):=(aA fA.o 1).trans rfl;have aFj:w5.cell? ⟨rZ,2,none⟩=some (.int .i64 0):=(aA fA.o 2).trans rfl;have aFk:w5.cell? ⟨rZ,3,none⟩=some (.slice none 0 0):=(aA fA.o 3).trans rfl;have aHa:=bu fA.o 0;have aHb:=bu fA.o 1;have aHc:=bu fA.o 2;have aHd:=bu fA.o 3)|((go_at_call 20;refine (uK.calls k _ _ au mG _ ?aR qw.o A2.o).mono ?_;(case aR=>exact Kd.bi oH.o (bs HB));rintro e jY ⟨v22,rfl,ho0,hb⟩);have Gw:=am (Kd.mM ho0 (bJ (bs HB)));replace lL:=bb lL hb;replace bR:=bb bR hb;replace fA:=am (aU (g:=rZ) (o:=.cells #[.string ag,.string aj,.int .i64 ak,.slice none 0 0] 29 (0,0)) (kp fA) hb);replace HB:=bq HB hb;(try clear hb);(try clear ho0);obtain ⟨Jy,KD,adQ⟩:=Kd.ji Gw.o;subst adQ;have zY:=aX fA;have ad3:=aX bR))
 refine bodyPost_ret (results_cell_row rfl _ _ gy 29 #[.string ag,.string aj,.int .i64 ak,.slice Jy mG.length KD] (0,0) _ rfl (kp bR) Tryz.underlying29 rfl (by kernel_rfl)) rfl ?_
 exact ⟨_,ff,by (with_reducible repeat (first|apply Kd.iH|apply Kd.iJ|apply Kd.fU));exact Kd.eF (Kd.jv (p:=⟨gy,3,none⟩) (Kd.jv (p:=⟨gy,2,none⟩) (Kd.jv (p:=⟨gy,1,none⟩) (Kd.jv (p:=⟨gy,0,none⟩) (Kd.jv (p:=⟨rZ,3,none⟩) (Kd.ze (Kd.ze Gw.o fA.o (by decide)) bR.o (by decide)) (fun _ hk=>hk.1.2) (.slice Jy mG.length KD)) (fun _ hk=>hk.2) (.string ag)) (fun _ hk=>hk.2) (.string aj)) (fun _ hk=>hk.2) (.int .i64 ak)) (fun _ hk=>hk.2) (.slice Jy mG.length KD)) (fun _ hk=>trivial),bs HB⟩
theorem fK.calls (k:Nat)(a0:Int)(r:ByteArray)(w:World)(H:fK.f k a0=some r) :
  Calls Tryz.prog 61 #[.int .i64 a0] w fun e w'=>e=.returned (.string r)∧Below w.heap.size w w':=by
 have HB:=am (Below.refl w.heap.size w);unfold fK.f at H
 revert H;refine bH ?_ ?_
 ·intro gQ jE H;obtain rfl:=si H
  go_in
  go_wp2
  go_ret
  exact ⟨ff,bs HB⟩
 ·intro c2 gQ jE H;have H':=am H;clear H
  go_in
  go_wp2
  go_loopg [0,4] k (fun kq v0 v4 w'=>∃ (kR:Int) (dY:ByteArray),v0=.int .i64 kR∧v4=.string dY∧af (fK.l0 kq kR (decide (a0<0)) dY=some r)∧af (kq≤k)∧af (Below w.heap.size w w'))
  case atStart=>exact ⟨(a0),((⟨#[]⟩:ByteArray)),fg,fg,H',⟨Nat.le_refl _⟩,⟨bs HB⟩⟩
  case round =>
   clear H'
   try clear c2
   try clear gQ
   try clear jE
   obtain ⟨kR,dY,rfl,rfl,HA,aQ,HB⟩:=hrel
   cases gk with
   | zero=>exact absurd HA.o (by simp [fK.l0])
   | succ k1 =>
    have H:=HA.o;clear HA;simp only [fK.l0] at H
    revert H;refine bH ?_ ?_
    ·intro aY dS H
     revert H;refine gT ?_ ?_
     ·intro c4 H;have dF:(decide (a0<0))=true:=c4
      (first|rw [dF]|skip)
      clear c4
      revert H;refine ku ?_
      intro c5 H;have ja:=eq_true c5;have sJ:decide (1+dY.size≤9223372036854775807)=true:=decide_eq_true c5
      try have aEG:(9223372036854775807<1+dY.size)=False:=eq_false (Nat.not_lt.2 c5)
      obtain rfl:=si H
      go_wp2
      go_ret
      exact ⟨ff,bs HB⟩
     ·intro c4 H
      have dF:(decide (a0<0))=false:=by simpa using c4
      (first|rw [dF]|skip)
      clear c4;obtain rfl:=si H
      go_wp2
      go_ret
      exact ⟨ff,bs HB⟩
    ·intro c3 aY dS H
     revert H;refine bK ?_ ?_
     ·intro gu H;obtain ⟨Jp,K7⟩:∃ y_:List Int,y_=(([(wrap64 (48+(wrap64 (-(Int.tmod kR 10))))) % 256]:List Int)):=⟨_,rfl⟩
      replace H:(if (strOfNums Jp).size+dY.size≤9223372036854775807 then (fK.l0 k1 (wrap64 (Int.tdiv kR 10)) (decide (a0<0)) ((strOfNums Jp)++dY)) else none)=some r:=ye K7 H
      have RG:=am K7;clear K7
      revert H;refine ku ?_
      intro c7 H;have kH:=eq_true c7;have zV:decide ((strOfNums Jp).size+dY.size≤9223372036854775807)=true:=decide_eq_true c7
      try have aEQ:(9223372036854775807<(strOfNums Jp).size+dY.size)=False:=eq_false (Nat.not_lt.2 c7)
      have H':=am H;clear H
      go_wp2_with (first|((with_reducible refine aJ (N:=21) rfl ?_);refine rl (Kd.int .u8) 5 (N:=21) (xs:=([(wrap64 (48+(wrap64 (-(Int.tmod kR 10))))) % 256]:List Int)) (inner:=[.int .u8 ((wrap64 (48+(wrap64 (-(Int.tmod kR 10))))) % 256)]) ?hp ?_;(case hp=>exact (aV.one (show Kd.M (Kd.int .u8) _ _ _ ((wrap64 (48+(wrap64 (-(Int.tmod kR 10))))) % 256) [.int .u8 ((wrap64 (48+(wrap64 (-(Int.tmod kR 10))))) % 256)] from rfl) (aV.none _ _)));intro v19 w8 zu hb hg_ hnew_;clear hg_ hnew_;(first|rw [← RG.o] at zu|(simp only [Int.reduceToNat] at zu;rw [← RG.o] at zu));have acg:=am (Kd.ic zu (bJ (bs HB)));replace HB:=bq HB hb;clear hb zu;have aFc:=af1 (P:=Tryz.prog) Tryz.underlying124 Tryz.underlying5 Tryz.underlying9 (Kd.Wj acg.o)))
      go_roundg k1
      case measure=>have:=aQ.o;omega
      case rel=>exact ⟨(wrap64 (Int.tdiv kR 10)),((strOfNums Jp)++dY),fg,fg,H',⟨by have:=aQ.o;omega⟩,⟨bs HB⟩⟩
     ·intro gu H;obtain ⟨Gp,K8⟩:∃ y_:List Int,y_=(([(wrap64 (48+(Int.tmod kR 10))) % 256]:List Int)):=⟨_,rfl⟩
      replace H:(if (strOfNums Gp).size+dY.size≤9223372036854775807 then (fK.l0 k1 (wrap64 (Int.tdiv kR 10)) (decide (a0<0)) ((strOfNums Gp)++dY)) else none)=some r:=ye K8 H
      have Yl:=am K8;clear K8
      revert H;refine gT ?_ ?_
      ·intro c11 H;have xh:=eq_true c11;have EO:decide ((strOfNums Gp).size+dY.size≤9223372036854775807)=true:=decide_eq_true c11
       try have aEr:(9223372036854775807<(strOfNums Gp).size+dY.size)=False:=eq_false (Nat.not_lt.2 c11)
       have H':=am H;clear H
       go_wp2_with (first|((with_reducible refine aJ (N:=21) rfl ?_);refine rl (Kd.int .u8) 5 (N:=21) (xs:=([(wrap64 (48+(Int.tmod kR 10))) % 256]:List Int)) (inner:=[.int .u8 ((wrap64 (48+(Int.tmod kR 10))) % 256)]) ?hp ?_;(case hp=>exact (aV.one (show Kd.M (Kd.int .u8) _ _ _ ((wrap64 (48+(Int.tmod kR 10))) % 256) [.int .u8 ((wrap64 (48+(Int.tmod kR 10))) % 256)] from rfl) (aV.none _ _)));intro v20 nZ UM hb hg_ hnew_;clear hg_ hnew_;(first|rw [← Yl.o] at UM|(simp only [Int.reduceToNat] at UM;rw [← Yl.o] at UM));have aqe:=am (Kd.ic UM (bJ (bs HB)));replace HB:=bq HB hb;clear hb UM;have aFd:=af1 (P:=Tryz.prog) Tryz.underlying124 Tryz.underlying5 Tryz.underlying9 (Kd.Wj aqe.o)))
       go_roundg k1
       case measure=>have:=aQ.o;omega
       case rel=>exact ⟨(wrap64 (Int.tdiv kR 10)),((strOfNums Gp)++dY),fg,fg,H',⟨by have:=aQ.o;omega⟩,⟨bs HB⟩⟩
      ·intro c11 H
       exact absurd H (by simp)
theorem DX.calls (a0:Int)(r:Bool)(w:World)(H:DX.f a0=some r) :
  Calls Tryz.prog 62 #[.int .i64 a0] w fun e w'=>e=.returned (.bool r)∧aW w w':=by
 unfold DX.f at H
 revert H;refine bH ?_ ?_
 ·intro gQ jE H;obtain rfl:=si H
  go_in
  go_wp2
  go_ret
  exact ⟨fg,dr⟩
 ·intro c2 gQ jE H
  revert H;refine bH ?_ ?_
  ·intro aY dS H;obtain rfl:=si H
   go_in
   go_wp2
   go_ret
   exact ⟨fg,dr⟩
  ·intro c3 aY dS H;obtain rfl:=si H
   go_in
   go_wp2
   go_ret
   exact ⟨fg,dr⟩
def ib.T5:Bool × List (List Nat × List Nat):=(true,[([],[]),([0],[0]),([],[]),([],[]),([2,3],[2,3]),([4],[4]),([5],[5]),([6],[6]),([7],[7]),([1,8],[1,8]),([0,1,2,3,4,5,6,7,8,9],[]),([10,9,9,0,1,2,3,4,5,6,7,8,9],[9,10])])
def ib.B5:List Nat:=[0,1,0,0,12,28,60,124,252,511,1023,2047]
theorem ib.aa3:fD .any (opsOf Tryz.f63 5)=ib.T5:=by kernel_rfl
theorem ib.YL:jg ib.T5.2 ib.B5=true:=by kernel_rfl
theorem ib.calls (k:Nat)(a0:ByteArray)(A1:Option Addr)(c1:Nat)(l1:List ByteArray)(r1:ByteArray)(r2:List bN)(w:World)(hr1:Kd.C Kd.string w A1 l1.length l1)(hc1:l1.length≤c1)(H:ib.f k a0 l1=some (r1,r2)) :
  Calls Tryz.prog 63 #[.string a0,.slice A1 l1.length c1] w fun e w'=>∃ Ja:Value,e=.returned (.agg #[.string r1,Ja])∧Kd.S jO 97 w' w.heap.size (fun _=>True) Ja r2∧Below w.heap.size w w':=by
 have r9:=Tryz.underlying62;have Dy:=Tryz.underlying97;have HR1:=am hr1;have uY:=am hc1;clear hr1 hc1;have HB:=am (Below.refl w.heap.size w);unfold ib.f at H;have H':=am H;clear H
 go_in
 go_wp2_with (first|((with_reducible refine aJ (N:=4) rfl ?_);refine bz 4 (cs:=#[.string (⟨#[]⟩:ByteArray),.slice none 0 0]) (t:=62) HB ?_;clear HB;intro ZF hg w3 tK aDF hb HB;clear hb hg)|((with_reducible refine aJ (N:=5) rfl ?_);refine bz 5 (cs:=#[.string (⟨#[]⟩:ByteArray),.slice none 0 0]) (t:=62) HB ?_;clear HB;intro kX hg w4 dM ahF hb HB;have acN:=na hg tK;have acM:=nc hg tK;replace tK:=bb tK hb;clear hb hg;have ZV:=acM.o;have ZX:=acN.o;have Dw:=fM dM))
 go_loopg [6] k (fun kq v6 w'=>∃ (dP:Int) (Gf:List bN) (ML:Value),v6=.int .i64 dP∧af (ib.l0 kq l1 dP a0 Gf=some (r1,r2))∧af (kq≤k)∧af (Kd.S jO 97 w' w.heap.size (fun _=>True) ML Gf)∧af (w'.heap[ZF]? = some (.cells #[.string (⟨#[]⟩:ByteArray),(.slice none 0 0)] 62 (0,0)))∧af (w'.heap[kX]? = some (.cells #[.string a0,ML] 62 (0,0)))∧af (Below w.heap.size w w'))
 case atStart=>exact ⟨(0),(([]:List bN)),(.slice none 0 0),fg,H',⟨Nat.le_refl _⟩,⟨by first|exact Kd.rX _ _ _ _ _|exact Kd.uZ _ _ _ _ _|exact Kd.vk _ _ _ _ _|exact Kd.u6 _ _ _ _ _|exact Kd.rq _ _ _ _ _⟩,⟨ks tK⟩,⟨kp dM⟩,⟨bs HB⟩⟩
 case round =>
  clear H'
  try clear c1
  try clear Dw
  try clear tK
  try clear dM
  obtain ⟨dP,Gf,ML,rfl,HA,aQ,y9,tK,dM,HB⟩:=hrel
  cases gk with
  | zero=>exact absurd HA.o (by simp [ib.l0])
  | succ k1 =>
   have H:=HA.o;clear HA;simp only [ib.l0] at H
   revert H;refine bK ?_ ?_
   ·intro kH H
    revert H;refine bv ?_
    intro kr H;obtain ⟨y29,hy29⟩:∃ y_:List ByteArray,y_=(([bA ByteArray.empty l1 dP]:List ByteArray)):=⟨_,rfl⟩
    replace H:(if Gf.length<5864062014805 then (ib.l0 k1 l1 (wrap64 (dP+1)) a0 (Gf++[(⟨y29⟩:bN)])) else none)=some (r1,r2):=ye hy29 H
    have aiB:=am hy29;clear hy29
    revert H;refine ku ?_
    intro c9 H;have arC:=am c9;clear c9;obtain ⟨y30,afe⟩:∃ y_:List bN,y_=(Gf++[(⟨y29⟩:bN)]):=⟨_,rfl⟩
    replace H:(ib.l0 k1 l1 (wrap64 (dP+1)) a0 y30)=some (r1,r2):=ye afe H
    have ar9:=am afe;clear afe;have H':=am H;clear H
    try go_wp2
    replace y9:=am (Kd.fU y9.o);replace tK:=am (bD tK.o);replace dM:=am (bD dM.o);replace HB:=am (cZ HB.o);obtain ⟨p28,q28,aEe,e28,aad⟩:=wi (Kd.jw HR1.o dP);have Vn:=aad
    cases e28
    replace aad:=cb HB aad;refine CE 12 [11] (KJ dM (hc (cb HB Vn))) (fun hHeld=>?_);refine fu ib.aa3 ib.YL (fun HT_ HW_=>?_)
    generalize wr.drew=qo at y9 tK dM HB aad hHeld ⊢
    refine bQ 0 ?_;refine jo 2 ?_;refine ta 1 ?_;refine ta 5 ?_;refine oA 6 21 HT_ (fun K hK=>?_);refine Kd.zR Kd.string _ 9 ?hg (N:=21) ?hd (xs:=([bA ByteArray.empty l1 dP]:List ByteArray)) (inner:=[.string (bA ByteArray.empty l1 dP)]) (ok:=fun _=>True) (okp:=fun _=>True) ?hr ?hp (fun _ hk=>hk) trivial (Below.refl _ _) (Nat.le_refl _) (by simp) ?_;(case hd=>rfl);(case hg=>rfl);(case hr=>first|(go_simp;done)|(go_simp;rfl));(case hp=>exact (aV.one (show Kd.M Kd.string _ _ _ (bA ByteArray.empty l1 dP) [.string (bA ByteArray.empty l1 dP)] from rfl) (aV.none _ _)));intro v34 jY z8 hb hg_ hnew_;clear hg_ hnew_
    (first|rw [← aiB.o] at z8|(simp only [Int.reduceToNat] at z8;rw [← aiB.o] at z8))
    replace y9:=am (Kd.RJ (by (with_reducible repeat (first|apply Kd.iH|apply Kd.iJ|apply Kd.fU));exact y9.o) (Kd.qZ z8) hb);have Ya:=am (Kd.ic z8 (bJ (bs HB)));replace tK:=am (aU (ks tK) hb);replace dM:=am (aU (ks dM) hb);replace HB:=am (gP (bs HB) hb);clear hb z8;obtain ⟨Gt,Hl,Og⟩:=Kd.gW Ya.o
    (first|subst Og|(injection Og with fO jy fP;have jA:=fO.symm;have jB:=fP.symm;clear fO jy fP;subst jA;subst jB))
    refine hK.out _ _ (KJ dM (hc (cb HB Vn))).o (fun hHeld=>?_);clear hK K;refine nA 21 ?_;refine bQ 7 ?_;refine oA 8 23 HT_ (fun K hK=>?_);refine F8 (w1:=?_) (v:=?_) (by rfl) rfl ?_ ?_
    rotate_left 2
    ·go_simp
     constructor
     ·rfl
     ·rfl
    refine hK.out _ _ ⟨(aA (eY dM.o _) 0).trans rfl,(aA (eY dM.o _) 1).trans rfl,(World.cell?_alloc_lt _ _ _ (World.block_lt_of_cell? _ _ (((cb HB Vn).trans rfl)))).trans (((cb HB Vn).trans rfl))⟩ (fun hHeld=>?_);clear hK K;refine nA 23 ?_;refine oA 9 24 HT_ (fun K hK=>?_);refine Kd.NL jO (w0:=w) w.heap.size (by rfl) (.tmp 16) (.tmp 23) 60 97 (.agg #[(.slice none 0 0)]) 24 rfl Tryz.underlying60 am2 rfl (by decide) (by omega) ML Gf (⟨y29⟩:bN) [.slice Gt y29.length Hl] (fun _=>True) (fun k_=>some k_=(.slice Gt y29.length Hl:Value).ownBlock) rfl rfl ?aP (fun k_ hk_=>((Kd.dE (ok':=fun k_=>((fun _=>True)) k_∧some k_≠(ML:Value).ownBlock) (Kd.GK (Ya.o) (Kd.Bv y9.o) (by decide)) (fun k_ hk=>⟨trivial,hk.2⟩))).1 k_ hk_.symm) ?aF ?aO ?aB ?aS ?aL ?_
    (case aP=>exact afP _ _ _ (⟨y29⟩:bN) (Kd.dE (Kd.Yr rfl (Kd.dE (ok':=fun k_=>((fun _=>True)) k_∧some k_≠(ML:Value).ownBlock) (Kd.GK (Ya.o) (Kd.Bv y9.o) (by decide)) (fun k_ hk=>⟨trivial,hk.2⟩))) (fun _ h_=>h_)))
    (case aB=>exact (bs HB))
    (case aF=>exact (fun _ _=>trivial))
    (case aO=>exact (by (with_reducible repeat (first|apply Kd.iH|apply Kd.iJ|apply Kd.fU));exact Kd.eF y9.o (fun k_ hk=>⟨trivial,fun e_=>hk.2 e_⟩)))
    (case aS=>exact (bJ (bs HB)))
    (case aL=>have:=arC.o;omega)
    intro v35 tF ho hb hg hat
    rw [← ar9.o] at ho
    replace tK:=am (fV (ks tK) hg (Kd.EJ y9.o tK.o (by decide)));replace dM:=am (fV (ks dM) hg (Kd.EJ y9.o dM.o (by decide)));replace HB:=am (hb);have ah3:=am (ho);clear y9;clear Ya;clear ho hb hg hat;obtain ⟨QV,SF,Zv⟩:=Kd.ji ah3.o
    (first|subst Zv|(injection Zv with fO jy fP;have jA:=fO.symm;have jB:=fP.symm;clear fO jy fP;subst jA;subst jB))
    refine hK.out _ _ (KJ dM (hc (cb HB Vn))).o (fun hHeld=>?_);clear hK K;refine nA 24 ?_;refine bQ 10 ?_;refine IB (i:=11) (N:=none) #[true,true,true,true,true,true,true,true,true,true,true,true] rfl rfl (xH HT_.o (by kernel_rfl)) (by decide) (fun K hK=>?_);have axu:tF.cell? ⟨kX,1,none⟩=some (ML):=(aA dM.o 1).trans rfl;have awu:=bu dM.o 1;have axq:=acN.o;have awF:=acM.o;refine xJ (w1:=?_) (by rfl) rfl ?_ ?_
    rotate_left
    ·go_simp
     rfl
    refine hK.out _ _ ?_;clear hK K;refine ek (fo HT_.o (by kernel_rfl)) ?_
    try go_wp2
    go_roundg k1
    case measure=>have:=aQ.o;omega
    case rel=>exact ⟨(wrap64 (dP+1)),(y30),(.slice QV y30.length SF),fg,H',⟨by have:=aQ.o;omega⟩,⟨by (with_reducible repeat (first|apply Kd.iH|apply Kd.iJ|apply Kd.fU));exact Kd.eF (Kd.jv (p:=⟨kX,1,none⟩) (Kd.ze ah3.o dM.o (by decide)) (fun _ hk=>hk.2) (.slice QV y30.length SF)) (fun _ hk=>trivial)⟩,⟨ks tK⟩,⟨kp dM⟩,⟨bs HB⟩⟩
   ·intro kH H;replace H:=xI H;obtain ⟨rfl,rfl⟩:=H;have awK:=acM.o;have aw6:=acN.o;have KQ:=fM dM;have Oo:=fM tK;obtain ⟨QY,SH,SY⟩:=Kd.ji y9.o;subst SY
    go_wp2
    refine bodyPost_ret (results_cell_row rfl _ _ ZF 62 #[.string a0,.slice QY Gf.length SH] (0,0) _ rfl (kp tK) Tryz.underlying62 rfl (by kernel_rfl)) rfl ?_
    exact ⟨_,ff,by (with_reducible repeat (first|apply Kd.iH|apply Kd.iJ|apply Kd.fU));exact Kd.eF (Kd.jv (p:=⟨ZF,1,none⟩) (Kd.jv (p:=⟨ZF,0,none⟩) (Kd.ze y9.o tK.o (by decide)) (fun _ hk=>hk.2) (.string a0)) (fun _ hk=>hk.2) (.slice QY Gf.length SH)) (fun _ hk=>trivial),bs HB⟩
end Go.Proofs.YtapilmimgiaglaaGreatDoor.QX
