-- Merged by a program of this session (wip/tool/pack.py) out of its own texts for this claim.
import Derived.Test.YtapilmimgiaglaaGreatDoorKFnExactParcelRight13
set_option maxHeartbeats 8000000
set_option maxRecDepth 100000
set_option linter.unusedSimpArgs false
set_option linter.unusedVariables false
namespace Go.Proofs.YtapilmimgiaglaaGreatDoor.QA
open Go.RowKit Go.Proofs.bB.fA Go.Proofs.bB.PrintLast Go.Proofs.bB.PrintMore
attribute [local go_sem] o6 pg o9 pE o8 pz o7 pq   -- for this text's walks alone
theorem ahq (d:Nat) (w:World) (x0 y0:Int) (x1 y1:ByteArray) (x2 y2:Int) (x3 y3:Int) (x4 y4:ByteArray) :
  (Op.equalIn (d+2) 95 (.agg #[.int .i64 x0,.string x1,.int .i64 x2,.int .i64 x3,.string x4]) (.agg #[.int .i64 y0,.string y1,.int .i64 y2,.int .i64 y3,.string y4])).run Tryz.prog w=.ok (x0 == y0 && (x1.toList == y1.toList && (x2 == y2 && (x3 == y3 && (x4.toList == y4.toList))))) w:=by
 refine aso Tryz.underlying95 (by kernel_rfl) ?_;refine V6 (by rfl) (by go_simp;rfl) (by go_simp;rfl) (by go_simp) ?_;refine V6 (by rfl) (by go_simp;rfl) (by go_simp;rfl) (by go_simp) ?_;refine V6 (by rfl) (by go_simp;rfl) (by go_simp;rfl) (by go_simp) ?_;refine V6 (by rfl) (by go_simp;rfl) (by go_simp;rfl) (by go_simp) ?_
 exact asw (by rfl) (by go_simp;rfl) (by go_simp;rfl) (by go_simp)
end Go.Proofs.YtapilmimgiaglaaGreatDoor.QA
namespace Go.Proofs.YtapilmimgiaglaaGreatDoor.QA
open Go.RowKit Go.Proofs.bB.fA Go.Proofs.bB.PrintLast Go.Proofs.bB.PrintMore
attribute [local go_sem] o6 pg o9 pE o8 pz o7 pq   -- for this text's walks alone
attribute [local go_sem high] ahq
theorem jM.calls (k:Nat) (ag:Int) (aj:ByteArray) (ak:ByteArray) (aD:Int) (bY:Option Addr) (bW:Nat) (ay:List ByteArray) (df:Option Addr) (bR:Nat) (ah:List (aY)) (aM:Int) (dh:ByteArray) (dx:ByteArray) (ek:Int) (nL:Option Addr) (nQ:Nat) (iB:List ByteArray) (nM:Option Addr) (nR:Nat) (gD:List (aY)) (r:Bool) (w:World) (ko:Kd.C Kd.string w bY ay.length ay) (j6:ay.length≤bW) (kr:Kd.C iR w df ah.length ah) (kg:ah.length≤bR) (E9:Kd.C Kd.string w nL iB.length iB) (EM:iB.length≤nQ) (Fa:Kd.C iR w nM gD.length gD) (EN:gD.length≤nR) (H:jM.f k ag aj ak aD ay ah aM dh dx ek iB gD=some r) :
  Calls Tryz.prog 35 #[.agg #[.int .i64 ag,.string aj,.string ak,.int .i64 aD,.slice bY ay.length bW,.slice df ah.length bR],.agg #[.int .i64 aM,.string dh,.string dx,.int .i64 ek,.slice nL iB.length nQ,.slice nM gD.length nR]] w fun e w'=>e=.returned (.bool r)∧Below w.heap.size w w':=by
 have uX:=Tryz.underlying45;have Bh:=Tryz.underlying95;have ng:=am ko;have pR:=am j6;clear ko j6;have lW:=am kr;have oM:=am kg;clear kr kg;have Kv:=am E9;have Uw:=am EM;clear E9 EM;have Kw:=am Fa;have Ux:=am EN;clear Fa EN;have HB:=am (Below.refl w.heap.size w);unfold jM.f at H;have uK:=am H;clear H
 go_in
 go_upto_region 1 with (first|((with_reducible refine aN (N:=2) rfl ?_);(try (refine iM (by rfl) ?_;dsimp only));refine bz 2 (cs:=#[.int .i64 ag,.string aj,.string ak,.int .i64 aD,.slice bY ay.length bW,.slice df ah.length bR]) (t:=45) HB ?_;clear HB;intro PN hg w4 ji aeO hb HB;clear hb hg)|((with_reducible refine aN (N:=3) rfl ?_);(try (refine iM (by rfl) ?_;dsimp only));refine bz 3 (cs:=#[.int .i64 aM,.string dh,.string dx,.int .i64 ek,.slice nL iB.length nQ,.slice nM gD.length nR]) (t:=45) HB ?_;clear HB;intro PS hg w5 mh aeR hb HB;have vU:=na hg ji;have vV:=nc hg ji;replace ji:=bb ji hb;clear hb hg))
 repeat (go_quiet (first|((with_reducible refine aN (N:=2) rfl ?_);(try (refine iM (by rfl) ?_;dsimp only));refine bz 2 (cs:=#[.int .i64 ag,.string aj,.string ak,.int .i64 aD,.slice bY ay.length bW,.slice df ah.length bR]) (t:=45) HB ?_;clear HB;intro PN hg w4 ji aeO hb HB;clear hb hg)|((with_reducible refine aN (N:=3) rfl ?_);(try (refine iM (by rfl) ?_;dsimp only));refine bz 3 (cs:=#[.int .i64 aM,.string dh,.string dx,.int .i64 ek,.slice nL iB.length nQ,.slice nM gD.length nR]) (t:=45) HB ?_;clear HB;intro PS hg w5 mh aeR hb HB;have vU:=na hg ji;have vV:=nc hg ji;replace ji:=bb ji hb;clear hb hg));go_upto_region 1 with (first|((with_reducible refine aN (N:=2) rfl ?_);(try (refine iM (by rfl) ?_;dsimp only));refine bz 2 (cs:=#[.int .i64 ag,.string aj,.string ak,.int .i64 aD,.slice bY ay.length bW,.slice df ah.length bR]) (t:=45) HB ?_;clear HB;intro PN hg w4 ji aeO hb HB;clear hb hg)|((with_reducible refine aN (N:=3) rfl ?_);(try (refine iM (by rfl) ?_;dsimp only));refine bz 3 (cs:=#[.int .i64 aM,.string dh,.string dx,.int .i64 ek,.slice nL iB.length nQ,.slice nM gD.length nR]) (t:=45) HB ?_;clear HB;intro PS hg w5 mh aeR hb HB;have vU:=na hg ji;have vV:=nc hg ji;replace ji:=bb ji hb;clear hb hg)))
 (try simp only [Act.put,List.setIfInBounds_toArray,List.set_cons_zero,List.set_cons_succ])
 go_cut [50] (fun v50 wc=>∃ (kq:Nat) (Yq:Bool),v50=.bool Yq∧af (jM.j0 kq Yq ag aj ak aD ay ah aM dh dx ek iB gD=some r)∧af (kq≤k)∧af (wc.heap[PN]? = some (.cells #[.int .i64 ag,.string aj,.string ak,.int .i64 aD,(.slice bY ay.length bW),(.slice df ah.length bR)] 45 (0,0)))∧af (wc.heap[PS]? = some (.cells #[.int .i64 aM,.string dh,.string dx,.int .i64 ek,(.slice nL iB.length nQ),(.slice nM gD.length nR)] 45 (0,0)))∧af (Below w.heap.size w wc))
 case first =>
  have H:=uK.out;clear uK
  revert H;refine bL ?_ ?_
  ·intro gQ pW H
   (first|rw [gQ]|(simp only [fu,gy];rw [gQ])|rw [pW]|skip)
   revert H;refine bL ?_ ?_
   ·intro kJ yn H
    revert H;refine bL ?_ ?_
    ·intro jR uU H
     revert H;refine bL ?_ ?_
     ·intro nk CE H
      revert H;refine Dk ?_ ?_
      ·intro c10 xD O6 H
       have aqu:(ay.length == iB.length)=true:=by first|simpa using c10|(simp at c10 ⊢;omega)
       clear c10;have H':=am H;clear H;have atu:=vU.out;have atU:=vV.out;have CP:=dC ji;have Be:=dC mh
       go_wp2
       repeat (go_quiet (fail);try go_wp2)
       go_meet
       case rel=>exact ⟨_,(((ah.length:Int) != (gD.length:Int))),fg,H',⟨fl⟩,⟨ks ji⟩,⟨ks mh⟩,⟨bs HB⟩⟩
      ·intro c10 xD O6 H
       have aqu:(ay.length == iB.length)=false:=by first|simpa using c10|(simp at c10 ⊢;omega)
       have H':=am H;clear H;have atw:=vU.out;have atW:=vV.out;have PV:=dC ji;have EO:=dC mh
       go_wp2
       repeat (go_quiet (fail);try go_wp2)
       go_meet
       case rel=>exact ⟨_,(true),fg,H',⟨fl⟩,⟨ks ji⟩,⟨ks mh⟩,⟨bs HB⟩⟩
     ·intro c9 nk CE H;have H':=am H;clear H;have aty:=vU.out;have atY:=vV.out;have Lh:=dC ji;have Ie:=dC mh
      go_wp2
      repeat (go_quiet (fail);try go_wp2)
      go_meet
      case rel=>exact ⟨_,(true),fg,H',⟨fl⟩,⟨ks ji⟩,⟨ks mh⟩,⟨bs HB⟩⟩
    ·intro c8 jR uU H;have H':=am H;clear H;have atA:=vU.out;have at1:=vV.out;have ahQ:=dC ji;have abf:=dC mh
     go_wp2
     repeat (go_quiet (fail);try go_wp2)
     go_meet
     case rel=>exact ⟨_,(true),fg,H',⟨fl⟩,⟨ks ji⟩,⟨ks mh⟩,⟨bs HB⟩⟩
   ·intro c7 kJ yn H;have H':=am H;clear H;have atB:=vU.out;have at5:=vV.out;have Li:=dC ji;have abg:=dC mh
    go_wp2
    repeat (go_quiet (fail);try go_wp2)
    go_meet
    case rel=>exact ⟨_,(true),fg,H',⟨fl⟩,⟨ks ji⟩,⟨ks mh⟩,⟨bs HB⟩⟩
  ·intro c6 gQ pW H
   (first|rw [gQ]|(simp only [fu,gy];rw [gQ])|rw [pW]|skip)
   have H':=am H;clear H;have atD:=vU.out;have at7:=vV.out;have PX:=dC ji;have ahS:=dC mh
   go_wp2
   repeat (go_quiet (fail);try go_wp2)
   go_meet
   case rel=>exact ⟨_,(true),fg,H',⟨fl⟩,⟨ks ji⟩,⟨ks mh⟩,⟨bs HB⟩⟩
 case rest =>
  clear uK
  obtain ⟨kq,Yq,rfl,HA,HJ2,ji,mh,HB⟩:=hcut
  cases kq with
  | zero=>exact absurd HA.out (by simp [jM.j0])
  | succ Dq =>
   have H:=HA.out;clear HA;simp only [jM.j0] at H
   obtain rfl|rfl:=bt Yq
   ·replace H:=dE H;obtain rfl:=si H
    go_wp2
    repeat (go_quiet (fail);try go_wp2)
    go_ret
    exact ⟨ff,bs HB⟩
   ·replace H:=dD H;have H':=am H;clear H
    go_wp2
    repeat (go_quiet (fail);try go_wp2)
    go_loopg [5] Dq (fun kq v5 w'=>∃ (eG:Int),v5=.int .i64 eG∧af (jM.l0 kq eG ag aj ak aD ay ah aM dh dx ek iB gD=some r)∧af (kq≤Dq)∧af (w'.heap[PN]? = some (.cells #[.int .i64 ag,.string aj,.string ak,.int .i64 aD,(.slice bY ay.length bW),(.slice df ah.length bR)] 45 (0,0)))∧af (w'.heap[PS]? = some (.cells #[.int .i64 aM,.string dh,.string dx,.int .i64 ek,(.slice nL iB.length nQ),(.slice nM gD.length nR)] 45 (0,0)))∧af (Below w.heap.size w w'))
    case atStart=>exact ⟨(0),fg,H',⟨Nat.le_refl _⟩,⟨ks ji⟩,⟨ks mh⟩,⟨bs HB⟩⟩
    case round =>
     clear H'
     try clear ji
     try clear mh
     obtain ⟨eG,rfl,HA,cz,ji,mh,HB⟩:=hrel
     cases gk with
     | zero=>exact absurd HA.out (by simp [jM.l0])
     | succ k2 =>
      have H:=HA.out;clear HA;simp only [jM.l0] at H
      revert H;refine cB ?_ ?_
      ·intro agR H
       revert H;refine bu ?_
       intro agS H
       revert H;refine bu ?_
       intro Pb H
       revert H;refine bL ?_ ?_
       ·intro Cy aaK H;have H':=am H;clear H;have abG:=vU.out;have abK:=vV.out;have Wq:=dC ji;obtain ⟨p57,XA,OT,e57,wF⟩:=wi (Kd.iZ ng.out eG)
        cases e57
        replace wF:=cb HB wF;have Lj:=dC mh;obtain ⟨p58,q58,aat,e58,zT⟩:=wi (Kd.iZ Kv.out eG)
        cases e58
        replace zT:=cb HB zT
        go_wp2
        repeat (go_quiet (fail);try go_wp2)
        go_roundg k2
        case measure=>have:=HJ2.out;have:=cz.out;omega
        case rel=>exact ⟨(wrap64 (eG+1)),fg,H',⟨by have:=HJ2.out;have:=cz.out;omega⟩,⟨ks ji⟩,⟨ks mh⟩,⟨bs HB⟩⟩
       ·intro c33 Cy aaK H;obtain rfl:=si H;have abH:=vU.out;have abL:=vV.out;have Ii:=dC ji;obtain ⟨p57,XA,OT,e57,wF⟩:=wi (Kd.iZ ng.out eG)
        cases e57
        replace wF:=cb HB wF;have abk:=dC mh;obtain ⟨p58,q58,aat,e58,zT⟩:=wi (Kd.iZ Kv.out eG)
        cases e58
        replace zT:=cb HB zT
        go_wp2
        repeat (go_quiet (fail);try go_wp2)
        go_ret
        exact ⟨ff,bs HB⟩
      ·intro agR H;have H':=am H;clear H;have atF:=vU.out;have aub:=vV.out;have ahU:=dC ji
       go_wp2
       repeat (go_quiet (fail);try go_wp2)
       go_loopg [6] k2 (fun kq v6 w'=>∃ (gX:Int),v6=.int .i64 gX∧af (jM.l1 kq gX ag aj ak aD ay ah aM dh dx ek iB gD=some r)∧af (kq≤k2)∧af (w'.heap[PN]? = some (.cells #[.int .i64 ag,.string aj,.string ak,.int .i64 aD,(.slice bY ay.length bW),(.slice df ah.length bR)] 45 (0,0)))∧af (w'.heap[PS]? = some (.cells #[.int .i64 aM,.string dh,.string dx,.int .i64 ek,(.slice nL iB.length nQ),(.slice nM gD.length nR)] 45 (0,0)))∧af (Below w.heap.size w w'))
       case atStart=>exact ⟨(0),fg,H',⟨Nat.le_refl _⟩,⟨ks ji⟩,⟨ks mh⟩,⟨bs HB⟩⟩
       case round =>
        clear H'
        try clear agR
        try clear ahU
        try clear ji
        try clear mh
        obtain ⟨gX,rfl,HA,pU,ji,mh,HB⟩:=hrel
        cases gk with
        | zero=>exact absurd HA.out (by simp [jM.l1])
        | succ k3 =>
         have H:=HA.out;clear HA;simp only [jM.l1] at H
         revert H;refine cB ?_ ?_
         ·intro K7 H
          revert H;refine bu ?_
          intro aqP H
          revert H;refine bu ?_
          intro aaM H
          revert H;refine gz ?_ ?_
          ·intro Pe H;have aaN:(!(((ai ah gX).f0) == ((ai gD gX).f0)) || (!((((ai ah gX).f1).toList) == (((ai gD gX).f1).toList)) || (!(((ai ah gX).f2) == ((ai gD gX).f2)) || (!(((ai ah gX).f3) == ((ai gD gX).f3)) || (!((((ai ah gX).f4).toList) == (((ai gD gX).f4).toList)))))))=true:=Pe;clear Pe;obtain rfl:=si H;have atJ:=vU.out;have auf:=vV.out;have asV:=dC ji;obtain ⟨p55,q55,apV,e55,RL,RN,RO,RQ,RU⟩:=wi (rM lW.out gX)
           cases e55
           replace RL:=cb HB RL;replace RN:=cb HB RN;replace RO:=cb HB RO;replace RQ:=cb HB RQ;replace RU:=cb HB RU;have Ll:=dC mh;obtain ⟨p56,q56,apW,e56,RV,RX,RY,RZ,R3⟩:=wi (rM Kw.out gX)
           cases e56
           replace RV:=cb HB RV;replace RX:=cb HB RX;replace RY:=cb HB RY;replace RZ:=cb HB RZ;replace R3:=cb HB R3
           go_wp2
           repeat (go_quiet (fail);try go_wp2)
           go_ret
           exact ⟨ff,bs HB⟩
          ·intro Pe H
           have aaN:(!(((ai ah gX).f0) == ((ai gD gX).f0)) || (!((((ai ah gX).f1).toList) == (((ai gD gX).f1).toList)) || (!(((ai ah gX).f2) == ((ai gD gX).f2)) || (!(((ai ah gX).f3) == ((ai gD gX).f3)) || (!((((ai ah gX).f4).toList) == (((ai gD gX).f4).toList)))))))=false:=by simpa using Pe
           clear Pe;have H':=am H;clear H;have aFH:=vU.out;have aGs:=vV.out;have aCB:=dC ji;obtain ⟨p55,q55,apV,e55,RL,RN,RO,RQ,RU⟩:=wi (rM lW.out gX)
           cases e55
           replace RL:=cb HB RL;replace RN:=cb HB RN;replace RO:=cb HB RO;replace RQ:=cb HB RQ;replace RU:=cb HB RU;have aCC:=dC mh;obtain ⟨p56,q56,apW,e56,RV,RX,RY,RZ,R3⟩:=wi (rM Kw.out gX)
           cases e56
           replace RV:=cb HB RV;replace RX:=cb HB RX;replace RY:=cb HB RY;replace RZ:=cb HB RZ;replace R3:=cb HB R3
           go_wp2
           repeat (go_quiet (fail);try go_wp2)
           go_roundg k3
           case measure=>have:=HJ2.out;have:=cz.out;have:=pU.out;omega
           case rel=>exact ⟨(wrap64 (gX+1)),fg,H',⟨by have:=HJ2.out;have:=cz.out;have:=pU.out;omega⟩,⟨ks ji⟩,⟨ks mh⟩,⟨bs HB⟩⟩
         ·intro K7 H;obtain rfl:=si H;have atM:=vU.out;have aui:=vV.out;have Lm:=dC ji
          go_wp2
          repeat (go_quiet (fail);try go_wp2)
          go_ret
          exact ⟨ff,bs HB⟩
end Go.Proofs.YtapilmimgiaglaaGreatDoor.QA
namespace Go.Proofs.YtapilmimgiaglaaGreatDoor.QA
open Go.RowKit Go.Proofs.bB.fA Go.Proofs.bB.PrintLast Go.Proofs.bB.PrintMore
attribute [local go_sem] o6 pg o9 pE o8 pz o7 pq   -- for this text's walks alone
theorem jA.calls (k:Nat) (ag:Int) (aj:ByteArray) (ak:ByteArray) (aD:Int) (bY:Option Addr) (bW:Nat) (ay:List ByteArray) (df:Option Addr) (bR:Nat) (ah:List (aY)) (r:Bool) (w:World) (ko:Kd.C Kd.string w bY ay.length ay) (j6:ay.length≤bW) (kr:Kd.C iR w df ah.length ah) (kg:ah.length≤bR) (H:jA.f k ag aj ak aD ay ah=some r) :
  Calls Tryz.prog 17 #[.agg #[.int .i64 ag,.string aj,.string ak,.int .i64 aD,.slice bY ay.length bW,.slice df ah.length bR]] w fun e w'=>e=.returned (.bool r)∧Below w.heap.size w w':=by
 have uX:=Tryz.underlying45;have qR:=Tryz.underlying62;have hu64:=Tryz.underlying64;have ng:=am ko;have pR:=am j6;clear ko j6;have lW:=am kr;have oM:=am kg;clear kr kg;have HB:=am (Below.refl w.heap.size w);unfold jA.f at H;have kV:=am H;clear H
 go_in
 go_upto_region 1 with (first|((with_reducible refine aN (N:=1) rfl ?_);(try (refine iM (by rfl) ?_;dsimp only));refine bz 1 (cs:=#[.int .i64 ag,.string aj,.string ak,.int .i64 aD,.slice bY ay.length bW,.slice df ah.length bR]) (t:=45) HB ?_;clear HB;intro pY hg w3 eH aeL hb HB;clear hb hg))
 (try simp only [Act.put,List.setIfInBounds_toArray,List.set_cons_zero,List.set_cons_succ])
 go_cut [15] (fun v15 wc=>∃ (kq:Nat) (DT:Bool),v15=.bool DT∧af (jA.j0 kq DT ag aj ak aD ay ah=some r)∧af (kq≤k)∧af (wc.heap[pY]? = some (.cells #[.int .i64 ag,.string aj,.string ak,.int .i64 aD,(.slice bY ay.length bW),(.slice df ah.length bR)] 45 (0,0)))∧af (Below w.heap.size w wc))
 case first =>
  have H:=kV.out;clear kV
  revert H;refine gz ?_ ?_
  ·intro c4 H;have dS:decide (40<(ay.length:Int))=true:=decide_eq_true c4;have kW:decide (40<ay.length)=true:=decide_eq_true (by omega);clear c4
   (first|rw [dS]|(simp only [fu,gy];rw [dS])|rw [kW]|skip)
   have H':=am H;clear H;have Bf:=dC eH
   go_wp2
   go_meet
   case rel=>exact ⟨_,(true),fg,H',⟨fl⟩,⟨ks eH⟩,⟨bs HB⟩⟩
  ·intro c4 H;have dS:decide (40<(ay.length:Int))=false:=decide_eq_false c4;have kW:decide (40<ay.length)=false:=decide_eq_false (by omega);clear c4
   (first|rw [dS]|(simp only [fu,gy];rw [dS])|rw [kW]|skip)
   have H':=am H;clear H;have EQ:=dC eH
   go_wp2
   go_meet
   case rel=>exact ⟨_,(decide ((ah.length:Int)>20)),fg,H',⟨fl⟩,⟨ks eH⟩,⟨bs HB⟩⟩
 case rest =>
  clear kV
  obtain ⟨kq,DT,rfl,HA,ib,eH,HB⟩:=hcut
  cases kq with
  | zero=>exact absurd HA.out (by simp [jA.j0])
  | succ lS =>
   have H:=HA.out;clear HA;simp only [jA.j0] at H
   obtain rfl|rfl:=bt DT
   ·replace H:=dE H;obtain rfl:=si H
    go_wp2
    go_ret
    exact ⟨ff,bs HB⟩
   ·replace H:=dD H;replace H:=bo H;obtain ⟨t41,A8,H⟩:=H;have H':=am H;clear H;have CS:=dC eH
    go_wp2_with (first|((go_at_call 32;(with_reducible refine (fB.calls lS ag aj ak aD _ _ ay _ _ ah t41 _ (Kd.bJ ng.out (bs HB)) pR.out (Kd.bJ lW.out (bs HB)) oM.out A8.out).mono ?_);rintro e DI ⟨v51,rfl,ho0,hb⟩);have anu:=am (Kd.afu (Kd.Cn (ok':=fun k_=>k_≠pY) ho0 (fun k_ hk_=>(Kd.sU (g:=pY) (o:=.cells #[.int .i64 ag,.string aj,.string ak,.int .i64 aD,.slice bY ay.length bW,.slice df ah.length bR] 45 (0,0)) (ks eH) k_ hk_))) (bC (bs HB)));replace eH:=bb eH hb;replace HB:=bq HB hb;(try clear hb);(try clear ho0)))
    go_loopg [4] lS (fun kq v4 w'=>∃ (lU:Int),v4=.int .i64 lU∧af (jA.l0 kq t41 lU ag aj ak aD ay ah=some r)∧af (kq≤lS)∧af (Kd.N kS 62 w' w.heap.size (fun k_=>k_≠pY) v51 t41)∧af (w'.heap[pY]? = some (.cells #[.int .i64 ag,.string aj,.string ak,.int .i64 aD,(.slice bY ay.length bW),(.slice df ah.length bR)] 45 (0,0)))∧af (Below w.heap.size w w'))
    case atStart=>exact ⟨(0),fg,H',⟨Nat.le_refl _⟩,⟨by (with_reducible repeat (first|apply Kd.uL|apply Kd.uM|apply Kd.rG));exact anu.out⟩,⟨ks eH⟩,⟨bs HB⟩⟩
    case round =>
     clear H'
     try clear CS
     try clear eH
     obtain ⟨lU,rfl,HA,cz,gu,eH,HB⟩:=hrel
     cases gk with
     | zero=>exact absurd HA.out (by simp [jA.l0])
     | succ k2 =>
      have H:=HA.out;clear HA;simp only [jA.l0] at H
      revert H;refine cB ?_ ?_
      ·intro xE H
       revert H;refine bu ?_
       intro xG H;replace H:=bo H;obtain ⟨t52,ry,H⟩:=H;obtain ⟨amo,ari,aa6⟩:=Kd.GV gu.out;subst aa6;have p37:0≤(lU:Int):=oa;have Xy:lU<(t41.length:Int):=oa;obtain ⟨aAM,azA,aA2,e37,aH6,auE,aiA,ah8⟩:=lv (Kd.vX gu.out).2.2 lU p37 Xy
       cases e37
       obtain ⟨aBt,asO,asN,ahP⟩:=Kd.aoZ gu.out z62 lU p37 (by first|exact Xy|exact oa|(have e_:=(Kd.vX gu.out).1;omega));obtain ⟨aIy,aIz,rfl,adN,abe⟩:=au3 asN;have WE:=ahP 1 _ rfl
       rw [mM _ _ 1 (by omega)] at WE
       replace WE:=Option.some.inj (WE.symm.trans auE)
       injection WE with hva_ hvn_ hvc_
       rw [hva_] at abe
       rw [hvc_] at adN
       have aeZ:=am (show Kd.V lG 97 _ w.heap.size _ _ ((av t41 lU).f1) from Kd.apI adN abe);clear hva_ hvn_ hvc_ abe adN;clear ahP asO;have Oq:=am ah8;have am3:=am aiA;clear ah8 aiA;replace p37:=eq_true p37;replace Xy:=eq_true Xy
       try go_wp2_with (fail)
       go_at_call 33;(with_reducible refine (iG.calls k2 ((av t41 lU).f0) _ _ ((av t41 lU).f1) t52 _ ?aI am3.out ry.out).mono ?_);(case aI=>repeat (first|exact (by repeat (first|(with_reducible exact Oq.out)|(with_reducible refine Kd.pM ?_ _)|(with_reducible refine Kd.pQ ?_ _)|(with_reducible refine Kd.pO ?_)|exact Oq.out))|(with_reducible refine Kd.pM ?_ _)|(with_reducible refine Kd.pQ ?_ _)|(with_reducible refine Kd.pO ?_)));rintro e DJ ⟨rfl,hb⟩;replace gu:=am (Kd.vW (by (with_reducible repeat (first|apply Kd.uL|apply Kd.uM|apply Kd.rG));exact gu.out) hb);replace aeZ:=am (Kd.apF (by (with_reducible repeat (first|apply Kd.apE|apply Kd.apH|apply Kd.apG));exact aeZ.out) hb);replace eH:=am (aZ (ks eH) hb);replace Oq:=am (Kd.bJ (by repeat (first|(with_reducible exact Oq.out)|(with_reducible refine Kd.pM ?_ _)|(with_reducible refine Kd.pQ ?_ _)|(with_reducible refine Kd.pO ?_)|exact Oq.out)) hb);replace HB:=am (fF (bs HB) hb);(try clear hb)
       obtain rfl|rfl:=bt t52
       ·replace H:=dE H;have H':=am H;clear H
        go_wp2
        go_roundg k2
        case measure=>have:=ib.out;have:=cz.out;omega
        case rel=>exact ⟨(wrap64 (lU+1)),fg,H',⟨by have:=ib.out;have:=cz.out;omega⟩,⟨by (with_reducible repeat (first|apply Kd.uL|apply Kd.uM|apply Kd.rG));exact gu.out⟩,⟨ks eH⟩,⟨bs HB⟩⟩
       ·replace H:=dD H;obtain rfl:=si H
        go_wp2
        go_ret
        exact ⟨ff,bs HB⟩
      ·intro xE H;replace H:=bo H;obtain ⟨⟨t44,t46,t47,t48,t42,t43,t49,t50⟩,Gn,H⟩:=H;(try dsimp only at H);obtain ⟨Kh,K9,aa7⟩:=Kd.GV gu.out;subst aa7;have Ie:=dC eH
       try go_wp2_with (fail)
       go_at_call 34;(with_reducible refine (bK.calls k2 ag _ _ t41 t44 t46 t47 t48 t42 t43 t49 t50 _ ?aI ?aW Gn.out).mono ?_);(case aI=>exact sd (Kd.vX gu.out).2.2);(case aW=>exact (Kd.vX gu.out).2.1);rintro e BM ⟨v55,v56,rfl,ho0,ho1,hb⟩;replace gu:=am (Kd.Cn (Kd.KH (Kd.KH (Kd.aai (by (with_reducible repeat (first|apply Kd.uL|apply Kd.uM|apply Kd.rG));exact gu.out) hb) (Kd.oO ho0)) (Kd.oO ho1)) (fun _ h_=>h_.1));have Au:=am (Kd.gU ho0 (bC (bs HB)));have Av:=am (Kd.gU ho1 (bC (bs HB)));replace eH:=am (aZ (ks eH) hb);replace HB:=am (fF (bs HB) hb);(try clear hb);(try clear ho0);(try clear ho1)
       revert H;refine bL ?_ ?_
       ·intro xH Cx H;replace H:=bo H;obtain ⟨t54,BV,H⟩:=H;obtain rfl:=si H
        go_wp2_with (first|((with_reducible refine aN (N:=5) rfl ?_);(try (refine iM (by rfl) ?_;dsimp only));refine bx 5 (cs:=#[.int .i64 0,.string (⟨#[]⟩:ByteArray),.string (⟨#[]⟩:ByteArray),.int .i64 0,.slice none 0 0,.slice none 0 0,.int .i64 0,.int .i64 0]) (t:=64) ?_;intro xJ hg tH hbox hb;replace gu:=am (Kd.vW (Kd.aft (by (with_reducible repeat (first|apply Kd.uL|apply Kd.uM|apply Kd.rG));exact gu.out) xJ (Nat.le_of_eq hg.symm)) hb);replace Au:=am (Kd.dK (rs Au) hb);replace Av:=am (Kd.dK (rs Av) hb);have Ce:=am (hbox);have amS:=am ((gs hg (bs HB)));have amP:=am ((gs hg (bs HB)));replace HB:=am (fF (bs HB) hb);have Z4:=am ((gn hg (ks eH)));have aaa:=am ((gm hg (ks eH)));replace eH:=am (aZ (ks eH) hb);clear hb hbox hg;have atC:=aaa.out;have at6:=Z4.out;have abg:=HV Ce;obtain ⟨aeB,aaV,ar9⟩:=Kd.iy Au.out;subst ar9;obtain ⟨aeC,aaW,asa⟩:=Kd.iy Av.out;subst asa;have aCm:tH.cell? ⟨pY,0,none⟩=some (.int .i64 ag):=(az eH.out 0).trans rfl;have aCn:tH.cell? ⟨pY,1,none⟩=some (.string aj):=(az eH.out 1).trans rfl;have aCo:tH.cell? ⟨pY,2,none⟩=some (.string ak):=(az eH.out 2).trans rfl;have aCp:tH.cell? ⟨pY,3,none⟩=some (.int .i64 aD):=(az eH.out 3).trans rfl;have aCq:tH.cell? ⟨pY,4,none⟩=some (.slice bY ay.length bW):=(az eH.out 4).trans rfl;have aCr:tH.cell? ⟨pY,5,none⟩=some (.slice df ah.length bR):=(az eH.out 5).trans rfl;have aD4:=aV eH.out 0;have aD5:=aV eH.out 1;have aD6:=aV eH.out 2;have aD7:=aV eH.out 3;have aD8:=aV eH.out 4;have aD9:=aV eH.out 5)|(go_at_call 35;(with_reducible refine (jM.calls k2 t44 t46 t47 t48 _ _ t42 _ _ t43 ag aj ak aD _ _ ay _ _ ah t54 _ ?aI ?aW ?lh ?qZ ?Dy pR.out ?Dz oM.out BV.out).mono ?_);(case aI=>refine (Kd.dU (e:=9) (base:=w.heap.size) (ok:=fun k_=>True) (n:=t42.length) (c:=aaV) ?_).2.2;exact (by (with_reducible repeat (first|apply Kd.jW|apply Kd.jk|apply Kd.dY));exact (Kd.dI (rf (Kd.lK Au.out Ce.out (by decide))) (fun _ h_=>h_.1))));(case aW=>exact (Kd.dU Au.out).2.1);(case lh=>refine (Kd.dU (e:=95) (base:=w.heap.size) (ok:=fun k_=>True) (n:=t43.length) (c:=aaW) ?_).2.2;exact (by (with_reducible repeat (first|apply Kd.jW|apply Kd.jk|apply Kd.dY));exact (Kd.dI (rf (Kd.lK Av.out Ce.out (by decide))) (fun _ h_=>h_.1))));(case qZ=>exact (Kd.dU Av.out).2.1);(case Dy=>exact Kd.bJ ng.out (bs HB));(case Dz=>exact Kd.bJ lW.out (bs HB));rintro e X7 ⟨rfl,hb⟩;replace gu:=am (Kd.vW (by (with_reducible repeat (first|apply Kd.uL|apply Kd.uM|apply Kd.rG));exact (Kd.Cn (Kd.Eo (p:=⟨xJ,7,none⟩) (Kd.Eo (p:=⟨xJ,6,none⟩) (Kd.Eo (p:=⟨xJ,5,none⟩) (Kd.Eo (p:=⟨xJ,4,none⟩) (Kd.Eo (p:=⟨xJ,3,none⟩) (Kd.Eo (p:=⟨xJ,2,none⟩) (Kd.Eo (p:=⟨xJ,1,none⟩) (Kd.Eo (p:=⟨xJ,0,none⟩) (Kd.Cn gu.out (fun k_ hk=>(⟨hk,hk.2⟩:_∧k_≠xJ))) (fun _ hk=>hk.2) (.int .i64 t44)) (fun _ hk=>hk.2) (.string t46)) (fun _ hk=>hk.2) (.string t47)) (fun _ hk=>hk.2) (.int .i64 t48)) (fun _ hk=>hk.2) (.slice aeB t42.length aaV)) (fun _ hk=>hk.2) (.slice aeC t43.length aaW)) (fun _ hk=>hk.2) (.int .i64 t49)) (fun _ hk=>hk.2) (.int .i64 t50)) (fun _ h_=>h_.1))) hb);replace Au:=am (Kd.dK (by (with_reducible repeat (first|apply Kd.jW|apply Kd.jk|apply Kd.dY));exact (Kd.dI (rf (Kd.lK Au.out Ce.out (by decide))) (fun _ h_=>h_.1))) hb);replace Av:=am (Kd.dK (by (with_reducible repeat (first|apply Kd.jW|apply Kd.jk|apply Kd.dY));exact (Kd.dI (rf (Kd.lK Av.out Ce.out (by decide))) (fun _ h_=>h_.1))) hb);replace eH:=am (aZ (ks eH) hb);replace Ce:=am (aZ (g:=xJ) (o:=.cells #[.int .i64 t44,.string t46,.string t47,.int .i64 t48,.slice aeB t42.length aaV,.slice aeC t43.length aaW,.int .i64 t49,.int .i64 t50] 64 (0,0)) (kp Ce) hb);replace HB:=am (fF (bs HB) hb);(try clear hb)))
        go_ret
        exact ⟨ff,bs HB⟩
       ·intro c21 xH Cx H;obtain rfl:=si H
        go_wp2_with (first|((with_reducible refine aN (N:=5) rfl ?_);(try (refine iM (by rfl) ?_;dsimp only));refine bx 5 (cs:=#[.int .i64 0,.string (⟨#[]⟩:ByteArray),.string (⟨#[]⟩:ByteArray),.int .i64 0,.slice none 0 0,.slice none 0 0,.int .i64 0,.int .i64 0]) (t:=64) ?_;intro xJ hg qJ hbox hb;replace gu:=am (Kd.vW (Kd.aft (by (with_reducible repeat (first|apply Kd.uL|apply Kd.uM|apply Kd.rG));exact gu.out) xJ (Nat.le_of_eq hg.symm)) hb);replace Au:=am (Kd.dK (rs Au) hb);replace Av:=am (Kd.dK (rs Av) hb);have Ce:=am (hbox);have amS:=am ((gs hg (bs HB)));have amP:=am ((gs hg (bs HB)));replace HB:=am (fF (bs HB) hb);have Z4:=am ((gn hg (ks eH)));have aaa:=am ((gm hg (ks eH)));replace eH:=am (aZ (ks eH) hb);clear hb hbox hg;have QP:=aaa.out;have QR:=Z4.out;have PZ:=HV Ce;obtain ⟨Un,VU,Lb⟩:=Kd.iy Au.out;subst Lb;obtain ⟨amt,arn,aa8⟩:=Kd.iy Av.out;subst aa8))
        go_ret
        exact ⟨ff,bs HB⟩
def MF:Kd kN where
 sz:=qA.sz
 E:=62 :: qW.E
 K:=qA.K
 M:=fun w base ok x cs=>∃ v,cs=[.int .i64 x.f0,v]∧Kd.S qW 62 w base ok v x.f1
 K_len:=qA.K_len
 K_one:=qA.K_one
 K_below:=qA.K_below
 K_of_M:=fun {w} {_} {_} {x} {_} ⟨_,e,h⟩=>by
  subst e;obtain ⟨A,c,e⟩:=Kd.kI h;subst e
  exact au7 w x (Kd.oP h).2.1 (Kd.oP h).2.2
 M_mono:=fun hk ⟨v,e,h⟩=>⟨v,e,Kd.fU h hk⟩
 M_bound:=fun ⟨v,e,h⟩=>⟨v,e,Kd.uf h⟩
 M_move:=fun hm ⟨v,e,h⟩=>⟨v,e,Kd.U8 h hm⟩
 M_lower:=fun hb ⟨v,e,h⟩=>⟨v,e,Kd.mJ h hb⟩
def tq:Kd gP where
 sz:=sZ.sz
 E:=73 :: MF.E
 K:=sZ.K
 M:=fun w base ok x cs=>∃ v,cs=[.int .i64 x.f0,.int .i64 x.f1,v]∧Kd.S MF 73 w base ok v x.f2
 K_len:=sZ.K_len
 K_one:=sZ.K_one
 K_below:=sZ.K_below
 K_of_M:=fun {w} {_} {_} {x} {_} ⟨_,e,h⟩=>by
  subst e;obtain ⟨A,c,e⟩:=Kd.kI h;subst e
  exact au4 w x (Kd.oP h).2.1 (Kd.oP h).2.2
 M_mono:=fun hk ⟨v,e,h⟩=>⟨v,e,Kd.fU h hk⟩
 M_bound:=fun ⟨v,e,h⟩=>⟨v,e,Kd.uf h⟩
 M_move:=fun hm ⟨v,e,h⟩=>⟨v,e,Kd.U8 h hm⟩
 M_lower:=fun hb ⟨v,e,h⟩=>⟨v,e,Kd.mJ h hb⟩
theorem acT {α:Type} {d d':Kd α} {e base:Nat} {w:World} {ok:Nat→Prop} {v:Value} {xs:List α} (hs:d.sz=d'.sz) (hM:∀ b ok x cs,d.M w b ok x cs→d'.M w b ok x cs) (h:d.R e w base ok v xs):d'.R e w base ok v xs:=by
 obtain ⟨h0,inner,ho,hr⟩:=h
 rw [hs] at ho hr
 exact ⟨h0,inner,ho,hr.uY (fun _ _ hp=>hM _ _ _ _ hp)⟩
theorem avd {e base:Nat} {w:World} {ok:Nat→Prop} {v:Value} {xs:List bA} (h:Kd.S qW e w base ok v xs):Kd.R kS e w base ok v xs:=acT (d:=qW) (d':=kS) rfl (fun _ _ _ _ ⟨_,e,h⟩=>by subst e;exact akk _ _ _ _ (Kd.ql h)) (Kd.ql h)
theorem ave {e base:Nat} {w:World} {ok:Nat→Prop} {v:Value} {xs:List kN} (h:Kd.S MF e w base ok v xs):Kd.R qA e w base ok v xs:=acT (d:=MF) (d':=qA) rfl (fun _ _ _ _ ⟨_,e,h⟩=>by subst e;exact au8 _ _ _ _ (avd h)) (Kd.ql h)
theorem ako {e base:Nat} {w:World} {ok:Nat→Prop} {v:Value} {xs:List gP} (h:Kd.S tq e w base ok v xs):Kd.R sZ e w base ok v xs:=acT (d:=tq) (d':=sZ) rfl (fun _ _ _ _ ⟨_,e,h⟩=>by subst e;exact au5 _ _ _ _ (ave h)) (Kd.ql h)
theorem aqi {W W2:World} {g:Nat} {t:TypeId} {z0 z1 z2 z3 z4 z5 v0 v1 v2 v3 v4 v5:Value} (h:W.heap[g]? = some (.cells #[z0,z1,z2,z3,z4,z5] t (0,0))) (hw:W2=((((((W.setCell ⟨g,0,none⟩ v0).setCell ⟨g,1,none⟩ v1).setCell ⟨g,2,none⟩ v2).setCell ⟨g,3,none⟩ v3).setCell ⟨g,4,none⟩ v4).setCell ⟨g,5,none⟩ v5)):W2.heap[g]? = some (.cells #[v0,v1,v2,v3,v4,v5] t (0,0))∧Kept W W2 (fun k=>k=g)∧∀ w:World,Below w.heap.size w W→w.heap.size≤g→Below w.heap.size w W2:=by
 subst hw;refine ⟨kp ⟨h⟩,?_,fun w hb hg=>?_⟩
 ·refine Kept.setCell (Kept.setCell (Kept.setCell (Kept.setCell (Kept.setCell (Kept.setCell (Kept.refl W _) ?_ _) ?_ _) ?_ _) ?_ _) ?_ _) ?_ _
  all_goals exact Or.inl rfl
 ·exact eD (eD (eD (eD (eD (eD hb hg) hg) hg) hg) hg) hg
theorem agB {W W2:World} {g:Nat} {t:TypeId} {z0 z1 z2 z3 v0 v1 v2 v3:Value} (h:W.heap[g]? = some (.cells #[z0,z1,z2,z3] t (0,0))) (hw:W2=((((W.setCell ⟨g,0,none⟩ v0).setCell ⟨g,1,none⟩ v1).setCell ⟨g,2,none⟩ v2).setCell ⟨g,3,none⟩ v3)):W2.heap[g]? = some (.cells #[v0,v1,v2,v3] t (0,0))∧Kept W W2 (fun k=>k=g)∧∀ w:World,Below w.heap.size w W→w.heap.size≤g→Below w.heap.size w W2:=by
 subst hw;refine ⟨kp ⟨h⟩,?_,fun w hb hg=>?_⟩
 ·refine Kept.setCell (Kept.setCell (Kept.setCell (Kept.setCell (Kept.refl W _) ?_ _) ?_ _) ?_ _) ?_ _
  all_goals exact Or.inl rfl
 ·exact eD (eD (eD (eD hb hg) hg) hg) hg
def Jj.T:Bool × List (List Nat × List Nat):=(true,[([],[]),([0],[0]),([1],[1]),([2],[2]),([3,2],[2,3]),([2],[2]),([5,2],[2,5]),([4,6,2],[2,4,6]),([7,2],[2,7]),([8,2],[2,8]),([2],[2]),([10,2],[2,10]),([2],[2]),([11,12,2],[2,11,12]),([13,2],[2,13]),([14,2],[2,14]),([9,15,2],[2,9,15]),([2,16],[2,16])])
def Jj.B:List Nat:=[0,1,3,7,15,7,39,127,255,511,7,1031,7,7175,15367,31751,65535,131071]
def XK.T:Bool × List (List Nat × List Nat):=(true,[([],[]),([0],[0]),([],[]),([2],[2]),([],[]),([3,4],[3,4]),([5],[5]),([6],[6]),([],[]),([8],[8]),([7,9],[7,9]),([10],[10]),([1,11],[1,11]),([0,1,2,3,4,5,6,7,8,9,10,11,12],[]),([13,12,12,0,1,2,3,4,5,6,7,8,9,10,11,12],[12,13])])
def XK.B:List Nat:=[0,1,0,4,0,28,60,124,0,256,1020,2044,4095,0,16383]
def XM.T:Bool × List (List Nat × List Nat):=(true,[([],[]),([0],[0]),([],[]),([2],[2]),([],[]),([4],[4]),([],[]),([6],[6]),([5,7],[5,7]),([8],[8]),([9],[9]),([],[]),([11],[11]),([],[]),([13],[13]),([],[]),([14,15],[14,15]),([16],[16]),([17],[17]),([12,18],[12,18]),([19],[19]),([10,20,18],[10,20]),([1,3,0,1,2,3,4,5,6,7,8,9,10,11,12,13,14,15,16,17,18,19,20,21],[1,3]),([22,0,1,2,3,4,5,6,7,8,9,10,11,12,13,14,15,16,17,18,19,20,21],[22]),([23,21,21,0,1,2,3,4,5,6,7,8,9,10,11,12,13,14,15,16,17,18,19,20,21],[21,23])])
def XM.B:List Nat:=[0,1,0,4,0,16,0,64,240,496,1008,0,2048,0,8192,0,57344,122880,253952,522240,1046528,2097136,15,4194319,16777215]
theorem iX.CF (k:Nat) (ag:ByteArray) (aj:ByteArray) (ak:Int) (fP:Option Addr) (eZ:Nat) (au:List (gN)) (r1:ByteArray) (r2:ByteArray) (r3:Int) (r4:List (gP)) (w:World) (kE:Kd.C kK w fP au.length au) (kD:au.length≤eZ) (H:iX.f k ag aj ak au=some (r1,r2,r3,r4)) :
  Calls Tryz.prog 19 #[.agg #[.string ag,.string aj,.int .i64 ak,.slice fP au.length eZ]] w fun e w'=>∃ wR:Value,e=.returned (.agg #[.string r1,.string r2,.int .i64 r3,wR])∧Kd.S tq 71 w' w.heap.size (fun k_=>(w.heap.size≤k_)) wR r4∧Below w.heap.size w w':=by
 have hu0:=Tryz.underlying29;have hu1:=Tryz.underlying35;have hu2:=Tryz.underlying45;have hu3:=Tryz.underlying71;have hu4:=Tryz.underlying73;have hu5:=Tryz.underlying33;have hu6:=Tryz.underlying69;have hu7:=Tryz.underlying27;have hbo:=@fB.calls;clear hbo;have HR:=af.mk kE;have HC:=af.mk kD;clear kE kD;have HB:=af.mk (Below.refl w.heap.size w);unfold iX.f at H;replace H:=bo H;obtain ⟨rl,A1,H⟩:=H;obtain ⟨rfl,rfl,rfl,rfl⟩:=SX H;clear H
 go_enter Tryz.func19,Tryz.ntmps19
 go_wp2_with (first|((with_reducible refine aN (N:=1) rfl ?_);refine bx 1 (cs:=#[.string ag,.string aj,.int .i64 ak,.slice fP au.length eZ]) (t:=29) ?_;intro g1 hg wa hbox hb;have B1:=af.mk hbox;replace HB:=af.mk (fF (bs HB) hb);clear hb hbox hg)|((with_reducible refine aN (N:=2) rfl ?_);refine bx 2 (cs:=#[.string (⟨#[]⟩:ByteArray),.string (⟨#[]⟩:ByteArray),.int .i64 0,.slice none 0 0]) (t:=35) ?_;intro g2 hg wb hbox hb;have B2:=af.mk hbox;have E2:=af.mk (gs hg (bs HB));replace HB:=af.mk (fF (bs HB) hb);replace B1:=af.mk (aZ (ks B1) hb);clear hb hbox hg;have z1:=eU B1)|((with_reducible refine aN (N:=3) rfl ?_);refine bx 3 (cs:=#[.string (⟨#[]⟩:ByteArray),.string (⟨#[]⟩:ByteArray),.int .i64 0,.slice none 0 0]) (t:=35) ?_;intro g3 hg wc hbox hb;have B3:=af.mk hbox;have E3:=af.mk (gs hg (bs HB));have Ox:=af.mk (gn hg (ks B1));have Gy:=af.mk (gn hg (ks B2));replace HB:=af.mk (fF (bs HB) hb);replace B1:=af.mk (aZ (ks B1) hb);replace B2:=af.mk (aZ (ks B2) hb);clear hb hbox hg z1;have z1:=eU B1;have z3:=eU B3)|((with_reducible refine H8 (t:=35) (p:=3) rfl ?_);refine Jk (t:=35) (p:=3) (v:=?vo3) (w1:=((((wc.setCell ⟨g3,0,none⟩ (.string ag)).setCell ⟨g3,1,none⟩ (.string aj)).setCell ⟨g3,2,none⟩ (.int .i64 ak)).setCell ⟨g3,3,none⟩ (.slice none 0 0))) ?hg ?ho ?hn ?hr ?_;(case ho=>rfl);(case hg=>rfl);(case hn=>rfl);(case hr=>first|(go_simp;done)|(go_simp;rfl));intro wd hw;clear z1 z3;obtain ⟨hx,hk,hB⟩:=agB B3.out hw;clear hw;replace HB:=af.mk (hB _ HB.out E3.out);replace B1:=af.mk (xB B1.out hk (fun e_=>Ox.out e_));replace B2:=af.mk (xB B2.out hk (fun e_=>Gy.out e_));replace B3:=af.mk hx;clear hx hk hB;have z1:=eU B1;have z3:=eU B3))
 obtain ⟨s0,es⟩:∃ s,s=wd.heap.size:=⟨_,rfl⟩;have D1:=af.mk (show g1<s0 from by rw [es];exact rO B1.out);have D2:=af.mk (show g2<s0 from by rw [es];exact rO B2.out);have D3:=af.mk (show g3<s0 from by rw [es];exact rO B3.out);have S0:=af.mk (show w.heap.size≤s0 from by rw [es];exact HB.out.size);have T0:=af.mk (show s0≤wd.heap.size from by rw [es];exact Nat.le_refl _);clear es
 go_loopg [4] k (fun kq v4 w'=>∃ (i:Int) (l:List gP) (Al:Option Addr) (cl:Nat),v4=.int .i64 i∧af (iX.l0 kq au i l=some rl)∧af (kq≤k)∧af (Kd.S tq 71 w' w.heap.size (fun k_=>s0≤k_) (.slice Al l.length cl) l)∧af (w'.heap[g1]? = some (.cells #[.string ag,.string aj,.int .i64 ak,.slice fP au.length eZ] 29 (0,0)))∧af (w'.heap[g2]? = some (.cells #[.string (⟨#[]⟩:ByteArray),.string (⟨#[]⟩:ByteArray),.int .i64 0,.slice none 0 0] 35 (0,0)))∧af (w'.heap[g3]? = some (.cells #[.string ag,.string aj,.int .i64 ak,.slice Al l.length cl] 35 (0,0)))∧af (s0≤w'.heap.size)∧af (Below w.heap.size w w'))
 case atStart=>exact ⟨0,[],none,0,rfl,A1,⟨Nat.le_refl _⟩,⟨Kd.qO _ _ _ _ _⟩,B1,B2,B3,T0,HB⟩
 case round =>
  clear A1 B1 B2 B3 T0 HB;(try clear z1);(try clear z3);obtain ⟨i,l,Al,cl,rfl,HA,aU,Y,B1,B2,B3,T0,HB⟩:=hrel
  cases gk with
  | zero=>exact absurd HA.out (by simp [iX.l0])
  | succ k1 =>
   have H:=HA.out;clear HA;simp only [iX.l0] at H;have z1:=eU B1;have z3:=eU B3;obtain ⟨wf,hwf⟩:∃ W,W=wr:=⟨_,rfl⟩;subst hwf
   revert H;refine cB ?_ ?_
   ·intro c9 H;revert H;refine bu ?_;intro c10 H;revert H;refine jE ?_;intro c11 H;have LX:=af.mk c11;clear c11;replace H:=bo H;obtain ⟨lc,A7,H⟩:=H;have H':=af.mk H;clear H;obtain ⟨p1,q1,ad,NZ,Pg,N7,Pi,ea,j0,j1,j2,j3,j4,j5,hl4,hi4,hl5,hi5⟩:=wi (Ct HR.out i);cases ea;have W0:=af.mk j0;have W1:=af.mk j1;have W2:=af.mk j2;have W3:=af.mk j3;have W4:=af.mk j4;have W5:=af.mk j5;have Zv:=af.mk hi4;have Zx:=af.mk hl4;have Zw:=af.mk hi5;have Zy:=af.mk hl5;clear hi4 hl4 hi5 hl5 j0 j1 j2 j3 j4 j5;have BZ:=A7.out;clear A7;go_upto_region 6 with (fail);clear z1 z3
    revert BZ;refine bL (fun VC VD A7=>?_) (fun c0 VC VD A7=>?_)
    focus
     have A8:=af.mk (show (if true=true then iX.l2 k1 (aG au i) i l else iX.l1 k1 (aG au i) i l)=some lc from A7);clear A7;replace B1:=af.mk (bg B1.out);replace B2:=af.mk (bg B2.out);replace B3:=af.mk (bg B3.out);replace T0:=af.mk (show s0≤wf.drew.heap.size from T0.out);replace HB:=af.mk (cO HB.out);replace Y:=af.mk (Kd.dV Y.out);refine Af 18 [] (ny B3 (hb4 B1)) (fun hHeld=>?_);refine gq (show fJ .any (opsOf Tryz.f19 6)=Jj.T from by kernel_rfl) (show iY Jj.T.2 Jj.B=true from by kernel_rfl) (fun HT_ HW_=>?_)
     generalize wf.drew=wg at B1 B2 B3 Y T0 HB hHeld ⊢
     refine kZ 0 ?_;refine lH 3 ?_;refine jF 11 ?_;refine kZ 15 ?_;refine fq (gp HT_.out (by kernel_rfl)) ?_;clear HT_ HW_ hHeld
    rotate_left
    focus
     have hw1:wrap64 ((l.length:Int) - 1)=(l.length:Int) - 1:=(by have:=LX.out;unfold wrap64;omega);have n0:0≤wrap64 ((l.length:Int) - 1):=(by rw [hw1];omega);have n1:wrap64 ((l.length:Int) - 1)<(l.length:Int):=(by rw [hw1];omega);rw [← hw1] at A7;clear hw1 c0
     obtain ⟨gB,cap,eo,_,_,_,_⟩:=Kd.OJ Y.out (by omega);injection eo with ea_ en_ ec_;subst ea_;subst ec_;clear en_;obtain ⟨oki,c,_,hM,hcc,_,_,_⟩:=Kd.KP Y.out z71 (wrap64 ((l.length:Int) - 1)) n0 n1;obtain ⟨vM,ec,_⟩:=(show Kd.M tq _ _ oki (cu l (wrap64 ((l.length:Int) - 1))) c from hM);subst ec;have HX:=af.mk (show wf.cell? ⟨gB,(wrap64 ((l.length:Int) - 1)).toNat * 3,none⟩=some (.int .i64 (cu l (wrap64 ((l.length:Int) - 1))).f0) from hcc 0 _ rfl);clear hM hcc;have p2:=eq_true n0;have q2:=eq_true n1;clear n0 n1;replace B1:=af.mk (bg B1.out);replace B2:=af.mk (bg B2.out);replace B3:=af.mk (bg B3.out);replace T0:=af.mk (show s0≤wf.drew.heap.size from T0.out);replace HB:=af.mk (cO HB.out);replace Y:=af.mk (Kd.dV Y.out);replace HX:=af.mk (show wf.drew.cell? _=_ from HX.out);refine Af 18 [] (ny B3 (ny B1 (aJ HX.out (hc (cb HB W0.out))))) (fun hHeld=>?_);refine gq (show fJ .any (opsOf Tryz.f19 6)=Jj.T from by kernel_rfl) (show iY Jj.T.2 Jj.B=true from by kernel_rfl) (fun HT_ HW_=>?_)
     generalize wf.drew=wg at B1 B2 B3 Y HX T0 HB hHeld ⊢
     revert A7;refine bL (fun VJ VK A7=>?_) (fun c1 VJ VK A7=>?_)
     have A8:=af.mk (show (if false=true then iX.l2 k1 (aG au i) i l else iX.l1 k1 (aG au i) i l)=some lc from A7);clear A7;rotate_left;have A8:=af.mk (show (if true=true then iX.l2 k1 (aG au i) i l else iX.l1 k1 (aG au i) i l)=some lc from A7);clear A7 c1
     all_goals
      refine jF 0 ?_;refine ta 4 ?_;refine jF 5 ?_;refine ta 9 ?_;refine bV 10 ?_;refine ta 11 ?_;refine kZ 12 ?_;refine ta 15 ?_;refine jm 16 ?_;refine fq (gp HT_.out (by kernel_rfl)) ?_;clear HT_ HW_ hHeld
    all_goals
     go_upto_if 40 with (fail)
     go_cut [5] (fun v5 wx=>∃ (l2:List gP) (A2:Option Addr) (c2:Nat),v5=.int .i64 (l2.length:Int)∧af (iX.l1 k1 (aG au i) i l2=some lc)∧af (l2.length≤3518437208883)∧af (Kd.S tq 71 wx w.heap.size (fun k_=>s0≤k_) (.slice A2 l2.length c2) l2)∧af (wx.heap[g1]? = some (.cells #[.string ag,.string aj,.int .i64 ak,.slice (some ad) au.length eZ] 29 (0,0)))∧af (wx.heap[g2]? = some (.cells #[.string (⟨#[]⟩:ByteArray),.string (⟨#[]⟩:ByteArray),.int .i64 0,.slice none 0 0] 35 (0,0)))∧af (wx.heap[g3]? = some (.cells #[.string ag,.string aj,.int .i64 ak,.slice A2 l2.length c2] 35 (0,0)))∧af (s0≤wx.heap.size)∧af (Below w.heap.size w wx))
     case first =>
      first
      | (have A7:af (iX.l1 k1 (aG au i) i l=some lc):=af.mk (dD A8.out);clear A8;go_wp2;go_meet;case rel=>exact ⟨l,_,cl,rfl,A7,⟨by have:=LX.out;omega⟩,Y,B1,B2,B3,T0,HB⟩)
      | (have A7:=af.mk (dE A8.out);clear A8;(try clear HX);obtain ⟨xx,hxx⟩:∃ y,y=l++[(⟨(aG au i).f0,wrap64 ((l.length:Int)+1),[]⟩:gP)]:=⟨_,rfl⟩;have A8:=af.mk (show iX.l1 k1 (aG au i) i xx=some lc from by rw [hxx];exact A7.out);have NX:=af.mk hxx;clear hxx A7;have X5:=af.mk (show wrap64 ((l.length:Int)+1)=(xx.length:Int) from by have:=LX.out;have e:=congrArg List.length NX.out;simp only [List.length_append,List.length_cons,List.length_nil] at e;unfold wrap64;omega);have XL:=af.mk (show xx.length≤3518437208883 from by have:=LX.out;have e:=congrArg List.length NX.out;simp only [List.length_append,List.length_cons,List.length_nil] at e;omega);(try go_wp2);replace B1:=af.mk (bg B1.out);replace B2:=af.mk (bg B2.out);replace B3:=af.mk (bg B3.out);replace T0:=af.mk (show s0≤wg.drew.heap.size from T0.out);replace HB:=af.mk (cO HB.out);replace Y:=af.mk (Kd.dV Y.out);refine Af 15 [14] (ny B3 (ny B1 (hc (cb HB W0.out)))) (fun hHeld=>?_);refine gq (show fJ .any (opsOf Tryz.f19 7)=XK.T from by kernel_rfl) (show iY XK.T.2 XK.B=true from by kernel_rfl) (fun HT_ HW_=>?_);generalize wg.drew=wh at B1 B2 B3 Y T0 HB hHeld ⊢;refine bV 0 ?_;refine ta 1 ?_;refine bV 2 ?_;refine ta 3 ?_;refine kZ 4 ?_;refine ta 7 ?_;refine kZ 8 ?_;refine oA 11 52 HT_ (fun K hK=>?_);refine DF (w1:=?_) (v:=?_) (by rfl) rfl ?_ ?_;rotate_left 2;(go_simp;constructor;rfl;rfl);refine hK.out _ _ ⟨(az (eu B3.out _) 0).trans rfl,(az (eu B3.out _) 1).trans rfl,(az (eu B3.out _) 2).trans rfl,(az (eu B3.out _) 3).trans rfl,(az (eu B1.out _) 0).trans rfl,(az (eu B1.out _) 1).trans rfl,(az (eu B1.out _) 2).trans rfl,(az (eu B1.out _) 3).trans rfl,(World.cell?_alloc_lt _ _ _ (World.block_lt_of_cell? _ _ (cb HB W0.out))).trans (cb HB W0.out)⟩ (fun hHeld=>?_);clear hK K;refine nA 52 ?_;refine oA 12 53 HT_ (fun K hK=>?_);refine Kd.KM tq (w0:=w) w.heap.size (by rfl) (.tmp 42) (.tmp 52) 33 71 ((.agg #[(.int .i64 0),(.int .i64 0),(.slice none 0 0)])) 40 rfl Tryz.underlying33 akd rfl (by decide) (by omega) (.slice _ l.length cl) l (⟨(aG au i).f0,wrap64 ((l.length:Int)+1),[]⟩:gP) [.int .i64 ((aG au i).f0),.int .i64 (wrap64 ((l.length:Int)+1)),.slice none 0 0] (fun k_=>s0≤k_) (fun _=>False) rfl rfl ⟨_,rfl,Kd.qO _ _ _ _ _⟩ (fun _ h=>h.elim) (fun k_ q_=>Nat.le_trans T0.out q_) (Kd.fU Y.out (fun _ q_=>⟨q_,id⟩)) HB.out HB.out.size (by have:=LX.out;omega) ?_;intro vx wi ho hb hg hat;rw [← NX.out] at ho;obtain ⟨Ec,EE,e_⟩:=Kd.kI ho;subst e_;replace B1:=af.mk (fG (ks B1) hg (fun e_=>by obtain ⟨_,h1,_⟩:=Y.out;have:=h1 _ e_.symm;have:=D1.out;omega));replace B2:=af.mk (fG (ks B2) hg (fun e_=>by obtain ⟨_,h1,_⟩:=Y.out;have:=h1 _ e_.symm;have:=D2.out;omega));replace B3:=af.mk (fG (ks B3) hg (fun e_=>by obtain ⟨_,h1,_⟩:=Y.out;have:=h1 _ e_.symm;have:=D3.out;omega));replace T0:=af.mk (Nat.le_trans T0.out hg.size);replace HB:=af.mk hb;replace Y:=af.mk ho;clear ho hb hg hat;refine hK.out _ _ (ny B3 (ny B1 (hc (cb HB W0.out)))).out (fun hHeld=>?_);clear hK K;refine nA 53 ?_;refine bV 13 ?_;refine FC (i:=14) (N:=none) #[true,true,true,true,true,true,true,true,true,true,true,true,true,true,true] rfl rfl (vB HT_.out (by kernel_rfl)) (by decide) (fun K hK=>?_);have hs:=(az B3.out 3).trans rfl;have hf:=aV B3.out 3;refine vD (w1:=wi.setCell ⟨g3,3,none⟩ (.slice Ec xx.length EE)) (by rfl) rfl (by first|(go_simp;done)|(go_simp;rfl)) ?_;refine hK.out _ _ ?_;clear hK K hs hf hHeld;refine fq (gp HT_.out (by kernel_rfl)) ?_;clear HT_ HW_;obtain ⟨wl,hw⟩:∃ W,W=wi.setCell ⟨g3,3,none⟩ (.slice Ec xx.length EE):=⟨_,rfl⟩;rw [← hw];have hk:Kept wi wl (fun k_=>k_=g3):=(by rw [hw];exact Kept.setCell (p:=⟨g3,3,none⟩) (S:=fun k_=>k_=g3) (Kept.refl _ _) (Or.inl rfl) _);replace HB:=af.mk (show Below w.heap.size w wl from by rw [hw];exact eD HB.out E3.out);replace B1:=af.mk (xB B1.out hk (fun e_=>Ox.out e_));replace B2:=af.mk (xB B2.out hk (fun e_=>Gy.out e_));have B3':af (wl.heap[g3]? = some (.cells #[.string ag,.string aj,.int .i64 ak,.slice Ec xx.length EE] 35 (0,0))):=⟨by rw [hw];exact kp B3⟩;replace T0:=af.mk (Nat.le_trans T0.out hk.1);replace Y:=af.mk (Kd.aan Y.out hk (fun k_ q_ e_=>by have:=D3.out;omega));clear hk hw;try go_wp2;go_meet;case rel=>exact ⟨xx,Ec,EE,congrArg (Value.int IntKind.i64) X5.out,A8,XL,Y,B1,B2,B3',T0,HB⟩)
     case rest =>
      clear A8 Y B1 B2 B3 T0 HB;(try clear HX);(try clear p2);(try clear q2);obtain ⟨l2,A2,c2,rfl,A7,L2,Y,B1,B2,B3,T0,HB⟩:=hcut;have BZ:=A7.out;clear A7;unfold iX.l1 at BZ;revert BZ;refine jE ?_;rintro ⟨cp,cq⟩ A7;replace A7:=bo A7;obtain ⟨b,Ab,A7⟩:=A7;replace A7:=si A7
      have hw1:wrap64 ((l2.length:Int) - 1)=(l2.length:Int) - 1:=(by have:=L2.out;unfold wrap64;omega);have n0:0≤wrap64 ((l2.length:Int) - 1):=(by rw [hw1];omega);have n1:wrap64 ((l2.length:Int) - 1)<(l2.length:Int):=(by rw [hw1];omega);have eJ:=af.mk (show (wrap64 ((l2.length:Int) - 1)).toNat=l2.length - 1 from by rw [hw1];omega);rw [← hw1] at cq A7;clear hw1
      obtain ⟨gB,cap,eo,hbB,hlB,_,_⟩:=Kd.OJ Y.out cp;injection eo with ea_ en_ ec_;subst ea_;subst ec_;clear en_;have EB:=af.mk hbB;have OKB:=af.mk ((Kd.ql Y.out).1 gB rfl)
      obtain ⟨oki,c,_,hM,hcc,_,hoki,hH⟩:=Kd.KP Y.out z71 (wrap64 ((l2.length:Int) - 1)) n0 n1;replace hM:=(show Kd.M tq _ _ oki (cu l2 (wrap64 ((l2.length:Int) - 1))) c from hM);obtain ⟨x1,hx1⟩:∃ x,x=cu l2 (wrap64 ((l2.length:Int) - 1)):=⟨_,rfl⟩;rw [← hx1] at hM cq A7;clear hx1;have LC:=af.mk A7;have CQ:=af.mk cq;have HOK:=af.mk hoki;clear A7 cq cp hoki
      obtain ⟨vM,ec,hR⟩:=id hM;subst ec;obtain ⟨AM,cM,eM⟩:=Kd.kI hR;subst eM;have HX:=af.mk (show wc.cell? ⟨gB,(wrap64 ((l2.length:Int) - 1)).toNat * 3+2,none⟩=some (.slice AM x1.f2.length cM) from hcc 2 _ rfl);have HH:=af.mk hH;have HRM:=af.mk hR;clear hM hcc hH hR Y;have p3:=eq_true n0;have q3:=eq_true n1;have N0:=af.mk n0;have N1:=af.mk n1;clear n0 n1
      try go_wp2
      replace B1:=af.mk (bg B1.out);replace B2:=af.mk (bg B2.out);replace B3:=af.mk (bg B3.out);replace HX:=af.mk (show wc.drew.cell? ⟨gB,(wrap64 ((l2.length:Int) - 1)).toNat * 3+2,none⟩=_ from HX.out);replace HH:=af.mk (Kd.afm HH.out);replace HRM:=af.mk (Kd.dV HRM.out);replace T0:=af.mk (show s0≤wc.drew.heap.size from T0.out);have GBA:=af.mk (show gB<wc.drew.heap.size from hlB);replace HB:=af.mk (cO HB.out);clear hlB hbB;refine Af 25 [24] (ny B3 (ny B1 (aJ HX.out (aJ (cb HB W0.out) (aJ (cb HB W1.out) (aJ (cb HB W2.out) (aJ (cb HB W3.out) (aJ (cb HB W4.out) (hc (cb HB W5.out)))))))))) (fun hHeld=>?_);refine gq (show fJ .any (opsOf Tryz.f19 9)=XM.T from by kernel_rfl) (show iY XM.T.2 XM.B=true from by kernel_rfl) (fun HT_ HW_=>?_)
      generalize wc.drew=wA at B1 B2 B3 HX HH HRM T0 GBA HB hHeld ⊢
      have TA:=af.mk T0.out;refine bV 0 ?_;refine ta 1 ?_;refine kZ 2 ?_;refine ta 5 ?_;refine jF 6 ?_;refine ta 10 ?_;refine kZ 11 ?_;refine ta 14 ?_;refine jm 15 ?_;refine ta 17 ?_;refine oA 18 75 HT_ (fun K hK=>?_);refine gA Tryz.func32 #[.agg #[.int .i64 (aG au i).f0,.string (aG au i).f1,.string (aG au i).f2,.int .i64 (aG au i).f3,.slice NZ (aG au i).f4.length Pg,.slice N7 (aG au i).f5.length Pi]] ?_;(with_reducible refine (fB.CF k1 ((aG au i).f0) ((aG au i).f1) ((aG au i).f2) ((aG au i).f3) _ _ ((aG au i).f4) _ _ ((aG au i).f5) b _ ?aI Zx.out ?lh Zy.out Ab.out).mono ?_);(case aI=>exact Kd.bJ Zv.out HB.out);(case lh=>exact Kd.bJ Zw.out HB.out);rintro e wB ⟨v9,rfl,xK,hb⟩;refine ⟨_,rfl,?_⟩;obtain ⟨A9,c9,e_⟩:=Kd.kI xK;subst e_;have Z9:=af.mk (Kd.mJ xK HB.out.size);clear xK;have WAB:=af.mk hb.size;replace HH:=af.mk (Kd.UQ (Kd.ZX HH.out) hb);replace HRM:=af.mk (Kd.rJ (Kd.fU (ok':=fun k_=>oki k_∧k_<wA.heap.size) (Kd.uf HRM.out) (fun _ q=>⟨q.1,q.2.2.1⟩)) hb);replace HX:=af.mk (show wB.cell? ⟨gB,(wrap64 ((l2.length:Int) - 1)).toNat * 3+2,none⟩=some (.slice AM x1.f2.length cM) from (Kd.Ei HH.out N0.out N1.out).1 2 _ rfl);replace B1:=af.mk (aZ (ks B1) hb);replace B2:=af.mk (aZ (ks B2) hb);replace B3:=af.mk (aZ (ks B3) hb);replace T0:=af.mk (Nat.le_trans T0.out hb.size);replace HB:=af.mk (fF (bs HB) hb);clear hb;refine hK.out _ _ (ny B3 (ny B1 (aJ HX.out (aJ (cb HB W0.out) (aJ (cb HB W1.out) (aJ (cb HB W2.out) (aJ (cb HB W3.out) (aJ (cb HB W4.out) (hc (cb HB W5.out)))))))))).out (fun hHeld=>?_);clear hK K;refine nA 75 ?_;refine bV 19 ?_;refine oA 20 77 HT_ (fun K hK=>?_);refine DF (w1:=?_) (v:=?_) (by rfl) rfl ?_ ?_
      rotate_left 2
      ·go_simp
       constructor
       ·rfl
       ·rfl
      refine hK.out _ _ ⟨(az (eu B3.out _) 0).trans rfl,(az (eu B3.out _) 1).trans rfl,(az (eu B3.out _) 2).trans rfl,(az (eu B3.out _) 3).trans rfl,(az (eu B1.out _) 0).trans rfl,(az (eu B1.out _) 1).trans rfl,(az (eu B1.out _) 2).trans rfl,(az (eu B1.out _) 3).trans rfl,(World.cell?_alloc_lt _ _ _ (World.block_lt_of_cell? _ _ HX.out)).trans HX.out,(World.cell?_alloc_lt _ _ _ (World.block_lt_of_cell? _ _ (cb HB W0.out))).trans (cb HB W0.out),(World.cell?_alloc_lt _ _ _ (World.block_lt_of_cell? _ _ (cb HB W1.out))).trans (cb HB W1.out),(World.cell?_alloc_lt _ _ _ (World.block_lt_of_cell? _ _ (cb HB W2.out))).trans (cb HB W2.out),(World.cell?_alloc_lt _ _ _ (World.block_lt_of_cell? _ _ (cb HB W3.out))).trans (cb HB W3.out),(World.cell?_alloc_lt _ _ _ (World.block_lt_of_cell? _ _ (cb HB W4.out))).trans (cb HB W4.out),(World.cell?_alloc_lt _ _ _ (World.block_lt_of_cell? _ _ (cb HB W5.out))).trans (cb HB W5.out)⟩ (fun hHeld=>?_);clear hK K;refine nA 77 ?_;obtain ⟨mm,hmm⟩:∃ y,y=x1.f2++[(⟨wrap64 (i+1),b⟩:kN)]:=⟨_,rfl⟩;have NM:=af.mk hmm;clear hmm
      refine oA 21 78 HT_ (fun K hK=>?_);refine Kd.KM MF (w0:=w) w.heap.size (by rfl) (.tmp 67) (.tmp 77) 69 73 ((.agg #[(.int .i64 0),(.slice none 0 0)])) 32 rfl Tryz.underlying69 ake rfl (by decide) (by omega) (.slice AM x1.f2.length cM) x1.f2 (⟨wrap64 (i+1),b⟩:kN) [.int .i64 (wrap64 (i+1)),.slice A9 b.length c9] (fun k_=>oki k_∨wA.heap.size≤k_) (fun k_=>wA.heap.size≤k_) rfl rfl ⟨_,rfl,Z9.out⟩ (fun k_ q_=>⟨.inr q_,fun e_=>by obtain ⟨_,h1,_⟩:=HRM.out;have:=(h1 k_ e_.symm).2;omega⟩) (fun k_ q_=>.inr (Nat.le_trans WAB.out q_)) (Kd.fU HRM.out (fun _ q_=>⟨.inl q_.1,Nat.not_le_of_lt q_.2⟩)) HB.out HB.out.size (by have:=CQ.out;omega) ?_;intro vx wC ho hb hg hat;rw [← NM.out] at ho;obtain ⟨BU,Cw,e_⟩:=Kd.kI ho;subst e_
      have hr:∀ k,(Value.slice AM x1.f2.length cM).ownBlock=some k→oki k:=fun k e=>(by obtain ⟨_,h1,_⟩:=HRM.out;exact (h1 k e).1);have hn:∀ q,(∀ k,oki k→k≠q)→some q≠(Value.slice AM x1.f2.length cM).ownBlock:=fun q hq e=>hq q (hr q e.symm) rfl;replace HH:=af.mk (Kd.afn HH.out hg (fun k e=>.inl (hr k e)));replace B1:=af.mk (fG (ks B1) hg (hn _ (fun k h e=>by have h1:=(HOK.out k h).1;have h2:=D1.out;omega)));replace B2:=af.mk (fG (ks B2) hg (hn _ (fun k h e=>by have h1:=(HOK.out k h).1;have h2:=D2.out;omega)));replace B3:=af.mk (fG (ks B3) hg (hn _ (fun k h e=>by have h1:=(HOK.out k h).1;have h2:=D3.out;omega)));replace T0:=af.mk (Nat.le_trans T0.out hg.size);replace HB:=af.mk hb;replace HX:=af.mk (show wC.cell? ⟨gB,(wrap64 ((l2.length:Int) - 1)).toNat * 3+2,none⟩=some (.slice AM x1.f2.length cM) from (Kd.Ei HH.out N0.out N1.out).1 2 _ rfl);have HO:=af.mk ho;clear hr hn ho hb hg hat HRM Z9
      refine hK.out _ _ (ny B3 (ny B1 (aJ HX.out (aJ (cb HB W0.out) (aJ (cb HB W1.out) (aJ (cb HB W2.out) (aJ (cb HB W3.out) (aJ (cb HB W4.out) (hc (cb HB W5.out)))))))))).out (fun hHeld=>?_);clear hK K;refine nA 78 ?_;refine jm 22 ?_;refine FC (i:=24) (N:=none) #[true,true,true,true,true,true,true,true,true,true,true,true,true,true,true,true,true,true,true,true,true,true,true,true,true] rfl rfl (vB HT_.out (by kernel_rfl)) (by decide) (fun K hK=>?_);have hs:=HX.out;have hf:wC.frozen? ⟨gB,(wrap64 ((l2.length:Int) - 1)).toNat * 3+2,none⟩=false:=(Kd.Ei HH.out N0.out N1.out).2 2;refine vD (w1:=wC.setCell ⟨gB,(wrap64 ((l2.length:Int) - 1)).toNat * 3+2,none⟩ (.slice BU mm.length Cw)) (by rfl) rfl (by first|(go_simp;done)|(go_simp;rfl)) ?_;refine hK.out _ _ ?_;clear hK K hs hf hHeld;refine fq (gp HT_.out (by kernel_rfl)) ?_;clear HT_ HW_;obtain ⟨wl,hw⟩:∃ W,W=wC.setCell ⟨gB,(wrap64 ((l2.length:Int) - 1)).toNat * 3+2,none⟩ (.slice BU mm.length Cw):=⟨_,rfl⟩;rw [← hw];obtain ⟨hq,hg2⟩:=Kd.UR HH.out N0.out N1.out (seg:=[.slice BU mm.length Cw]) (j:=2) (show 2+1≤3 from by decide) (fun q hq=>by rw [List.mem_singleton.1 hq];rfl);replace hq:Kd.H tq 71 wl w.heap.size (fun k_=>s0≤k_) (.slice (some ⟨gB,0,none⟩) l2.length c2) l2 (wrap64 ((l2.length:Int) - 1)) (fun k=>oki k∨s0≤k∧wA.heap.size≤k) [.int .i64 x1.f0,.int .i64 x1.f1,.slice BU mm.length Cw]:=(by rw [hw];exact hq);replace hg2:wC.grownBy wl (some gB):=(by rw [hw];exact hg2);have ho:=Kd.af4 HO.out hg2 (fun k_ q_ e_=>by injection e_ with e_;rcases q_ with q_|q_;exact (HOK.out k_ q_).2 e_;(have:=GBA.out;omega));have Y:=Kd.UO hq (x':=(⟨x1.f0,x1.f1,mm⟩:gP)) (show Kd.M tq wl w.heap.size (fun k_=>oki k_∨wA.heap.size≤k_) _ _ from ⟨_,rfl,ho⟩) (fun k_ q_=>q_.elim .inl (fun h=>.inr ⟨Nat.le_trans TA.out h,h⟩))
      have nB:∀ q,q<s0→some q≠some gB:=fun q h e_=>(by injection e_ with e_;have:=OKB.out;omega);replace B1:=af.mk (fG (ks B1) hg2 (nB _ D1.out));replace B2:=af.mk (fG (ks B2) hg2 (nB _ D2.out));replace B3:=af.mk (fG (ks B3) hg2 (nB _ D3.out));replace T0:=af.mk (Nat.le_trans T0.out hg2.size);replace HB:=af.mk (show Below w.heap.size w wl from by rw [hw];exact eD HB.out EB.out);rw [eJ.out,NM.out,LC.out] at Y;have el:l2.length=lc.length:=(by rw [← LC.out,List.length_set]);rw [el] at Y B3;replace Y:=af.mk (Kd.fU (ok':=fun k_=>s0≤k_) Y (fun _ q=>q));clear hw hq hg2 ho nB el
      try go_wp2
      go_roundg k1
      case measure=>have:=aU.out;omega
      case rel=>exact ⟨_,lc,some ⟨gB,0,none⟩,c2,rfl,H',⟨by have:=aU.out;omega⟩,Y,B1,B2,B3,T0,HB⟩
   ·intro c9 H;obtain rfl:=si H;have z2:=eU B2;have n23:=Gy.out
    go_wp2
    refine bodyPost_ret (results_cell_row rfl _ _ g2 35 #[.string ag,.string aj,.int .i64 ak,.slice Al l.length cl] (0,0) _ rfl (kp B2) Tryz.underlying35 rfl (by kernel_rfl)) rfl ?_
    exact ⟨_,ff,Kd.fU (Kd.iT (p:=⟨g2,3,none⟩) (Kd.iT (p:=⟨g2,2,none⟩) (Kd.iT (p:=⟨g2,1,none⟩) (Kd.iT (p:=⟨g2,0,none⟩) Y.out (fun k_ q_ e_=>by have:=D2.out;have e2:k_=g2:=e_;omega) _) (fun k_ q_ e_=>by have:=D2.out;have e2:k_=g2:=e_;omega) _) (fun k_ q_ e_=>by have:=D2.out;have e2:k_=g2:=e_;omega) _) (fun k_ q_ e_=>by have:=D2.out;have e2:k_=g2:=e_;omega) _) (fun _ q=>Nat.le_trans S0.out q),eD (eD (eD (eD HB.out E2.out) E2.out) E2.out) E2.out⟩
theorem iX.calls (k:Nat) (ag:ByteArray) (aj:ByteArray) (ak:Int) (fP:Option Addr) (eZ:Nat) (au:List (gN)) (r1:ByteArray) (r2:ByteArray) (r3:Int) (r4:List (gP)) (w:World) (kE:Kd.C kK w fP au.length au) (kD:au.length≤eZ) (H:iX.f k ag aj ak au=some (r1,r2,r3,r4)) :
  Calls Tryz.prog 19 #[.agg #[.string ag,.string aj,.int .i64 ak,.slice fP au.length eZ]] w fun e w'=>∃ wR:Value,e=.returned (.agg #[.string r1,.string r2,.int .i64 r3,wR])∧Kd.R sZ 71 w' w.heap.size (fun _=>True) wR r4∧Below w.heap.size w w':=by
 refine (iX.CF k ag aj ak fP eZ au r1 r2 r3 r4 w kE kD H).mono ?_;rintro e w' ⟨v,he,hS,hb⟩
 exact ⟨v,he,Kd.dI (ako hS) (fun _ _=>trivial),hb⟩
theorem Ad.calls (a0:Int) (r:Bool) (w:World) (H:Ad.f a0=some r) :
  Calls Tryz.prog 37 #[.int .i64 a0] w fun e w'=>e=.returned (.bool r)∧aT w w':=by
 unfold Ad.f at H
 revert H;refine gz ?_ ?_
 ·intro c2 H;have gJ:decide (1≤a0)=true:=decide_eq_true c2;clear c2;obtain rfl:=si H
  go_in
  go_wp2
  go_ret
  exact ⟨fg,dr⟩
 ·intro c2 H;have gJ:decide (1≤a0)=false:=decide_eq_false c2;clear c2;obtain rfl:=si H
  go_in
  go_wp2
  go_ret
  exact ⟨fg,dr⟩
theorem FV.calls (a0:ByteArray) (r:Bool) (w:World) (H:FV.f a0=some r) :
  Calls Tryz.prog 38 #[.string a0] w fun e w'=>e=.returned (.bool r)∧aT w w':=by
 unfold FV.f at H
 revert H;refine bL ?_ ?_
 ·intro gJ ja H;obtain rfl:=si H
  go_in
  go_wp2
  go_ret
  exact ⟨fg,dr⟩
 ·intro c2 gJ ja H
  revert H;refine bL ?_ ?_
  ·intro bN fo H;obtain rfl:=si H
   go_in
   go_wp2
   go_ret
   exact ⟨fg,dr⟩
  ·intro c3 bN fo H
   revert H;refine bL ?_ ?_
   ·intro dS kW H;obtain rfl:=si H
    go_in
    go_wp2
    go_ret
    exact ⟨fg,dr⟩
   ·intro c4 dS kW H
    revert H;refine bL ?_ ?_
    ·intro kv wo H;obtain rfl:=si H
     go_in
     go_wp2
     go_ret
     exact ⟨fg,dr⟩
    ·intro c5 kv wo H
     revert H;refine bL ?_ ?_
     ·intro gQ pW H;obtain rfl:=si H
      go_in
      go_wp2
      go_ret
      exact ⟨fg,dr⟩
     ·intro c6 gQ pW H;obtain rfl:=si H
      go_in
      go_wp2
      go_ret
      exact ⟨fg,dr⟩
end Go.Proofs.YtapilmimgiaglaaGreatDoor.QA
