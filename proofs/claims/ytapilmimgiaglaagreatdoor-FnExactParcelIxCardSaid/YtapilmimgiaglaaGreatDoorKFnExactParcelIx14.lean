import Derived.Test.YtapilmimgiaglaaGreatDoorKFnExactParcelIx13
set_option maxHeartbeats 8000000
set_option maxRecDepth 100000
set_option linter.unusedSimpArgs false
set_option linter.unusedVariables false
namespace Go.Proofs.YtapilmimgiaglaaGreatDoor.QX
open Go.RowKit Go.Proofs.bB.eH Go.Proofs.bB.PrintLast Go.Proofs.bB.PrintMore
attribute [local go_sem] oU o5 oZ o8 oW o7 oV o6
theorem ake (d:Nat)(w:World)(x0 y0:Int)(x1 y1:ByteArray)(x2 y2 x3 y3:Int)(x4 y4:ByteArray) :
  (Op.equalIn (d+2) 95 (.agg #[.int .i64 x0,.string x1,.int .i64 x2,.int .i64 x3,.string x4]) (.agg #[.int .i64 y0,.string y1,.int .i64 y2,.int .i64 y3,.string y4])).run Tryz.prog w=.ok (x0 == y0 && (x1.toList == y1.toList && (x2 == y2 && (x3 == y3 && (x4.toList == y4.toList))))) w:=by
 refine avq Tryz.underlying95 (by kernel_rfl) ?_;refine Zz (by rfl) (by go_simp;rfl) (by go_simp;rfl) (by go_simp) ?_;refine Zz (by rfl) (by go_simp;rfl) (by go_simp;rfl) (by go_simp) ?_;refine Zz (by rfl) (by go_simp;rfl) (by go_simp;rfl) (by go_simp) ?_;refine Zz (by rfl) (by go_simp;rfl) (by go_simp;rfl) (by go_simp) ?_
 exact avB (by rfl) (by go_simp;rfl) (by go_simp;rfl) (by go_simp)
end Go.Proofs.YtapilmimgiaglaaGreatDoor.QX
namespace Go.Proofs.YtapilmimgiaglaaGreatDoor.QX
open Go.RowKit Go.Proofs.bB.eH Go.Proofs.bB.PrintLast Go.Proofs.bB.PrintMore
attribute [local go_sem] oU o5 oZ o8 oW o7 oV o6
attribute [local go_sem high] ake
theorem kI.calls (k:Nat)(ag:Int)(aj ak:ByteArray)(aM:Int)(dB:Option Addr)(dx:Nat)(az:List ByteArray)(dJ:Option Addr)(df:Nat)(ah:List aZ)(aI:Int)(bX dA:ByteArray)(eU:Int)(pJ:Option Addr)(pU:Nat)(iT:List ByteArray)(pK:Option Addr)(pV:Nat)(gV:List aZ)(r:Bool)(w:World)(lm:Kd.C Kd.string w dB az.length az)(kY:az.length≤dx)(lq:Kd.C iA w dJ ah.length ah)(kZ:ah.length≤df)(Ie:Kd.C Kd.string w pJ iT.length iT)(Ht:iT.length≤pU)(Ig:Kd.C iA w pK gV.length gV)(Hu:gV.length≤pV)(H:kI.f k ag aj ak aM az ah aI bX dA eU iT gV=some r) :
  Calls Tryz.prog 35 #[.agg #[.int .i64 ag,.string aj,.string ak,.int .i64 aM,.slice dB az.length dx,.slice dJ ah.length df],.agg #[.int .i64 aI,.string bX,.string dA,.int .i64 eU,.slice pJ iT.length pU,.slice pK gV.length pV]] w fun e w'=>e=.returned (.bool r)∧Below w.heap.size w w':=by
 have xq:=Tryz.underlying45;have Dx:=Tryz.underlying95;have oI:=am lm;have rR:=am kY;clear lm kY;have ni:=am lq;have qW:=am kZ;clear lq kZ;have Nu:=am Ie;have XU:=am Ht;clear Ie Ht;have Nv:=am Ig;have XV:=am Hu;clear Ig Hu;have HB:=am (Below.refl w.heap.size w);unfold kI.f at H;have rT:=am H;clear H
 go_in
 go_upto_region 1 with (first|((with_reducible refine aJ (N:=2) rfl ?_);(try (refine jc (by rfl) ?_;dsimp only));refine bz 2 (cs:=#[.int .i64 ag,.string aj,.string ak,.int .i64 aM,.slice dB az.length dx,.slice dJ ah.length df]) (t:=45) HB ?_;clear HB;intro Fb hg w4 iV Nh hb HB;clear hb hg)|((with_reducible refine aJ (N:=3) rfl ?_);(try (refine jc (by rfl) ?_;dsimp only));refine bz 3 (cs:=#[.int .i64 aI,.string bX,.string dA,.int .i64 eU,.slice pJ iT.length pU,.slice pK gV.length pV]) (t:=45) HB ?_;clear HB;intro Tn hg w5 nJ ahI hb HB;have xW:=na hg iV;have xX:=nc hg iV;replace iV:=bb iV hb;clear hb hg))
 repeat (go_quiet (first|((with_reducible refine aJ (N:=2) rfl ?_);(try (refine jc (by rfl) ?_;dsimp only));refine bz 2 (cs:=#[.int .i64 ag,.string aj,.string ak,.int .i64 aM,.slice dB az.length dx,.slice dJ ah.length df]) (t:=45) HB ?_;clear HB;intro Fb hg w4 iV Nh hb HB;clear hb hg)|((with_reducible refine aJ (N:=3) rfl ?_);(try (refine jc (by rfl) ?_;dsimp only));refine bz 3 (cs:=#[.int .i64 aI,.string bX,.string dA,.int .i64 eU,.slice pJ iT.length pU,.slice pK gV.length pV]) (t:=45) HB ?_;clear HB;intro Tn hg w5 nJ ahI hb HB;have xW:=na hg iV;have xX:=nc hg iV;replace iV:=bb iV hb;clear hb hg));go_upto_region 1 with (first|((with_reducible refine aJ (N:=2) rfl ?_);(try (refine jc (by rfl) ?_;dsimp only));refine bz 2 (cs:=#[.int .i64 ag,.string aj,.string ak,.int .i64 aM,.slice dB az.length dx,.slice dJ ah.length df]) (t:=45) HB ?_;clear HB;intro Fb hg w4 iV Nh hb HB;clear hb hg)|((with_reducible refine aJ (N:=3) rfl ?_);(try (refine jc (by rfl) ?_;dsimp only));refine bz 3 (cs:=#[.int .i64 aI,.string bX,.string dA,.int .i64 eU,.slice pJ iT.length pU,.slice pK gV.length pV]) (t:=45) HB ?_;clear HB;intro Tn hg w5 nJ ahI hb HB;have xW:=na hg iV;have xX:=nc hg iV;replace iV:=bb iV hb;clear hb hg)))
 (try simp only [Act.put,List.setIfInBounds_toArray,List.set_cons_zero,List.set_cons_succ])
 go_cut [50] (fun v50 wc=>∃ (kq:Nat) (abp:Bool),v50=.bool abp∧af (kI.j0 kq abp ag aj ak aM az ah aI bX dA eU iT gV=some r)∧af (kq≤k)∧af (wc.heap[Fb]? = some (.cells #[.int .i64 ag,.string aj,.string ak,.int .i64 aM,(.slice dB az.length dx),(.slice dJ ah.length df)] 45 (0,0)))∧af (wc.heap[Tn]? = some (.cells #[.int .i64 aI,.string bX,.string dA,.int .i64 eU,(.slice pJ iT.length pU),(.slice pK gV.length pV)] 45 (0,0)))∧af (Below w.heap.size w wc))
 case first =>
  have H:=rT.o;clear rT
  revert H;refine bH ?_ ?_
  ·intro gu nM H
   (first|rw [gu]|(simp only [fC,gK];rw [gu])|rw [nM]|skip)
   revert H;refine bH ?_ ?_
   ·intro kH zV H
    revert H;refine bH ?_ ?_
    ·intro kr wo H
     revert H;refine bH ?_ ?_
     ·intro nN EW H
      revert H;refine zz ?_ ?_
      ·intro c10 zi Sc H
       have aty:(az.length == iT.length)=true:=by first|simpa using c10|(simp at c10 ⊢;omega)
       clear c10;have H':=am H;clear H;have awI:=xW.o;have aw4:=xX.o;have Fe:=dO iV;have zY:=dO nJ
       go_wp2
       repeat (go_quiet (fail);try go_wp2)
       go_meet
       case rel=>exact ⟨_,(((ah.length:Int) != (gV.length:Int))),fg,H',⟨fl⟩,⟨ks iV⟩,⟨ks nJ⟩,⟨bs HB⟩⟩
      ·intro c10 zi Sc H
       have aty:(az.length == iT.length)=false:=by first|simpa using c10|(simp at c10 ⊢;omega)
       have H':=am H;clear H;have aew:=xW.o;have aeC:=xX.o;have KO:=dO iV;have zt:=dO nJ
       go_wp2
       repeat (go_quiet (fail);try go_wp2)
       go_meet
       case rel=>exact ⟨_,(true),fg,H',⟨fl⟩,⟨ks iV⟩,⟨ks nJ⟩,⟨bs HB⟩⟩
     ·intro c9 nN EW H;have H':=am H;clear H;have awK:=xW.o;have aw6:=xX.o;have KQ:=dO iV;have Oo:=dO nJ
      go_wp2
      repeat (go_quiet (fail);try go_wp2)
      go_meet
      case rel=>exact ⟨_,(true),fg,H',⟨fl⟩,⟨ks iV⟩,⟨ks nJ⟩,⟨bs HB⟩⟩
    ·intro c8 kr wo H;have H':=am H;clear H;have al3:=xW.o;have ame:=xX.o;have ad4:=dO iV;have Tx:=dO nJ
     go_wp2
     repeat (go_quiet (fail);try go_wp2)
     go_meet
     case rel=>exact ⟨_,(true),fg,H',⟨fl⟩,⟨ks iV⟩,⟨ks nJ⟩,⟨bs HB⟩⟩
   ·intro c7 kH zV H;have H':=am H;clear H;have awO:=xW.o;have axa:=xX.o;have Oq:=dO iV;have ad5:=dO nJ
    go_wp2
    repeat (go_quiet (fail);try go_wp2)
    go_meet
    case rel=>exact ⟨_,(true),fg,H',⟨fl⟩,⟨ks iV⟩,⟨ks nJ⟩,⟨bs HB⟩⟩
  ·intro c6 gu nM H
   (first|rw [gu]|(simp only [fC,gK];rw [gu])|rw [nM]|skip)
   have H':=am H;clear H;have al5:=xW.o;have amg:=xX.o;have Ot:=dO iV;have aea:=dO nJ
   go_wp2
   repeat (go_quiet (fail);try go_wp2)
   go_meet
   case rel=>exact ⟨_,(true),fg,H',⟨fl⟩,⟨ks iV⟩,⟨ks nJ⟩,⟨bs HB⟩⟩
 case rest =>
  clear rT
  obtain ⟨kq,abp,rfl,HA,HJ2,iV,nJ,HB⟩:=hcut
  cases kq with
  | zero=>exact absurd HA.o (by simp [kI.j0])
  | succ FO =>
   have H:=HA.o;clear HA;simp only [kI.j0] at H
   obtain rfl|rfl:=bt abp
   ·replace H:=dm H;obtain rfl:=si H
    go_wp2
    repeat (go_quiet (fail);try go_wp2)
    go_ret
    exact ⟨ff,bs HB⟩
   ·replace H:=di H;have H':=am H;clear H
    go_wp2
    repeat (go_quiet (fail);try go_wp2)
    go_loopg [5] FO (fun kq v5 w'=>∃ (fw:Int),v5=.int .i64 fw∧af (kI.l0 kq fw ag aj ak aM az ah aI bX dA eU iT gV=some r)∧af (kq≤FO)∧af (w'.heap[Fb]? = some (.cells #[.int .i64 ag,.string aj,.string ak,.int .i64 aM,(.slice dB az.length dx),(.slice dJ ah.length df)] 45 (0,0)))∧af (w'.heap[Tn]? = some (.cells #[.int .i64 aI,.string bX,.string dA,.int .i64 eU,(.slice pJ iT.length pU),(.slice pK gV.length pV)] 45 (0,0)))∧af (Below w.heap.size w w'))
    case atStart=>exact ⟨(0),fg,H',⟨Nat.le_refl _⟩,⟨ks iV⟩,⟨ks nJ⟩,⟨bs HB⟩⟩
    case round =>
     clear H'
     try clear iV
     try clear nJ
     obtain ⟨fw,rfl,HA,dD,iV,nJ,HB⟩:=hrel
     cases gk with
     | zero=>exact absurd HA.o (by simp [kI.l0])
     | succ k2 =>
      have H:=HA.o;clear HA;simp only [kI.l0] at H
      revert H;refine bK ?_ ?_
      ·intro ajG H
       revert H;refine bv ?_
       intro ajH H
       revert H;refine bv ?_
       intro Sl H
       revert H;refine bH ?_ ?_
       ·intro ES ads H;have H':=am H;clear H;have aez:=xW.o;have aeF:=xX.o;have ZN:=dO iV;obtain ⟨p57,q57,RV,e57,yA⟩:=wi (Kd.jw oI.o fw)
        cases e57
        replace yA:=cb HB yA;have Ou:=dO nJ;obtain ⟨p58,q58,ac7,e58,Cq⟩:=wi (Kd.jw Nu.o fw)
        cases e58
        replace Cq:=cb HB Cq
        go_wp2
        repeat (go_quiet (fail);try go_wp2)
        go_roundg k2
        case measure=>have:=HJ2.o;have:=dD.o;omega
        case rel=>exact ⟨(wrap64 (fw+1)),fg,H',⟨by have:=HJ2.o;have:=dD.o;omega⟩,⟨ks iV⟩,⟨ks nJ⟩,⟨bs HB⟩⟩
       ·intro c33 ES ads H;obtain rfl:=si H;have aeA:=xW.o;have aeG:=xX.o;have KS:=dO iV;obtain ⟨p57,q57,RV,e57,yA⟩:=wi (Kd.jw oI.o fw)
        cases e57
        replace yA:=cb HB yA;have aed:=dO nJ;obtain ⟨p58,q58,ac7,e58,Cq⟩:=wi (Kd.jw Nu.o fw)
        cases e58
        replace Cq:=cb HB Cq
        go_wp2
        repeat (go_quiet (fail);try go_wp2)
        go_ret
        exact ⟨ff,bs HB⟩
      ·intro ajG H;have H':=am H;clear H;have awR:=xW.o;have axd:=xX.o;have akC:=dO iV
       go_wp2
       repeat (go_quiet (fail);try go_wp2)
       go_loopg [6] k2 (fun kq v6 w'=>∃ (iC:Int),v6=.int .i64 iC∧af (kI.l1 kq iC ag aj ak aM az ah aI bX dA eU iT gV=some r)∧af (kq≤k2)∧af (w'.heap[Fb]? = some (.cells #[.int .i64 ag,.string aj,.string ak,.int .i64 aM,(.slice dB az.length dx),(.slice dJ ah.length df)] 45 (0,0)))∧af (w'.heap[Tn]? = some (.cells #[.int .i64 aI,.string bX,.string dA,.int .i64 eU,(.slice pJ iT.length pU),(.slice pK gV.length pV)] 45 (0,0)))∧af (Below w.heap.size w w'))
       case atStart=>exact ⟨(0),fg,H',⟨Nat.le_refl _⟩,⟨ks iV⟩,⟨ks nJ⟩,⟨bs HB⟩⟩
       case round =>
        clear H'
        try clear ajG
        try clear akC
        try clear iV
        try clear nJ
        obtain ⟨iC,rfl,HA,rU,iV,nJ,HB⟩:=hrel
        cases gk with
        | zero=>exact absurd HA.o (by simp [kI.l1])
        | succ k3 =>
         have H:=HA.o;clear HA;simp only [kI.l1] at H
         revert H;refine bK ?_ ?_
         ·intro Ob H
          revert H;refine bv ?_
          intro atV H
          revert H;refine bv ?_
          intro adu H
          revert H;refine gT ?_ ?_
          ·intro Sn H;have adv:(!(((ai ah iC).f0) == ((ai gV iC).f0)) || (!((((ai ah iC).f1).toList) == (((ai gV iC).f1).toList)) || (!(((ai ah iC).f2) == ((ai gV iC).f2)) || (!(((ai ah iC).f3) == ((ai gV iC).f3)) || (!((((ai ah iC).f4).toList) == (((ai gV iC).f4).toList)))))))=true:=Sn;clear Sn;obtain rfl:=si H;have awV:=xW.o;have axh:=xX.o;have av1:=dO iV;obtain ⟨p55,q55,asX,e55,VD,VE,VF,VG,VH⟩:=wi (uA ni.o iC)
           cases e55
           replace VD:=cb HB VD;replace VE:=cb HB VE;replace VF:=cb HB VF;replace VG:=cb HB VG;replace VH:=cb HB VH;have Ov:=dO nJ;obtain ⟨p56,q56,asY,e56,VI,VJ,VK,VL,VM⟩:=wi (uA Nv.o iC)
           cases e56
           replace VI:=cb HB VI;replace VJ:=cb HB VJ;replace VK:=cb HB VK;replace VL:=cb HB VL;replace VM:=cb HB VM
           go_wp2
           repeat (go_quiet (fail);try go_wp2)
           go_ret
           exact ⟨ff,bs HB⟩
          ·intro Sn H
           have adv:(!(((ai ah iC).f0) == ((ai gV iC).f0)) || (!((((ai ah iC).f1).toList) == (((ai gV iC).f1).toList)) || (!(((ai ah iC).f2) == ((ai gV iC).f2)) || (!(((ai ah iC).f3) == ((ai gV iC).f3)) || (!((((ai ah iC).f4).toList) == (((ai gV iC).f4).toList)))))))=false:=by simpa using Sn
           clear Sn;have H':=am H;clear H;have aJe:=xW.o;have aJY:=xX.o;have aF8:=dO iV;obtain ⟨p55,q55,asX,e55,VD,VE,VF,VG,VH⟩:=wi (uA ni.o iC)
           cases e55
           replace VD:=cb HB VD;replace VE:=cb HB VE;replace VF:=cb HB VF;replace VG:=cb HB VG;replace VH:=cb HB VH;have aF9:=dO nJ;obtain ⟨p56,q56,asY,e56,VI,VJ,VK,VL,VM⟩:=wi (uA Nv.o iC)
           cases e56
           replace VI:=cb HB VI;replace VJ:=cb HB VJ;replace VK:=cb HB VK;replace VL:=cb HB VL;replace VM:=cb HB VM
           go_wp2
           repeat (go_quiet (fail);try go_wp2)
           go_roundg k3
           case measure=>have:=HJ2.o;have:=dD.o;have:=rU.o;omega
           case rel=>exact ⟨(wrap64 (iC+1)),fg,H',⟨by have:=HJ2.o;have:=dD.o;have:=rU.o;omega⟩,⟨ks iV⟩,⟨ks nJ⟩,⟨bs HB⟩⟩
         ·intro Ob H;obtain rfl:=si H;have awY:=xW.o;have axk:=xX.o;have Ow:=dO iV
          go_wp2
          repeat (go_quiet (fail);try go_wp2)
          go_ret
          exact ⟨ff,bs HB⟩
end Go.Proofs.YtapilmimgiaglaaGreatDoor.QX
namespace Go.Proofs.YtapilmimgiaglaaGreatDoor.QX
open Go.RowKit Go.Proofs.bB.eH Go.Proofs.bB.PrintLast Go.Proofs.bB.PrintMore
attribute [local go_sem] oU o5 oZ o8 oW o7 oV o6
theorem kv.calls (k:Nat)(ag:Int)(aj ak:ByteArray)(aM:Int)(dB:Option Addr)(dx:Nat)(az:List ByteArray)(dJ:Option Addr)(df:Nat)(ah:List aZ)(r:Bool)(w:World)(lm:Kd.C Kd.string w dB az.length az)(kY:az.length≤dx)(lq:Kd.C iA w dJ ah.length ah)(kZ:ah.length≤df)(H:kv.f k ag aj ak aM az ah=some r) :
  Calls Tryz.prog 17 #[.agg #[.int .i64 ag,.string aj,.string ak,.int .i64 aM,.slice dB az.length dx,.slice dJ ah.length df]] w fun e w'=>e=.returned (.bool r)∧Below w.heap.size w w':=by
 have xq:=Tryz.underlying45;have r9:=Tryz.underlying62;have hu64:=Tryz.underlying64;have oI:=am lm;have rR:=am kY;clear lm kY;have ni:=am lq;have qW:=am kZ;clear lq kZ;have HB:=am (Below.refl w.heap.size w);unfold kv.f at H;have lY:=am H;clear H
 go_in
 go_upto_region 1 with (first|((with_reducible refine aJ (N:=1) rfl ?_);(try (refine jc (by rfl) ?_;dsimp only));refine bz 1 (cs:=#[.int .i64 ag,.string aj,.string ak,.int .i64 aM,.slice dB az.length dx,.slice dJ ah.length df]) (t:=45) HB ?_;clear HB;intro rZ hg w3 fA ahC hb HB;clear hb hg))
 (try simp only [Act.put,List.setIfInBounds_toArray,List.set_cons_zero,List.set_cons_succ])
 go_cut [15] (fun v15 wc=>∃ (kq:Nat) (Gc:Bool),v15=.bool Gc∧af (kv.j0 kq Gc ag aj ak aM az ah=some r)∧af (kq≤k)∧af (wc.heap[rZ]? = some (.cells #[.int .i64 ag,.string aj,.string ak,.int .i64 aM,(.slice dB az.length dx),(.slice dJ ah.length df)] 45 (0,0)))∧af (Below w.heap.size w wc))
 case first =>
  have H:=lY.o;clear lY
  revert H;refine gT ?_ ?_
  ·intro c4 H;have dF:decide (40<(az.length:Int))=true:=decide_eq_true c4;have kV:decide (40<az.length)=true:=decide_eq_true (by omega);clear c4
   (first|rw [dF]|(simp only [fC,gK];rw [dF])|rw [kV]|skip)
   have H':=am H;clear H;have BQ:=dO fA
   go_wp2
   go_meet
   case rel=>exact ⟨_,(true),fg,H',⟨fl⟩,⟨ks fA⟩,⟨bs HB⟩⟩
  ·intro c4 H;have dF:decide (40<(az.length:Int))=false:=decide_eq_false c4;have kV:decide (40<az.length)=false:=decide_eq_false (by omega);clear c4
   (first|rw [dF]|(simp only [fC,gK];rw [dF])|rw [kV]|skip)
   have H':=am H;clear H;have Dw:=dO fA
   go_wp2
   go_meet
   case rel=>exact ⟨_,(decide ((ah.length:Int)>20)),fg,H',⟨fl⟩,⟨ks fA⟩,⟨bs HB⟩⟩
 case rest =>
  clear lY
  obtain ⟨kq,Gc,rfl,HA,iL,fA,HB⟩:=hcut
  cases kq with
  | zero=>exact absurd HA.o (by simp [kv.j0])
  | succ mV =>
   have H:=HA.o;clear HA;simp only [kv.j0] at H
   obtain rfl|rfl:=bt Gc
   ·replace H:=dm H;obtain rfl:=si H
    go_wp2
    go_ret
    exact ⟨ff,bs HB⟩
   ·replace H:=di H;replace H:=bo H;obtain ⟨t41,A8,H⟩:=H;have H':=am H;clear H;have zZ:=dO fA
    go_wp2_with (first|((go_at_call 32;refine (fQ.calls mV ag aj ak aM _ _ az _ _ ah t41 _ (Kd.bi oI.o (bs HB)) rR.o (Kd.bi ni.o (bs HB)) qW.o A8.o).mono ?_;rintro e qo ⟨v51,rfl,ho0,hb⟩);have aqo:=am (Kd.aio (Kd.EE (ok':=fun k_=>k_≠rZ) ho0 (fun k_ hk_=>(Kd.vC (g:=rZ) (o:=.cells #[.int .i64 ag,.string aj,.string ak,.int .i64 aM,.slice dB az.length dx,.slice dJ ah.length df] 45 (0,0)) (ks fA) k_ hk_))) (bJ (bs HB)));replace fA:=bb fA hb;replace HB:=bq HB hb;(try clear hb);(try clear ho0)))
    go_loopg [4] mV (fun kq v4 w'=>∃ (mX:Int),v4=.int .i64 mX∧af (kv.l0 kq t41 mX ag aj ak aM az ah=some r)∧af (kq≤mV)∧af (Kd.N kP 62 w' w.heap.size (fun k_=>k_≠rZ) v51 t41)∧af (w'.heap[rZ]? = some (.cells #[.int .i64 ag,.string aj,.string ak,.int .i64 aM,(.slice dB az.length dx),(.slice dJ ah.length df)] 45 (0,0)))∧af (Below w.heap.size w w'))
    case atStart=>exact ⟨(0),fg,H',⟨Nat.le_refl _⟩,⟨by (with_reducible repeat (first|apply Kd.wY|apply Kd.wZ|apply Kd.uw));exact aqo.o⟩,⟨ks fA⟩,⟨bs HB⟩⟩
    case round =>
     clear H'
     try clear zZ
     try clear fA
     obtain ⟨mX,rfl,HA,dD,gU,fA,HB⟩:=hrel
     cases gk with
     | zero=>exact absurd HA.o (by simp [kv.l0])
     | succ k2 =>
      have H:=HA.o;clear HA;simp only [kv.l0] at H
      revert H;refine bK ?_ ?_
      ·intro xh H
       revert H;refine bv ?_
       intro zk H;replace H:=bo H;obtain ⟨t52,vS,H⟩:=H;obtain ⟨QU,SE,KF⟩:=Kd.J8 gU.o;subst KF;have p37:0≤(mX:Int):=oa;have q37:mX<(t41.length:Int):=oa;obtain ⟨aEg,aC7,aEy,e37,aLC,axF,alq,akT⟩:=kN (Kd.xZ gU.o).2.2 mX p37 q37
       cases e37
       obtain ⟨aE1,avU,avT,akz⟩:=Kd.arZ gU.o z62 mX p37 (by first|exact q37|exact oa|(have e_:=(Kd.xZ gU.o).1;omega));obtain ⟨aL6,aL7,rfl,agK,ad1⟩:=ax5 avT;have Z0:=akz 1 _ rfl
       rw [ol _ _ 1 (by omega)] at Z0
       replace Z0:=Option.some.inj (Z0.symm.trans axF)
       injection Z0 with hva_ hvn_ hvc_
       rw [hva_] at ad1
       rw [hvc_] at agK
       have ahS:=am (show Kd.V jO 97 _ w.heap.size _ _ ((av t41 mX).f1) from Kd.asK agK ad1);clear hva_ hvn_ hvc_ ad1 agK;clear akz avU;have Rm:=am akT;have apY:=am alq;clear akT alq;replace p37:=eq_true p37;replace q37:=eq_true q37
       try go_wp2_with (fail)
       go_at_call 33;refine (iZ.calls k2 ((av t41 mX).f0) _ _ ((av t41 mX).f1) t52 _ ?aR apY.o vS.o).mono ?_;(case aR=>repeat (first|exact (by repeat (first|(with_reducible exact Rm.o)|(with_reducible refine Kd.rO ?_ _)|(with_reducible refine Kd.rQ ?_ _)|(with_reducible refine Kd.rP ?_)|exact Rm.o))|(with_reducible refine Kd.rO ?_ _)|(with_reducible refine Kd.rQ ?_ _)|(with_reducible refine Kd.rP ?_)));rintro e CG ⟨rfl,hb⟩;replace gU:=am (Kd.xY (by (with_reducible repeat (first|apply Kd.wY|apply Kd.wZ|apply Kd.uw));exact gU.o) hb);replace ahS:=am (Kd.asH (by (with_reducible repeat (first|apply Kd.asG|apply Kd.asJ|apply Kd.asI));exact ahS.o) hb);replace fA:=am (aU (ks fA) hb);replace Rm:=am (Kd.bi (by repeat (first|(with_reducible exact Rm.o)|(with_reducible refine Kd.rO ?_ _)|(with_reducible refine Kd.rQ ?_ _)|(with_reducible refine Kd.rP ?_)|exact Rm.o)) hb);replace HB:=am (gP (bs HB) hb);(try clear hb)
       obtain rfl|rfl:=bt t52
       ·replace H:=dm H;have H':=am H;clear H
        go_wp2
        go_roundg k2
        case measure=>have:=iL.o;have:=dD.o;omega
        case rel=>exact ⟨(wrap64 (mX+1)),fg,H',⟨by have:=iL.o;have:=dD.o;omega⟩,⟨by (with_reducible repeat (first|apply Kd.wY|apply Kd.wZ|apply Kd.uw));exact gU.o⟩,⟨ks fA⟩,⟨bs HB⟩⟩
       ·replace H:=di H;obtain rfl:=si H
        go_wp2
        go_ret
        exact ⟨ff,bs HB⟩
      ·intro xh H;replace H:=bo H;obtain ⟨⟨t44,t46,t47,t48,t42,t43,t49,t50⟩,Jv,H⟩:=H;(try dsimp only at H);obtain ⟨Nb,Od,adR⟩:=Kd.J8 gU.o;subst adR;have Oo:=dO fA
       try go_wp2_with (fail)
       go_at_call 34;refine (bW.calls k2 ag _ _ t41 t44 t46 t47 t48 t42 t43 t49 t50 _ ?aR ?bg Jv.o).mono ?_;(case aR=>exact sd (Kd.xZ gU.o).2.2);(case bg=>exact (Kd.xZ gU.o).2.1);rintro e uj ⟨v55,v56,rfl,ho0,ho1,hb⟩;replace gU:=am (Kd.EE (Kd.NF (Kd.NF (Kd.acW (by (with_reducible repeat (first|apply Kd.wY|apply Kd.wZ|apply Kd.uw));exact gU.o) hb) (Kd.qZ ho0)) (Kd.qZ ho1)) (fun _ h_=>h_.1));have CY:=am (Kd.ic ho0 (bJ (bs HB)));have CZ:=am (Kd.ic ho1 (bJ (bs HB)));replace fA:=am (aU (ks fA) hb);replace HB:=am (gP (bs HB) hb);(try clear hb);(try clear ho0);(try clear ho1)
       revert H;refine bH ?_ ?_
       ·intro zm EQ H;replace H:=bo H;obtain ⟨t54,Ej,H⟩:=H;obtain rfl:=si H
        go_wp2_with (first|((with_reducible refine aJ (N:=5) rfl ?_);(try (refine jc (by rfl) ?_;dsimp only));refine bx 5 (cs:=#[.int .i64 0,.string (⟨#[]⟩:ByteArray),.string (⟨#[]⟩:ByteArray),.int .i64 0,.slice none 0 0,.slice none 0 0,.int .i64 0,.int .i64 0]) (t:=64) ?_;intro zn hg tH hbox hb;replace gU:=am (Kd.xY (Kd.ain (by (with_reducible repeat (first|apply Kd.wY|apply Kd.wZ|apply Kd.uw));exact gU.o) zn (Nat.le_of_eq hg.symm)) hb);replace CY:=am (Kd.cu (rs CY) hb);replace CZ:=am (Kd.cu (rs CZ) hb);have Er:=am (hbox);have apI:=am ((gs hg (bs HB)));have apG:=am ((gs hg (bs HB)));replace HB:=am (gP (bs HB) hb);have acJ:=am ((gn hg (ks fA)));have acO:=am ((gm hg (ks fA)));replace fA:=am (aU (ks fA) hb);clear hb hbox hg;have awP:=acO.o;have axb:=acJ.o;have ad5:=KC Er;obtain ⟨ahs,adG,ave⟩:=Kd.gW CY.o;subst ave;obtain ⟨aht,adH,avf⟩:=Kd.gW CZ.o;subst avf;have aFT:tH.cell? ⟨rZ,0,none⟩=some (.int .i64 ag):=(aA fA.o 0).trans rfl;have aFU:tH.cell? ⟨rZ,1,none⟩=some (.string aj):=(aA fA.o 1).trans rfl;have aFV:tH.cell? ⟨rZ,2,none⟩=some (.string ak):=(aA fA.o 2).trans rfl;have aFW:tH.cell? ⟨rZ,3,none⟩=some (.int .i64 aM):=(aA fA.o 3).trans rfl;have aFX:tH.cell? ⟨rZ,4,none⟩=some (.slice dB az.length dx):=(aA fA.o 4).trans rfl;have aFY:tH.cell? ⟨rZ,5,none⟩=some (.slice dJ ah.length df):=(aA fA.o 5).trans rfl;have aHC:=bu fA.o 0;have aHD:=bu fA.o 1;have aHE:=bu fA.o 2;have aHF:=bu fA.o 3;have aHG:=bu fA.o 4;have aHH:=bu fA.o 5)|(go_at_call 35;refine (kI.calls k2 t44 t46 t47 t48 _ _ t42 _ _ t43 ag aj ak aM _ _ az _ _ ah t54 _ ?aR ?bg ?jI ?ma ?FY rR.o ?FZ qW.o Ej.o).mono ?_;(case aR=>refine (Kd.dH (e:=9) (base:=w.heap.size) (ok:=fun k_=>True) (n:=t42.length) (c:=adG) ?_).2.2;exact (by (with_reducible repeat (first|apply Kd.kM|apply Kd.jK|apply Kd.eO));exact (Kd.dE (rf (Kd.mi CY.o Er.o (by decide))) (fun _ h_=>h_.1))));(case bg=>exact (Kd.dH CY.o).2.1);(case jI=>refine (Kd.dH (e:=95) (base:=w.heap.size) (ok:=fun k_=>True) (n:=t43.length) (c:=adH) ?_).2.2;exact (by (with_reducible repeat (first|apply Kd.kM|apply Kd.jK|apply Kd.eO));exact (Kd.dE (rf (Kd.mi CZ.o Er.o (by decide))) (fun _ h_=>h_.1))));(case ma=>exact (Kd.dH CZ.o).2.1);(case FY=>exact Kd.bi oI.o (bs HB));(case FZ=>exact Kd.bi ni.o (bs HB));rintro e w29 ⟨rfl,hb⟩;replace gU:=am (Kd.xY (by (with_reducible repeat (first|apply Kd.wY|apply Kd.wZ|apply Kd.uw));exact (Kd.EE (Kd.GJ (p:=⟨zn,7,none⟩) (Kd.GJ (p:=⟨zn,6,none⟩) (Kd.GJ (p:=⟨zn,5,none⟩) (Kd.GJ (p:=⟨zn,4,none⟩) (Kd.GJ (p:=⟨zn,3,none⟩) (Kd.GJ (p:=⟨zn,2,none⟩) (Kd.GJ (p:=⟨zn,1,none⟩) (Kd.GJ (p:=⟨zn,0,none⟩) (Kd.EE gU.o (fun k_ hk=>(⟨hk,hk.2⟩:_∧k_≠zn))) (fun _ hk=>hk.2) (.int .i64 t44)) (fun _ hk=>hk.2) (.string t46)) (fun _ hk=>hk.2) (.string t47)) (fun _ hk=>hk.2) (.int .i64 t48)) (fun _ hk=>hk.2) (.slice ahs t42.length adG)) (fun _ hk=>hk.2) (.slice aht t43.length adH)) (fun _ hk=>hk.2) (.int .i64 t49)) (fun _ hk=>hk.2) (.int .i64 t50)) (fun _ h_=>h_.1))) hb);replace CY:=am (Kd.cu (by (with_reducible repeat (first|apply Kd.kM|apply Kd.jK|apply Kd.eO));exact (Kd.dE (rf (Kd.mi CY.o Er.o (by decide))) (fun _ h_=>h_.1))) hb);replace CZ:=am (Kd.cu (by (with_reducible repeat (first|apply Kd.kM|apply Kd.jK|apply Kd.eO));exact (Kd.dE (rf (Kd.mi CZ.o Er.o (by decide))) (fun _ h_=>h_.1))) hb);replace fA:=am (aU (ks fA) hb);replace Er:=am (aU (g:=zn) (o:=.cells #[.int .i64 t44,.string t46,.string t47,.int .i64 t48,.slice ahs t42.length adG,.slice aht t43.length adH,.int .i64 t49,.int .i64 t50] 64 (0,0)) (kp Er) hb);replace HB:=am (gP (bs HB) hb);(try clear hb)))
        go_ret
        exact ⟨ff,bs HB⟩
       ·intro c21 zm EQ H;obtain rfl:=si H
        go_wp2_with (first|((with_reducible refine aJ (N:=5) rfl ?_);(try (refine jc (by rfl) ?_;dsimp only));refine bx 5 (cs:=#[.int .i64 0,.string (⟨#[]⟩:ByteArray),.string (⟨#[]⟩:ByteArray),.int .i64 0,.slice none 0 0,.slice none 0 0,.int .i64 0,.int .i64 0]) (t:=64) ?_;intro zn hg uk hbox hb;replace gU:=am (Kd.xY (Kd.ain (by (with_reducible repeat (first|apply Kd.wY|apply Kd.wZ|apply Kd.uw));exact gU.o) zn (Nat.le_of_eq hg.symm)) hb);replace CY:=am (Kd.cu (rs CY) hb);replace CZ:=am (Kd.cu (rs CZ) hb);have Er:=am (hbox);have apI:=am ((gs hg (bs HB)));have apG:=am ((gs hg (bs HB)));replace HB:=am (gP (bs HB) hb);have acJ:=am ((gn hg (ks fA)));have acO:=am ((gm hg (ks fA)));replace fA:=am (aU (ks fA) hb);clear hb hbox hg;have UG:=acO.o;have UK:=acJ.o;have Tz:=KC Er;obtain ⟨XK,Zo,Oh⟩:=Kd.gW CY.o;subst Oh;obtain ⟨api,aut,adS⟩:=Kd.gW CZ.o;subst adS))
        go_ret
        exact ⟨ff,bs HB⟩
def Mf.T:Bool × List (List Nat × List Nat):=(true,[([],[]),([0],[0]),([1],[1]),([2],[2]),([3,2],[2,3]),([2],[2]),([5,2],[2,5]),([4,6,2],[2,4,6]),([7,2],[2,7]),([8,2],[2,8]),([2],[2]),([10,2],[2,10]),([2],[2]),([11,12,2],[2,11,12]),([13,2],[2,13]),([14,2],[2,14]),([9,15,2],[2,9,15]),([2,16],[2,16])])
def Mf.B:List Nat:=[0,1,3,7,15,7,39,127,255,511,7,1031,7,7175,15367,31751,65535,131071]
def aaR.T:Bool × List (List Nat × List Nat):=(true,[([],[]),([0],[0]),([],[]),([2],[2]),([],[]),([3,4],[3,4]),([5],[5]),([6],[6]),([],[]),([8],[8]),([7,9],[7,9]),([10],[10]),([1,11],[1,11]),([0,1,2,3,4,5,6,7,8,9,10,11,12],[]),([13,12,12,0,1,2,3,4,5,6,7,8,9,10,11,12],[12,13])])
def aaR.B:List Nat:=[0,1,0,4,0,28,60,124,0,256,1020,2044,4095,0,16383]
def aaS.T:Bool × List (List Nat × List Nat):=(true,[([],[]),([0],[0]),([],[]),([2],[2]),([],[]),([4],[4]),([],[]),([6],[6]),([5,7],[5,7]),([8],[8]),([9],[9]),([],[]),([11],[11]),([],[]),([13],[13]),([],[]),([14,15],[14,15]),([16],[16]),([17],[17]),([12,18],[12,18]),([19],[19]),([10,20,18],[10,20]),([1,3,0,1,2,3,4,5,6,7,8,9,10,11,12,13,14,15,16,17,18,19,20,21],[1,3]),([22,0,1,2,3,4,5,6,7,8,9,10,11,12,13,14,15,16,17,18,19,20,21],[22]),([23,21,21,0,1,2,3,4,5,6,7,8,9,10,11,12,13,14,15,16,17,18,19,20,21],[21,23])])
def aaS.B:List Nat:=[0,1,0,4,0,16,0,64,240,496,1008,0,2048,0,8192,0,57344,122880,253952,522240,1046528,2097136,15,4194319,16777215]
theorem jq.Dr (k:Nat)(ag aj:ByteArray)(ak:Int)(dZ:Option Addr)(dW:Nat)(au:List eT)(r1 r2:ByteArray)(r3:Int)(r4:List dR)(w:World)(jl:Kd.C jG w dZ au.length au)(jk:au.length≤dW)(H:jq.f k ag aj ak au=some (r1,r2,r3,r4)) :
  Calls Tryz.prog 19 #[.agg #[.string ag,.string aj,.int .i64 ak,.slice dZ au.length dW]] w fun e w'=>∃ tq:Value,e=.returned (.agg #[.string r1,.string r2,.int .i64 r3,tq])∧Kd.S oP 71 w' w.heap.size (fun k_=>(w.heap.size≤k_)) tq r4∧Below w.heap.size w w':=by
 have hu0:=Tryz.underlying29;have hu1:=Tryz.underlying35;have hu2:=Tryz.underlying45;have hu3:=Tryz.underlying71;have hu4:=Tryz.underlying73;have hu5:=Tryz.underlying33;have hu6:=Tryz.underlying69;have hu7:=Tryz.underlying27;have hbo:=@fQ.calls;clear hbo;have HR:=af.mk jl;have HC:=af.mk jk;clear jl jk;have HB:=af.mk (Below.refl w.heap.size w);unfold jq.f at H;replace H:=bo H;obtain ⟨rl,A1,H⟩:=H;obtain ⟨rfl,rfl,rfl,rfl⟩:=F3 H;clear H
 go_enter Tryz.func19,Tryz.ntmps19
 go_wp2_with (first|((with_reducible refine aJ (N:=1) rfl ?_);refine bx 1 (cs:=#[.string ag,.string aj,.int .i64 ak,.slice dZ au.length dW]) (t:=29) ?_;intro g1 hg wa hbox hb;have B1:=af.mk hbox;replace HB:=af.mk (gP (bs HB) hb);clear hb hbox hg)|((with_reducible refine aJ (N:=2) rfl ?_);refine bx 2 (cs:=#[.string (⟨#[]⟩:ByteArray),.string (⟨#[]⟩:ByteArray),.int .i64 0,.slice none 0 0]) (t:=35) ?_;intro g2 hg wb hbox hb;have B2:=af.mk hbox;have E2:=af.mk (gs hg (bs HB));replace HB:=af.mk (gP (bs HB) hb);replace B1:=af.mk (aU (ks B1) hb);clear hb hbox hg;have z1:=aX B1)|((with_reducible refine aJ (N:=3) rfl ?_);refine bx 3 (cs:=#[.string (⟨#[]⟩:ByteArray),.string (⟨#[]⟩:ByteArray),.int .i64 0,.slice none 0 0]) (t:=35) ?_;intro g3 hg wc hbox hb;have B3:=af.mk hbox;have E3:=af.mk (gs hg (bs HB));have Rv:=af.mk (gn hg (ks B1));have JK:=af.mk (gn hg (ks B2));replace HB:=af.mk (gP (bs HB) hb);replace B1:=af.mk (aU (ks B1) hb);replace B2:=af.mk (aU (ks B2) hb);clear hb hbox hg z1;have z1:=aX B1;have z3:=aX B3)|((with_reducible refine oJ (t:=35) (p:=3) rfl ?_);refine pg (t:=35) (p:=3) (v:=?vo3) (w1:=((((wc.setCell ⟨g3,0,none⟩ (.string ag)).setCell ⟨g3,1,none⟩ (.string aj)).setCell ⟨g3,2,none⟩ (.int .i64 ak)).setCell ⟨g3,3,none⟩ (.slice none 0 0))) ?hg ?ho ?hn ?hr ?_;(case ho=>rfl);(case hg=>rfl);(case hn=>rfl);(case hr=>first|(go_simp;done)|(go_simp;rfl));intro wd hw;clear z1 z3;obtain ⟨hx,hk,hB⟩:=NU B3.o hw;clear hw;replace HB:=af.mk (hB _ HB.o E3.o);replace B1:=af.mk (nC B1.o hk (fun e_=>Rv.o e_));replace B2:=af.mk (nC B2.o hk (fun e_=>JK.o e_));replace B3:=af.mk hx;clear hx hk hB;have z1:=aX B1;have z3:=aX B3))
 obtain ⟨s0,es⟩:∃ s,s=wd.heap.size:=⟨_,rfl⟩;have D1:=af.mk (show g1<s0 from by rw [es];exact pR B1.o);have D2:=af.mk (show g2<s0 from by rw [es];exact pR B2.o);have D3:=af.mk (show g3<s0 from by rw [es];exact pR B3.o);have S0:=af.mk (show w.heap.size≤s0 from by rw [es];exact HB.o.size);have T0:=af.mk (show s0≤wd.heap.size from by rw [es];exact Nat.le_refl _);clear es
 go_loopg [4] k (fun kq v4 w'=>∃ (i:Int) (l:List dR) (Al:Option Addr) (cl:Nat),v4=.int .i64 i∧af (jq.l0 kq au i l=some rl)∧af (kq≤k)∧af (Kd.S oP 71 w' w.heap.size (fun k_=>s0≤k_) (.slice Al l.length cl) l)∧af (w'.heap[g1]? = some (.cells #[.string ag,.string aj,.int .i64 ak,.slice dZ au.length dW] 29 (0,0)))∧af (w'.heap[g2]? = some (.cells #[.string (⟨#[]⟩:ByteArray),.string (⟨#[]⟩:ByteArray),.int .i64 0,.slice none 0 0] 35 (0,0)))∧af (w'.heap[g3]? = some (.cells #[.string ag,.string aj,.int .i64 ak,.slice Al l.length cl] 35 (0,0)))∧af (s0≤w'.heap.size)∧af (Below w.heap.size w w'))
 case atStart=>exact ⟨0,[],none,0,rfl,A1,⟨Nat.le_refl _⟩,⟨Kd.rX _ _ _ _ _⟩,B1,B2,B3,T0,HB⟩
 case round =>
  clear A1 B1 B2 B3 T0 HB;(try clear z1);(try clear z3);obtain ⟨i,l,Al,cl,rfl,HA,aQ,Y,B1,B2,B3,T0,HB⟩:=hrel
  cases gk with
  | zero=>exact absurd HA.o (by simp [jq.l0])
  | succ k1 =>
   have H:=HA.o;clear HA;simp only [jq.l0] at H;have z1:=aX B1;have z3:=aX B3;obtain ⟨wf,hwf⟩:∃ W,W=wr:=⟨_,rfl⟩;subst hwf
   revert H;refine bK ?_ ?_
   ·intro c9 H;revert H;refine bv ?_;intro c10 H;revert H;refine ku ?_;intro c11 H;have LX:=af.mk c11;clear c11;replace H:=bo H;obtain ⟨lc,A7,H⟩:=H;have H':=af.mk H;clear H;obtain ⟨p1,q1,ad,QR,Sr,QS,Sv,ea,j0,j1,j2,j3,j4,j5,hl4,hi4,hl5,hi5⟩:=wi (EL HR.o i);cases ea;have W0:=af.mk j0;have W1:=af.mk j1;have W2:=af.mk j2;have W3:=af.mk j3;have W4:=af.mk j4;have W5:=af.mk j5;have HE4:=af.mk hi4;have HL4:=af.mk hl4;have HE5:=af.mk hi5;have HL5:=af.mk hl5;clear hi4 hl4 hi5 hl5 j0 j1 j2 j3 j4 j5;have Em:=A7.o;clear A7;go_upto_region 6 with (fail);clear z1 z3
    revert Em;refine bH (fun Y4 Y5 A7=>?_) (fun c0 Y4 Y5 A7=>?_)
    focus
     have A8:=af.mk (show (if true=true then jq.l2 k1 (aG au i) i l else jq.l1 k1 (aG au i) i l)=some lc from A7);clear A7;replace B1:=af.mk (bD B1.o);replace B2:=af.mk (bD B2.o);replace B3:=af.mk (bD B3.o);replace T0:=af.mk (show s0≤wf.drew.heap.size from T0.o);replace HB:=af.mk (cZ HB.o);replace Y:=af.mk (Kd.fU Y.o);refine CE 18 [] (rC B3 (hb4 B1)) (fun hHeld=>?_);refine fu (show fD .any (opsOf Tryz.f19 6)=Mf.T from by kernel_rfl) (show jg Mf.T.2 Mf.B=true from by kernel_rfl) (fun HT_ HW_=>?_)
     generalize wf.drew=wg at B1 B2 B3 Y T0 HB hHeld ⊢
     refine jo 0 ?_;refine mF 3 ?_;refine jV 11 ?_;refine jo 15 ?_;refine ek (fo HT_.o (by kernel_rfl)) ?_;clear HT_ HW_ hHeld
    rotate_left
    focus
     have hw1:wrap64 ((l.length:Int) - 1)=(l.length:Int) - 1:=(by have:=LX.o;unfold wrap64;omega);have n0:0≤wrap64 ((l.length:Int) - 1):=(by rw [hw1];omega);have n1:wrap64 ((l.length:Int) - 1)<(l.length:Int):=(by rw [hw1];omega);rw [← hw1] at A7;clear hw1 c0
     obtain ⟨gB,cap,eo,_,_,_,_⟩:=Kd.NN Y.o (by omega);injection eo with ea_ en_ ec_;subst ea_;subst ec_;clear en_;obtain ⟨oki,c,_,hM,hcc,_,_,_⟩:=Kd.Ka Y.o z71 (wrap64 ((l.length:Int) - 1)) n0 n1;obtain ⟨vM,ec,_⟩:=(show Kd.M oP _ _ oki (bf l (wrap64 ((l.length:Int) - 1))) c from hM);subst ec;have HX:=af.mk (show wf.cell? ⟨gB,(wrap64 ((l.length:Int) - 1)).toNat * 3,none⟩=some (.int .i64 (bf l (wrap64 ((l.length:Int) - 1))).f0) from hcc 0 _ rfl);clear hM hcc;have p2:=eq_true n0;have q2:=eq_true n1;clear n0 n1;replace B1:=af.mk (bD B1.o);replace B2:=af.mk (bD B2.o);replace B3:=af.mk (bD B3.o);replace T0:=af.mk (show s0≤wf.drew.heap.size from T0.o);replace HB:=af.mk (cZ HB.o);replace Y:=af.mk (Kd.fU Y.o);replace HX:=af.mk (show wf.drew.cell? _=_ from HX.o);refine CE 18 [] (rC B3 (rC B1 (aC HX.o (hc (cb HB W0.o))))) (fun hHeld=>?_);refine fu (show fD .any (opsOf Tryz.f19 6)=Mf.T from by kernel_rfl) (show jg Mf.T.2 Mf.B=true from by kernel_rfl) (fun HT_ HW_=>?_)
     generalize wf.drew=wg at B1 B2 B3 Y HX T0 HB hHeld ⊢
     revert A7;refine bH (fun Za Zb A7=>?_) (fun c1 Za Zb A7=>?_)
     have A8:=af.mk (show (if false=true then jq.l2 k1 (aG au i) i l else jq.l1 k1 (aG au i) i l)=some lc from A7);clear A7;rotate_left;have A8:=af.mk (show (if true=true then jq.l2 k1 (aG au i) i l else jq.l1 k1 (aG au i) i l)=some lc from A7);clear A7 c1
     all_goals
      refine jV 0 ?_;refine ta 4 ?_;refine jV 5 ?_;refine ta 9 ?_;refine bQ 10 ?_;refine ta 11 ?_;refine jo 12 ?_;refine ta 15 ?_;refine jU 16 ?_;refine ek (fo HT_.o (by kernel_rfl)) ?_;clear HT_ HW_ hHeld
    all_goals
     go_upto_if 40 with (fail)
     go_cut [5] (fun v5 wx=>∃ (l2:List dR) (A2:Option Addr) (c2:Nat),v5=.int .i64 (l2.length:Int)∧af (jq.l1 k1 (aG au i) i l2=some lc)∧af (l2.length≤3518437208883)∧af (Kd.S oP 71 wx w.heap.size (fun k_=>s0≤k_) (.slice A2 l2.length c2) l2)∧af (wx.heap[g1]? = some (.cells #[.string ag,.string aj,.int .i64 ak,.slice (some ad) au.length dW] 29 (0,0)))∧af (wx.heap[g2]? = some (.cells #[.string (⟨#[]⟩:ByteArray),.string (⟨#[]⟩:ByteArray),.int .i64 0,.slice none 0 0] 35 (0,0)))∧af (wx.heap[g3]? = some (.cells #[.string ag,.string aj,.int .i64 ak,.slice A2 l2.length c2] 35 (0,0)))∧af (s0≤wx.heap.size)∧af (Below w.heap.size w wx))
     case first =>
      first
      | (have A7:af (jq.l1 k1 (aG au i) i l=some lc):=af.mk (di A8.o);clear A8;go_wp2;go_meet;case rel=>exact ⟨l,_,cl,rfl,A7,⟨by have:=LX.o;omega⟩,Y,B1,B2,B3,T0,HB⟩)
      | (have A7:=af.mk (dm A8.o);clear A8;(try clear HX);obtain ⟨xx,hxx⟩:∃ y,y=l++[(⟨(aG au i).f0,wrap64 ((l.length:Int)+1),[]⟩:dR)]:=⟨_,rfl⟩;have A8:=af.mk (show jq.l1 k1 (aG au i) i xx=some lc from by rw [hxx];exact A7.o);have NX:=af.mk hxx;clear hxx A7;have X5:=af.mk (show wrap64 ((l.length:Int)+1)=(xx.length:Int) from by have:=LX.o;have e:=congrArg List.length NX.o;simp only [List.length_append,List.length_cons,List.length_nil] at e;unfold wrap64;omega);have XL:=af.mk (show xx.length≤3518437208883 from by have:=LX.o;have e:=congrArg List.length NX.o;simp only [List.length_append,List.length_cons,List.length_nil] at e;omega);(try go_wp2);replace B1:=af.mk (bD B1.o);replace B2:=af.mk (bD B2.o);replace B3:=af.mk (bD B3.o);replace T0:=af.mk (show s0≤wg.drew.heap.size from T0.o);replace HB:=af.mk (cZ HB.o);replace Y:=af.mk (Kd.fU Y.o);refine CE 15 [14] (rC B3 (rC B1 (hc (cb HB W0.o)))) (fun hHeld=>?_);refine fu (show fD .any (opsOf Tryz.f19 7)=aaR.T from by kernel_rfl) (show jg aaR.T.2 aaR.B=true from by kernel_rfl) (fun HT_ HW_=>?_);generalize wg.drew=wh at B1 B2 B3 Y T0 HB hHeld ⊢;refine bQ 0 ?_;refine ta 1 ?_;refine bQ 2 ?_;refine ta 3 ?_;refine jo 4 ?_;refine ta 7 ?_;refine jo 8 ?_;refine oA 11 52 HT_ (fun K hK=>?_);refine F8 (w1:=?_) (v:=?_) (by rfl) rfl ?_ ?_;rotate_left 2;(go_simp;constructor;rfl;rfl);refine hK.out _ _ ⟨(aA (eY B3.o _) 0).trans rfl,(aA (eY B3.o _) 1).trans rfl,(aA (eY B3.o _) 2).trans rfl,(aA (eY B3.o _) 3).trans rfl,(aA (eY B1.o _) 0).trans rfl,(aA (eY B1.o _) 1).trans rfl,(aA (eY B1.o _) 2).trans rfl,(aA (eY B1.o _) 3).trans rfl,(World.cell?_alloc_lt _ _ _ (World.block_lt_of_cell? _ _ (cb HB W0.o))).trans (cb HB W0.o)⟩ (fun hHeld=>?_);clear hK K;refine nA 52 ?_;refine oA 12 53 HT_ (fun K hK=>?_);refine Kd.NL oP (w0:=w) w.heap.size (by rfl) (.tmp 42) (.tmp 52) 33 71 ((.agg #[(.int .i64 0),(.int .i64 0),(.slice none 0 0)])) 40 rfl Tryz.underlying33 am0 rfl (by decide) (by omega) (.slice _ l.length cl) l (⟨(aG au i).f0,wrap64 ((l.length:Int)+1),[]⟩:dR) [.int .i64 ((aG au i).f0),.int .i64 (wrap64 ((l.length:Int)+1)),.slice none 0 0] (fun k_=>s0≤k_) (fun _=>False) rfl rfl ⟨_,rfl,Kd.rX _ _ _ _ _⟩ (fun _ h=>h.elim) (fun k_ q_=>Nat.le_trans T0.o q_) (Kd.eF Y.o (fun _ q_=>⟨q_,id⟩)) HB.o HB.o.size (by have:=LX.o;omega) ?_;intro vx wi ho hb hg hat;rw [← NX.o] at ho;obtain ⟨Gs,Hd,e_⟩:=Kd.ji ho;subst e_;replace B1:=af.mk (fV (ks B1) hg (fun e_=>by obtain ⟨_,h1,_⟩:=Y.o;have:=h1 _ e_.symm;have:=D1.o;omega));replace B2:=af.mk (fV (ks B2) hg (fun e_=>by obtain ⟨_,h1,_⟩:=Y.o;have:=h1 _ e_.symm;have:=D2.o;omega));replace B3:=af.mk (fV (ks B3) hg (fun e_=>by obtain ⟨_,h1,_⟩:=Y.o;have:=h1 _ e_.symm;have:=D3.o;omega));replace T0:=af.mk (Nat.le_trans T0.o hg.size);replace HB:=af.mk hb;replace Y:=af.mk ho;clear ho hb hg hat;refine hK.out _ _ (rC B3 (rC B1 (hc (cb HB W0.o)))).o (fun hHeld=>?_);clear hK K;refine nA 53 ?_;refine bQ 13 ?_;refine IB (i:=14) (N:=none) #[true,true,true,true,true,true,true,true,true,true,true,true,true,true,true] rfl rfl (xH HT_.o (by kernel_rfl)) (by decide) (fun K hK=>?_);have hs:=(aA B3.o 3).trans rfl;have hf:=bu B3.o 3;refine xJ (w1:=wi.setCell ⟨g3,3,none⟩ (.slice Gs xx.length Hd)) (by rfl) rfl (by first|(go_simp;done)|(go_simp;rfl)) ?_;refine hK.out _ _ ?_;clear hK K hs hf hHeld;refine ek (fo HT_.o (by kernel_rfl)) ?_;clear HT_ HW_;obtain ⟨wl,hw⟩:∃ W,W=wi.setCell ⟨g3,3,none⟩ (.slice Gs xx.length Hd):=⟨_,rfl⟩;rw [← hw];have hk:Kept wi wl (fun k_=>k_=g3):=(by rw [hw];exact Kept.setCell (p:=⟨g3,3,none⟩) (S:=fun k_=>k_=g3) (Kept.refl _ _) (Or.inl rfl) _);replace HB:=af.mk (show Below w.heap.size w wl from by rw [hw];exact eX HB.o E3.o);replace B1:=af.mk (nC B1.o hk (fun e_=>Rv.o e_));replace B2:=af.mk (nC B2.o hk (fun e_=>JK.o e_));have B3':af (wl.heap[g3]? = some (.cells #[.string ag,.string aj,.int .i64 ak,.slice Gs xx.length Hd] 35 (0,0))):=⟨by rw [hw];exact kp B3⟩;replace T0:=af.mk (Nat.le_trans T0.o hk.1);replace Y:=af.mk (Kd.GN Y.o hk (fun k_ q_ e_=>by have:=D3.o;omega));clear hk hw;try go_wp2;go_meet;case rel=>exact ⟨xx,Gs,Hd,congrArg (Value.int IntKind.i64) X5.o,A8,XL,Y,B1,B2,B3',T0,HB⟩)
     case rest =>
      clear A8 Y B1 B2 B3 T0 HB;(try clear HX);(try clear p2);(try clear q2);obtain ⟨l2,A2,c2,rfl,A7,L2,Y,B1,B2,B3,T0,HB⟩:=hcut;have Em:=A7.o;clear A7;unfold jq.l1 at Em;revert Em;refine ku ?_;rintro ⟨cp,cq⟩ A7;replace A7:=bo A7;obtain ⟨b,Ab,A7⟩:=A7;replace A7:=si A7
      have hw1:wrap64 ((l2.length:Int) - 1)=(l2.length:Int) - 1:=(by have:=L2.o;unfold wrap64;omega);have n0:0≤wrap64 ((l2.length:Int) - 1):=(by rw [hw1];omega);have n1:wrap64 ((l2.length:Int) - 1)<(l2.length:Int):=(by rw [hw1];omega);have eJ:=af.mk (show (wrap64 ((l2.length:Int) - 1)).toNat=l2.length - 1 from by rw [hw1];omega);rw [← hw1] at cq A7;clear hw1
      obtain ⟨gB,cap,eo,hbB,hlB,_,_⟩:=Kd.NN Y.o cp;injection eo with ea_ en_ ec_;subst ea_;subst ec_;clear en_;have EB:=af.mk hbB;have OKB:=af.mk ((Kd.rW Y.o).1 gB rfl)
      obtain ⟨oki,c,_,hM,hcc,_,hoki,hH⟩:=Kd.Ka Y.o z71 (wrap64 ((l2.length:Int) - 1)) n0 n1;replace hM:=(show Kd.M oP _ _ oki (bf l2 (wrap64 ((l2.length:Int) - 1))) c from hM);obtain ⟨x1,hx1⟩:∃ x,x=bf l2 (wrap64 ((l2.length:Int) - 1)):=⟨_,rfl⟩;rw [← hx1] at hM cq A7;clear hx1;have LC:=af.mk A7;have CQ:=af.mk cq;have HOK:=af.mk hoki;clear A7 cq cp hoki
      obtain ⟨vM,ec,hR⟩:=id hM;subst ec;obtain ⟨AM,cM,eM⟩:=Kd.ji hR;subst eM;have HX:=af.mk (show wc.cell? ⟨gB,(wrap64 ((l2.length:Int) - 1)).toNat * 3+2,none⟩=some (.slice AM x1.f2.length cM) from hcc 2 _ rfl);have HH:=af.mk hH;have HRM:=af.mk hR;clear hM hcc hH hR Y;have p3:=eq_true n0;have q3:=eq_true n1;have N0:=af.mk n0;have N1:=af.mk n1;clear n0 n1
      try go_wp2
      replace B1:=af.mk (bD B1.o);replace B2:=af.mk (bD B2.o);replace B3:=af.mk (bD B3.o);replace HX:=af.mk (show wc.drew.cell? ⟨gB,(wrap64 ((l2.length:Int) - 1)).toNat * 3+2,none⟩=_ from HX.o);replace HH:=af.mk (Kd.aig HH.o);replace HRM:=af.mk (Kd.fU HRM.o);replace T0:=af.mk (show s0≤wc.drew.heap.size from T0.o);have GBA:=af.mk (show gB<wc.drew.heap.size from hlB);replace HB:=af.mk (cZ HB.o);clear hlB hbB;refine CE 25 [24] (rC B3 (rC B1 (aC HX.o (aC (cb HB W0.o) (aC (cb HB W1.o) (aC (cb HB W2.o) (aC (cb HB W3.o) (aC (cb HB W4.o) (hc (cb HB W5.o)))))))))) (fun hHeld=>?_);refine fu (show fD .any (opsOf Tryz.f19 9)=aaS.T from by kernel_rfl) (show jg aaS.T.2 aaS.B=true from by kernel_rfl) (fun HT_ HW_=>?_)
      generalize wc.drew=wA at B1 B2 B3 HX HH HRM T0 GBA HB hHeld ⊢
      have TA:=af.mk T0.o;refine bQ 0 ?_;refine ta 1 ?_;refine jo 2 ?_;refine ta 5 ?_;refine jV 6 ?_;refine ta 10 ?_;refine jo 11 ?_;refine ta 14 ?_;refine jU 15 ?_;refine ta 17 ?_;refine oA 18 75 HT_ (fun K hK=>?_);refine gA Tryz.func32 #[.agg #[.int .i64 (aG au i).f0,.string (aG au i).f1,.string (aG au i).f2,.int .i64 (aG au i).f3,.slice QR (aG au i).f4.length Sr,.slice QS (aG au i).f5.length Sv]] ?_;(with_reducible refine (fQ.Dr k1 ((aG au i).f0) ((aG au i).f1) ((aG au i).f2) ((aG au i).f3) _ _ ((aG au i).f4) _ _ ((aG au i).f5) b _ ?aR HL4.o ?jI HL5.o Ab.o).mono ?_);(case aR=>exact Kd.bi HE4.o HB.o);(case jI=>exact Kd.bi HE5.o HB.o);rintro e wB ⟨v9,rfl,zu,hb⟩;refine ⟨_,rfl,?_⟩;obtain ⟨A9,c9,e_⟩:=Kd.ji zu;subst e_;have Z9:=af.mk (Kd.mM zu HB.o.size);clear zu;have WAB:=af.mk hb.size;replace HH:=af.mk (Kd.Yf (Kd.acG HH.o) hb);replace HRM:=af.mk (Kd.l6 (Kd.eF (ok':=fun k_=>oki k_∧k_<wA.heap.size) (Kd.pQ HRM.o) (fun _ q=>⟨q.1,q.2.2.1⟩)) hb);replace HX:=af.mk (show wB.cell? ⟨gB,(wrap64 ((l2.length:Int) - 1)).toNat * 3+2,none⟩=some (.slice AM x1.f2.length cM) from (Kd.Gy HH.o N0.o N1.o).1 2 _ rfl);replace B1:=af.mk (aU (ks B1) hb);replace B2:=af.mk (aU (ks B2) hb);replace B3:=af.mk (aU (ks B3) hb);replace T0:=af.mk (Nat.le_trans T0.o hb.size);replace HB:=af.mk (gP (bs HB) hb);clear hb;refine hK.out _ _ (rC B3 (rC B1 (aC HX.o (aC (cb HB W0.o) (aC (cb HB W1.o) (aC (cb HB W2.o) (aC (cb HB W3.o) (aC (cb HB W4.o) (hc (cb HB W5.o)))))))))).o (fun hHeld=>?_);clear hK K;refine nA 75 ?_;refine bQ 19 ?_;refine oA 20 77 HT_ (fun K hK=>?_);refine F8 (w1:=?_) (v:=?_) (by rfl) rfl ?_ ?_
      rotate_left 2
      ·go_simp
       constructor
       ·rfl
       ·rfl
      refine hK.out _ _ ⟨(aA (eY B3.o _) 0).trans rfl,(aA (eY B3.o _) 1).trans rfl,(aA (eY B3.o _) 2).trans rfl,(aA (eY B3.o _) 3).trans rfl,(aA (eY B1.o _) 0).trans rfl,(aA (eY B1.o _) 1).trans rfl,(aA (eY B1.o _) 2).trans rfl,(aA (eY B1.o _) 3).trans rfl,(World.cell?_alloc_lt _ _ _ (World.block_lt_of_cell? _ _ HX.o)).trans HX.o,(World.cell?_alloc_lt _ _ _ (World.block_lt_of_cell? _ _ (cb HB W0.o))).trans (cb HB W0.o),(World.cell?_alloc_lt _ _ _ (World.block_lt_of_cell? _ _ (cb HB W1.o))).trans (cb HB W1.o),(World.cell?_alloc_lt _ _ _ (World.block_lt_of_cell? _ _ (cb HB W2.o))).trans (cb HB W2.o),(World.cell?_alloc_lt _ _ _ (World.block_lt_of_cell? _ _ (cb HB W3.o))).trans (cb HB W3.o),(World.cell?_alloc_lt _ _ _ (World.block_lt_of_cell? _ _ (cb HB W4.o))).trans (cb HB W4.o),(World.cell?_alloc_lt _ _ _ (World.block_lt_of_cell? _ _ (cb HB W5.o))).trans (cb HB W5.o)⟩ (fun hHeld=>?_);clear hK K;refine nA 77 ?_;obtain ⟨mm,hmm⟩:∃ y,y=x1.f2++[(⟨wrap64 (i+1),b⟩:iG)]:=⟨_,rfl⟩;have NM:=af.mk hmm;clear hmm
      refine oA 21 78 HT_ (fun K hK=>?_);refine Kd.NL zD (w0:=w) w.heap.size (by rfl) (.tmp 67) (.tmp 77) 69 73 ((.agg #[(.int .i64 0),(.slice none 0 0)])) 32 rfl Tryz.underlying69 am1 rfl (by decide) (by omega) (.slice AM x1.f2.length cM) x1.f2 (⟨wrap64 (i+1),b⟩:iG) [.int .i64 (wrap64 (i+1)),.slice A9 b.length c9] (fun k_=>oki k_∨wA.heap.size≤k_) (fun k_=>wA.heap.size≤k_) rfl rfl ⟨_,rfl,Z9.o⟩ (fun k_ q_=>⟨.inr q_,fun e_=>by obtain ⟨_,h1,_⟩:=HRM.o;have:=(h1 k_ e_.symm).2;omega⟩) (fun k_ q_=>.inr (Nat.le_trans WAB.o q_)) (Kd.eF HRM.o (fun _ q_=>⟨.inl q_.1,Nat.not_le_of_lt q_.2⟩)) HB.o HB.o.size (by have:=CQ.o;omega) ?_;intro vx wC ho hb hg hat;rw [← NM.o] at ho;obtain ⟨Ei,EP,e_⟩:=Kd.ji ho;subst e_
      have hr:∀ k,(Value.slice AM x1.f2.length cM).ownBlock=some k→oki k:=fun k e=>(by obtain ⟨_,h1,_⟩:=HRM.o;exact (h1 k e).1);have hn:∀ q,(∀ k,oki k→k≠q)→some q≠(Value.slice AM x1.f2.length cM).ownBlock:=fun q hq e=>hq q (hr q e.symm) rfl;replace HH:=af.mk (Kd.aih HH.o hg (fun k e=>.inl (hr k e)));replace B1:=af.mk (fV (ks B1) hg (hn _ (fun k h e=>by have h1:=(HOK.o k h).1;have h2:=D1.o;omega)));replace B2:=af.mk (fV (ks B2) hg (hn _ (fun k h e=>by have h1:=(HOK.o k h).1;have h2:=D2.o;omega)));replace B3:=af.mk (fV (ks B3) hg (hn _ (fun k h e=>by have h1:=(HOK.o k h).1;have h2:=D3.o;omega)));replace T0:=af.mk (Nat.le_trans T0.o hg.size);replace HB:=af.mk hb;replace HX:=af.mk (show wC.cell? ⟨gB,(wrap64 ((l2.length:Int) - 1)).toNat * 3+2,none⟩=some (.slice AM x1.f2.length cM) from (Kd.Gy HH.o N0.o N1.o).1 2 _ rfl);have HO:=af.mk ho;clear hr hn ho hb hg hat HRM Z9
      refine hK.out _ _ (rC B3 (rC B1 (aC HX.o (aC (cb HB W0.o) (aC (cb HB W1.o) (aC (cb HB W2.o) (aC (cb HB W3.o) (aC (cb HB W4.o) (hc (cb HB W5.o)))))))))).o (fun hHeld=>?_);clear hK K;refine nA 78 ?_;refine jU 22 ?_;refine IB (i:=24) (N:=none) #[true,true,true,true,true,true,true,true,true,true,true,true,true,true,true,true,true,true,true,true,true,true,true,true,true] rfl rfl (xH HT_.o (by kernel_rfl)) (by decide) (fun K hK=>?_);have hs:=HX.o;have hf:wC.frozen? ⟨gB,(wrap64 ((l2.length:Int) - 1)).toNat * 3+2,none⟩=false:=(Kd.Gy HH.o N0.o N1.o).2 2;refine xJ (w1:=wC.setCell ⟨gB,(wrap64 ((l2.length:Int) - 1)).toNat * 3+2,none⟩ (.slice Ei mm.length EP)) (by rfl) rfl (by first|(go_simp;done)|(go_simp;rfl)) ?_;refine hK.out _ _ ?_;clear hK K hs hf hHeld;refine ek (fo HT_.o (by kernel_rfl)) ?_;clear HT_ HW_;obtain ⟨wl,hw⟩:∃ W,W=wC.setCell ⟨gB,(wrap64 ((l2.length:Int) - 1)).toNat * 3+2,none⟩ (.slice Ei mm.length EP):=⟨_,rfl⟩;rw [← hw];obtain ⟨hq,hg2⟩:=Kd.Yg HH.o N0.o N1.o (seg:=[.slice Ei mm.length EP]) (j:=2) (show 2+1≤3 from by decide) (fun q hq=>by rw [List.mem_singleton.1 hq];rfl);replace hq:Kd.H oP 71 wl w.heap.size (fun k_=>s0≤k_) (.slice (some ⟨gB,0,none⟩) l2.length c2) l2 (wrap64 ((l2.length:Int) - 1)) (fun k=>oki k∨s0≤k∧wA.heap.size≤k) [.int .i64 x1.f0,.int .i64 x1.f1,.slice Ei mm.length EP]:=(by rw [hw];exact hq);replace hg2:wC.grownBy wl (some gB):=(by rw [hw];exact hg2);have ho:=Kd.ai0 HO.o hg2 (fun k_ q_ e_=>by injection e_ with e_;rcases q_ with q_|q_;exact (HOK.o k_ q_).2 e_;(have:=GBA.o;omega));have Y:=Kd.Rt hq (x':=(⟨x1.f0,x1.f1,mm⟩:dR)) (show Kd.M oP wl w.heap.size (fun k_=>oki k_∨wA.heap.size≤k_) _ _ from ⟨_,rfl,ho⟩) (fun k_ q_=>q_.elim .inl (fun h=>.inr ⟨Nat.le_trans TA.o h,h⟩))
      have nB:∀ q,q<s0→some q≠some gB:=fun q h e_=>(by injection e_ with e_;have:=OKB.o;omega);replace B1:=af.mk (fV (ks B1) hg2 (nB _ D1.o));replace B2:=af.mk (fV (ks B2) hg2 (nB _ D2.o));replace B3:=af.mk (fV (ks B3) hg2 (nB _ D3.o));replace T0:=af.mk (Nat.le_trans T0.o hg2.size);replace HB:=af.mk (show Below w.heap.size w wl from by rw [hw];exact eX HB.o EB.o);rw [eJ.o,NM.o,LC.o] at Y;have el:l2.length=lc.length:=(by rw [← LC.o,List.length_set]);rw [el] at Y B3;replace Y:=af.mk (Kd.eF (ok':=fun k_=>s0≤k_) Y (fun _ q=>q));clear hw hq hg2 ho nB el
      try go_wp2
      go_roundg k1
      case measure=>have:=aQ.o;omega
      case rel=>exact ⟨_,lc,some ⟨gB,0,none⟩,c2,rfl,H',⟨by have:=aQ.o;omega⟩,Y,B1,B2,B3,T0,HB⟩
   ·intro c9 H;obtain rfl:=si H;have z2:=aX B2;have n23:=JK.o
    go_wp2
    refine bodyPost_ret (results_cell_row rfl _ _ g2 35 #[.string ag,.string aj,.int .i64 ak,.slice Al l.length cl] (0,0) _ rfl (kp B2) Tryz.underlying35 rfl (by kernel_rfl)) rfl ?_
    exact ⟨_,ff,Kd.eF (Kd.jv (p:=⟨g2,3,none⟩) (Kd.jv (p:=⟨g2,2,none⟩) (Kd.jv (p:=⟨g2,1,none⟩) (Kd.jv (p:=⟨g2,0,none⟩) Y.o (fun k_ q_ e_=>by have:=D2.o;have e2:k_=g2:=e_;omega) _) (fun k_ q_ e_=>by have:=D2.o;have e2:k_=g2:=e_;omega) _) (fun k_ q_ e_=>by have:=D2.o;have e2:k_=g2:=e_;omega) _) (fun k_ q_ e_=>by have:=D2.o;have e2:k_=g2:=e_;omega) _) (fun _ q=>Nat.le_trans S0.o q),eX (eX (eX (eX HB.o E2.o) E2.o) E2.o) E2.o⟩
theorem jq.calls (k:Nat)(ag aj:ByteArray)(ak:Int)(dZ:Option Addr)(dW:Nat)(au:List eT)(r1 r2:ByteArray)(r3:Int)(r4:List dR)(w:World)(jl:Kd.C jG w dZ au.length au)(jk:au.length≤dW)(H:jq.f k ag aj ak au=some (r1,r2,r3,r4)) :
  Calls Tryz.prog 19 #[.agg #[.string ag,.string aj,.int .i64 ak,.slice dZ au.length dW]] w fun e w'=>∃ tq:Value,e=.returned (.agg #[.string r1,.string r2,.int .i64 r3,tq])∧Kd.R pX 71 w' w.heap.size (fun _=>True) tq r4∧Below w.heap.size w w':=by
 refine (jq.Dr k ag aj ak dZ dW au r1 r2 r3 r4 w jl jk H).mono ?_;rintro e w' ⟨v,he,hS,hb⟩
 exact ⟨v,he,Kd.dE (DT hS) (fun _ _=>trivial),hb⟩
theorem CB.calls (a0:Int)(r:Bool)(w:World)(H:CB.f a0=some r) :
  Calls Tryz.prog 37 #[.int .i64 a0] w fun e w'=>e=.returned (.bool r)∧aW w w':=by
 unfold CB.f at H
 revert H;refine gT ?_ ?_
 ·intro c2 H;have gQ:decide (1≤a0)=true:=decide_eq_true c2;clear c2;obtain rfl:=si H
  go_in
  go_wp2
  go_ret
  exact ⟨fg,dr⟩
 ·intro c2 H;have gQ:decide (1≤a0)=false:=decide_eq_false c2;clear c2;obtain rfl:=si H
  go_in
  go_wp2
  go_ret
  exact ⟨fg,dr⟩
theorem I5.calls (a0:ByteArray)(r:Bool)(w:World)(H:I5.f a0=some r) :
  Calls Tryz.prog 38 #[.string a0] w fun e w'=>e=.returned (.bool r)∧aW w w':=by
 unfold I5.f at H
 revert H;refine bH ?_ ?_
 ·intro gQ jE H;obtain rfl:=si H
  go_in
  go_wp2
  go_ret
  exact ⟨fg,dr⟩
 ·intro c2 gQ jE H
  revert H;refine bH ?_ ?_
  ·intro aY dS H;obtain rfl:=si H
   go_in
   go_wp2
   go_ret
   exact ⟨fg,dr⟩
  ·intro c3 aY dS H
   revert H;refine bH ?_ ?_
   ·intro dF kV H;obtain rfl:=si H
    go_in
    go_wp2
    go_ret
    exact ⟨fg,dr⟩
   ·intro c4 dF kV H
    revert H;refine bH ?_ ?_
    ·intro ja sJ H;obtain rfl:=si H
     go_in
     go_wp2
     go_ret
     exact ⟨fg,dr⟩
    ·intro c5 ja sJ H
     revert H;refine bH ?_ ?_
     ·intro gu nM H;obtain rfl:=si H
      go_in
      go_wp2
      go_ret
      exact ⟨fg,dr⟩
     ·intro c6 gu nM H;obtain rfl:=si H
      go_in
      go_wp2
      go_ret
      exact ⟨fg,dr⟩
end Go.Proofs.YtapilmimgiaglaaGreatDoor.QX
