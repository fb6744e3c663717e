-- Merged by a program of this session (wip/tool/pack.py) out of its own texts for this claim.
import Derived.Test.YtapilmimgiaglaaGreatDoorKFnExactParcelRight14
set_option maxHeartbeats 8000000
set_option maxRecDepth 100000
set_option linter.unusedSimpArgs false
set_option linter.unusedVariables false
namespace Go.Proofs.YtapilmimgiaglaaGreatDoor.QA
open Go.RowKit Go.Proofs.bB.fA Go.Proofs.bB.PrintLast Go.Proofs.bB.PrintMore
attribute [local go_sem] o6 pg o9 pE o8 pz o7 pq   -- for this text's walks alone
theorem eP.calls (k:Nat) (ag:ByteArray) (aj:ByteArray) (ak:Int) (fP:Option Addr) (eZ:Nat) (au:List (gP)) (r:Bool) (w:World) (kE:Kd.C sZ w fP au.length au) (kD:au.length≤eZ) (H:eP.f k ag aj ak au=some r) :
  Calls Tryz.prog 18 #[.agg #[.string ag,.string aj,.int .i64 ak,.slice fP au.length eZ]] w fun e w'=>e=.returned (.bool r)∧Below w.heap.size w w':=by
 have aux:=Tryz.underlying35;have abP:=Tryz.underlying71;have abQ:=Tryz.underlying73;have qR:=Tryz.underlying62;have pV:=am kE;have qN:=am kD;clear kE kD;have HB:=am (Below.refl w.heap.size w);unfold eP.f at H;have kV:=am H;clear H
 go_in
 go_upto_region 1 with (first|((with_reducible refine aN (N:=1) rfl ?_);(try (refine iM (by rfl) ?_;dsimp only));refine bz 1 (cs:=#[.string ag,.string aj,.int .i64 ak,.slice fP au.length eZ]) (t:=35) HB ?_;clear HB;intro uo hg w3 eT Uv hb HB;clear hb hg))
 (try simp only [Act.put,List.setIfInBounds_toArray,List.set_cons_zero,List.set_cons_succ])
 go_cut [35] (fun v35 wc=>∃ (kq:Nat) (Yl:Bool),v35=.bool Yl∧af (eP.j0 kq Yl ag aj ak au=some r)∧af (kq≤k)∧af (wc.heap[uo]? = some (.cells #[.string ag,.string aj,.int .i64 ak,(.slice fP au.length eZ)] 35 (0,0)))∧af (Below w.heap.size w wc))
 case first =>
  have H:=kV.out;clear kV;replace H:=bo H;obtain ⟨t70,A4,H⟩:=H;have Bf:=eU eT
  try go_wp2_with (fail)
  go_at_call 36;(with_reducible refine (jf.calls k ag t70 _ A4.out).mono ?_);rintro e w' ⟨rfl,⟨nd,rfl⟩⟩
  obtain rfl|rfl:=bt t70
  ·replace H:=dE H;replace H:=bo H;obtain ⟨t77,A7,H⟩:=H;have CR:=eU eT
   try go_wp2_with (fail)
   go_at_call 36;(with_reducible refine (jf.calls k aj t77 _ A7.out).mono ?_);rintro e w' ⟨rfl,⟨nd,rfl⟩⟩
   obtain rfl|rfl:=bt t77
   ·replace H:=dE H;replace H:=bo H;obtain ⟨t78,qb,H⟩:=H;have Bd:=eU eT
    try go_wp2_with (fail)
    go_at_call 37;(with_reducible refine (Ad.calls ak t78 _ qb.out).mono ?_);rintro e w' ⟨rfl,⟨nd,rfl⟩⟩
    obtain rfl|rfl:=bt t78
    ·replace H:=dE H
     revert H;refine zW ?_ ?_
     ·intro c13 lC H;have zA:decide (au.length<1)=true:=decide_eq_true (by omega);clear c13
      (first|rw [lC]|(simp only [fu,gy];rw [lC])|rw [zA]|skip)
      have H':=am H;clear H;have Wo:=eU eT
      go_wp2
      go_meet
      case rel=>exact ⟨_,(true),fg,H',⟨fl⟩,⟨ks eT⟩,⟨bs HB⟩⟩
     ·intro c13 lC H;have zA:decide (au.length<1)=false:=decide_eq_false (by omega);clear c13
      (first|rw [lC]|(simp only [fu,gy];rw [lC])|rw [zA]|skip)
      have H':=am H;clear H;have PV:=eU eT
      go_wp2
      go_meet
      case rel=>exact ⟨_,(decide ((au.length:Int)>5)),fg,H',⟨fl⟩,⟨ks eT⟩,⟨bs HB⟩⟩
    ·replace H:=dD H;have H':=am H;clear H
     go_wp2
     go_meet
     case rel=>exact ⟨_,(true),fg,H',⟨fl⟩,⟨ks eT⟩,⟨bs HB⟩⟩
   ·replace H:=dD H;have H':=am H;clear H
    go_wp2
    go_meet
    case rel=>exact ⟨_,(true),fg,H',⟨fl⟩,⟨ks eT⟩,⟨bs HB⟩⟩
  ·replace H:=dD H;have H':=am H;clear H
   go_wp2
   go_meet
   case rel=>exact ⟨_,(true),fg,H',⟨fl⟩,⟨ks eT⟩,⟨bs HB⟩⟩
 case rest =>
  clear kV
  obtain ⟨kq,Yl,rfl,HA,ib,eT,HB⟩:=hcut
  cases kq with
  | zero=>exact absurd HA.out (by simp [eP.j0])
  | succ lS =>
   have H:=HA.out;clear HA;simp only [eP.j0] at H
   obtain rfl|rfl:=bt Yl
   ·replace H:=dE H;obtain rfl:=si H
    go_wp2
    go_ret
    exact ⟨ff,bs HB⟩
   ·replace H:=dD H;have H':=am H;clear H
    go_wp2
    go_loopg [3] lS (fun kq v3 w'=>∃ (bv:Int),v3=.int .i64 bv∧af (eP.l0 kq bv ag aj ak au=some r)∧af (kq≤lS)∧af (w'.heap[uo]? = some (.cells #[.string ag,.string aj,.int .i64 ak,(.slice fP au.length eZ)] 35 (0,0)))∧af (Below w.heap.size w w'))
    case atStart=>exact ⟨(0),fg,H',⟨Nat.le_refl _⟩,⟨ks eT⟩,⟨bs HB⟩⟩
    case round =>
     clear H'
     try clear eT
     obtain ⟨bv,rfl,HA,cz,eT,HB⟩:=hrel
     cases gk with
     | zero=>exact absurd HA.out (by simp [eP.l0])
     | succ k2 =>
      have H:=HA.out;clear HA;simp only [eP.l0] at H
      revert H;refine cB ?_ ?_
      ·intro oo H
       revert H;refine bu ?_
       intro uT H;have Za:=am H;clear H;have EP:=eU eT;obtain ⟨p16,q16,Vb,aeq,VG,e16,LW,LY,LZ,aiw,ah4⟩:=wi (agq pV.out bv)
       cases e16
       replace LW:=cb HB LW;replace LY:=cb HB LY;replace LZ:=cb HB LZ;have anS:=am ah4;have aAl:=am aiw;clear ah4 aiw
       go_upto_region 7 with (first|((with_reducible refine aN (N:=4) rfl ?_);(try (refine iM (by rfl) ?_;dsimp only));refine bz 4 (cs:=#[.int .i64 0,.int .i64 0,.slice none 0 0]) (t:=71) HB ?_;clear HB;intro Ld hg Ah jH amQ hb HB;have En:=na hg eT;have Ej:=nc hg eT;replace eT:=bb eT hb;clear hb hg;have abE:=Ej.out;have abI:=En.out;have Ig:=l6 jH))
       (try simp only [Act.put,List.setIfInBounds_toArray,List.set_cons_zero,List.set_cons_succ])
       go_cut [73] (fun v73 wc=>∃ (kq:Nat) (Yy:Bool),v73=.bool Yy∧af (eP.j2 kq bv Yy ag aj ak au ((cu au bv).f0) ((cu au bv).f1) ((cu au bv).f2)=some r)∧af (kq≤k2)∧af (wc.heap[uo]? = some (.cells #[.string ag,.string aj,.int .i64 ak,(.slice (some Vb) au.length eZ)] 35 (0,0)))∧af (wc.heap[Ld]? = some (.cells #[.int .i64 ((cu au bv).f0),.int .i64 ((cu au bv).f1),(.slice aeq ((cu au bv).f2).length VG)] 71 (0,0)))∧af (Below w.heap.size w wc))
       case first =>
        have H:=Za.out;clear Za
        revert H;refine cB ?_ ?_
        ·intro uj H
         (first|rw [uj]|(simp only [fu,gy];rw [uj])|skip)
         have H':=am H;clear H;have ajb:=Ej.out;have ajn:=En.out;have ahR:=l6 jH
         go_wp2
         go_meet
         case rel=>exact ⟨_,(true),fg,H',⟨by have:=ib.out;have:=cz.out;first|omega|exact Nat.le_refl _⟩,⟨ks eT⟩,⟨kp jH⟩,⟨bs HB⟩⟩
        ·intro uj H
         (first|rw [uj]|(simp only [fu,gy];rw [uj])|skip)
         revert H;refine gz ?_ ?_
         ·intro wm H;have Hq:decide (7<((cu au bv).f0))=true:=decide_eq_true wm;clear wm;have H':=am H;clear H;have QO:=Ej.out;have QQ:=En.out;have Ih:=l6 jH
          go_wp2
          go_meet
          case rel=>exact ⟨_,(true),fg,H',⟨by have:=ib.out;have:=cz.out;first|omega|exact Nat.le_refl _⟩,⟨ks eT⟩,⟨kp jH⟩,⟨bs HB⟩⟩
         ·intro wm H;have Hq:decide (7<((cu au bv).f0))=false:=decide_eq_false wm;clear wm;replace H:=bo H;obtain ⟨t79,A30,H⟩:=H;have QP:=Ej.out;have QR:=En.out;have PZ:=l6 jH
          try go_wp2_with (fail)
          go_at_call 37;(with_reducible refine (Ad.calls ((cu au bv).f1) t79 _ A30.out).mono ?_);rintro e w' ⟨rfl,⟨nd,rfl⟩⟩
          obtain rfl|rfl:=bt t79
          ·replace H:=dE H
           revert H;refine zW ?_ ?_
           ·intro c34 aqH H;have aqI:decide (((cu au bv).f2).length<1)=true:=decide_eq_true (by omega);clear c34;have H':=am H;clear H;have ajd:=Ej.out;have ajp:=En.out;have Lj:=l6 jH
            go_wp2
            go_meet
            case rel=>exact ⟨_,(true),fg,H',⟨by have:=ib.out;have:=cz.out;first|omega|exact Nat.le_refl _⟩,⟨ks eT⟩,⟨kp jH⟩,⟨bs HB⟩⟩
           ·intro c34 aqH H;have aqI:decide (((cu au bv).f2).length<1)=false:=decide_eq_false (by omega);clear c34;have H':=am H;clear H;have abH:=Ej.out;have abL:=En.out;have Ii:=l6 jH
            go_wp2
            go_meet
            case rel=>exact ⟨_,(decide ((((cu au bv).f2).length:Int)>10)),fg,H',⟨by have:=ib.out;have:=cz.out;first|omega|exact Nat.le_refl _⟩,⟨ks eT⟩,⟨kp jH⟩,⟨bs HB⟩⟩
          ·replace H:=dD H;have H':=am H;clear H
           go_wp2
           go_meet
           case rel=>exact ⟨_,(true),fg,H',⟨by have:=ib.out;have:=cz.out;first|omega|exact Nat.le_refl _⟩,⟨ks eT⟩,⟨kp jH⟩,⟨bs HB⟩⟩
       case rest =>
        clear Za
        try clear oo
        try clear uT
        try clear EP
        try clear Ig
        try clear LW
        try clear LY
        try clear LZ
        try clear p16
        try clear q16
        obtain ⟨kq,Yy,rfl,HA,Eg,eT,jH,HB⟩:=hcut
        cases kq with
        | zero=>exact absurd HA.out (by simp [eP.j2])
        | succ akq =>
         have H:=HA.out;clear HA;simp only [eP.j2] at H
         obtain rfl|rfl:=bt Yy
         ·replace H:=dE H;obtain rfl:=si H
          go_wp2
          go_ret
          exact ⟨ff,bs HB⟩
         ·replace H:=dD H;have H':=am H;clear H
          go_wp2
          go_loopg [5] akq (fun kq v5 w'=>∃ (mI:Int),v5=.int .i64 mI∧af (eP.l1 kq bv mI ag aj ak au ((cu au bv).f0) ((cu au bv).f1) ((cu au bv).f2)=some r)∧af (kq≤akq)∧af (w'.heap[uo]? = some (.cells #[.string ag,.string aj,.int .i64 ak,(.slice (some Vb) au.length eZ)] 35 (0,0)))∧af (w'.heap[Ld]? = some (.cells #[.int .i64 ((cu au bv).f0),.int .i64 ((cu au bv).f1),(.slice aeq ((cu au bv).f2).length VG)] 71 (0,0)))∧af (Below w.heap.size w w'))
          case atStart=>exact ⟨(0),fg,H',⟨Nat.le_refl _⟩,⟨ks eT⟩,⟨ks jH⟩,⟨bs HB⟩⟩
          case round =>
           clear H'
           try clear oo
           try clear uT
           try clear EP
           try clear Ig
           try clear LW
           try clear LY
           try clear LZ
           try clear p16
           try clear q16
           try clear eT
           try clear jH
           obtain ⟨mI,rfl,HA,tV,eT,jH,HB⟩:=hrel
           cases gk with
           | zero=>exact absurd HA.out (by simp [eP.l1])
           | succ k4 =>
            have H:=HA.out;clear HA;simp only [eP.l1] at H
            revert H;refine cB ?_ ?_
            ·intro zB H
             revert H;refine bu ?_
             intro agU H;have Zg:=am H;clear H;have atH:=Ej.out;have aud:=En.out;have abl:=l6 jH;obtain ⟨p53,q53,agd,aer,agW,e53,WX,WY,aiH,aig⟩:=wi (agr anS.out mI)
             cases e53
             replace WX:=cb HB WX;replace WY:=cb HB WY;have afg:=am aig;have aAo:=am aiH;clear aig aiH
             go_upto_region 13 with (first|((with_reducible refine aN (N:=6) rfl ?_);(try (refine iM (by rfl) ?_;dsimp only));refine bz 6 (cs:=#[.int .i64 0,.slice none 0 0]) (t:=73) HB ?_;clear HB;intro uW hg w45 bf YW hb HB;have KG:=na hg eT;have KD:=nc hg eT;replace eT:=bb eT hb;have Ky:=na hg jH;have KC:=nc hg jH;replace jH:=bb jH hb;clear hb hg;have atJ:=KD.out;have auf:=KG.out;have aje:=KC.out;have ajq:=Ky.out;have Ll:=gG bf))
             (try simp only [Act.put,List.setIfInBounds_toArray,List.set_cons_zero,List.set_cons_succ])
             go_cut [95] (fun v95 wc=>∃ (kq:Nat) (Yz:Bool),v95=.bool Yz∧af (eP.j4 kq bv mI Yz ag aj ak au ((cu au bv).f0) ((cu au bv).f1) ((cu au bv).f2) ((lg ((cu au bv).f2) mI).f0) ((lg ((cu au bv).f2) mI).f1)=some r)∧af (kq≤k4)∧af (wc.heap[uo]? = some (.cells #[.string ag,.string aj,.int .i64 ak,(.slice (some Vb) au.length eZ)] 35 (0,0)))∧af (wc.heap[Ld]? = some (.cells #[.int .i64 ((cu au bv).f0),.int .i64 ((cu au bv).f1),(.slice (some agd) ((cu au bv).f2).length VG)] 71 (0,0)))∧af (wc.heap[uW]? = some (.cells #[.int .i64 ((lg ((cu au bv).f2) mI).f0),(.slice aer ((lg ((cu au bv).f2) mI).f1).length agW)] 73 (0,0)))∧af (Below w.heap.size w wc))
             case first =>
              have H:=Zg.out;clear Zg;replace H:=bo H;obtain ⟨t80,YP,H⟩:=H;have atK:=KD.out;have aug:=KG.out;have atL:=KC.out;have auh:=Ky.out;have asY:=gG bf
              try go_wp2_with (fail)
              go_at_call 37;(with_reducible refine (Ad.calls ((lg ((cu au bv).f2) mI).f0) t80 _ YP.out).mono ?_);rintro e w' ⟨rfl,⟨nd,rfl⟩⟩
              obtain rfl|rfl:=bt t80
              ·replace H:=dE H;have H':=am H;clear H;have ajg:=KD.out;have ajs:=KG.out;have ajh:=KC.out;have ajt:=Ky.out;have P8:=gG bf
               go_wp2
               go_meet
               case rel=>exact ⟨_,(decide ((((lg ((cu au bv).f2) mI).f1).length:Int)>40)),fg,H',⟨by have:=ib.out;have:=cz.out;have:=Eg.out;have:=tV.out;first|omega|exact Nat.le_refl _⟩,⟨ks eT⟩,⟨ks jH⟩,⟨kp bf⟩,⟨bs HB⟩⟩
              ·replace H:=dD H;have H':=am H;clear H
               go_wp2
               go_meet
               case rel=>exact ⟨_,(true),fg,H',⟨by have:=ib.out;have:=cz.out;have:=Eg.out;have:=tV.out;first|omega|exact Nat.le_refl _⟩,⟨ks eT⟩,⟨ks jH⟩,⟨kp bf⟩,⟨bs HB⟩⟩
             case rest =>
              clear Zg
              try clear oo
              try clear uT
              try clear zB
              try clear agU
              try clear EP
              try clear Ig
              try clear abl
              try clear Ll
              try clear LW
              try clear LY
              try clear LZ
              try clear WX
              try clear WY
              try clear p16
              try clear p53
              try clear q16
              try clear q53
              obtain ⟨kq,Yz,rfl,HA,UB,eT,jH,bf,HB⟩:=hcut
              cases kq with
              | zero=>exact absurd HA.out (by simp [eP.j4])
              | succ akt =>
               have H:=HA.out;clear HA;simp only [eP.j4] at H
               obtain rfl|rfl:=bt Yz
               ·replace H:=dE H;obtain rfl:=si H
                go_wp2
                go_ret
                exact ⟨ff,bs HB⟩
               ·replace H:=dD H;have H':=am H;clear H
                go_wp2
                go_loopg [7] akt (fun kq v7 w'=>∃ (D7:Int),v7=.int .i64 D7∧af (eP.l2 kq bv mI D7 ag aj ak au ((cu au bv).f0) ((cu au bv).f1) ((cu au bv).f2) ((lg ((cu au bv).f2) mI).f0) ((lg ((cu au bv).f2) mI).f1)=some r)∧af (kq≤akt)∧af (w'.heap[uo]? = some (.cells #[.string ag,.string aj,.int .i64 ak,(.slice (some Vb) au.length eZ)] 35 (0,0)))∧af (w'.heap[Ld]? = some (.cells #[.int .i64 ((cu au bv).f0),.int .i64 ((cu au bv).f1),(.slice (some agd) ((cu au bv).f2).length VG)] 71 (0,0)))∧af (w'.heap[uW]? = some (.cells #[.int .i64 ((lg ((cu au bv).f2) mI).f0),(.slice aer ((lg ((cu au bv).f2) mI).f1).length agW)] 73 (0,0)))∧af (Below w.heap.size w w'))
                case atStart=>exact ⟨(0),fg,H',⟨Nat.le_refl _⟩,⟨ks eT⟩,⟨ks jH⟩,⟨ks bf⟩,⟨bs HB⟩⟩
                case round =>
                 clear H'
                 try clear oo
                 try clear uT
                 try clear zB
                 try clear agU
                 try clear EP
                 try clear Ig
                 try clear abl
                 try clear Ll
                 try clear LW
                 try clear LY
                 try clear LZ
                 try clear WX
                 try clear WY
                 try clear p16
                 try clear p53
                 try clear q16
                 try clear q53
                 try clear eT
                 try clear jH
                 try clear bf
                 obtain ⟨D7,rfl,HA,UF,eT,jH,bf,HB⟩:=hrel
                 cases gk with
                 | zero=>exact absurd HA.out (by simp [eP.l2])
                 | succ k6 =>
                  have H:=HA.out;clear HA;simp only [eP.l2] at H
                  revert H;refine cB ?_ ?_
                  ·intro Hu H
                   revert H;refine bu ?_
                   intro aA9 H;replace H:=bo H;obtain ⟨xX,A60,H⟩:=H;have aFL:=KD.out;have aGw:=KG.out;have ajj:=KC.out;have ajv:=Ky.out;have asZ:=gG bf;obtain ⟨p57,XA,OT,azF,aA8,e57,wF,ajU,aiI,aih⟩:=wi (lv afg.out D7)
                   cases e57
                   replace wF:=cb HB wF;replace ajU:=cb HB ajU;have an5:=am aih;have anf:=am aiI;clear aih aiI
                   try go_wp2_with (fail)
                   go_at_call 33;(with_reducible refine (iG.calls k6 ((av ((lg ((cu au bv).f2) mI).f1) D7).f0) _ _ ((av ((lg ((cu au bv).f2) mI).f1) D7).f1) xX _ (Kd.bJ an5.out (bs HB)) anf.out A60.out).mono ?_);rintro e dN ⟨rfl,hb⟩;replace eT:=bb eT hb;replace jH:=bb jH hb;replace bf:=bb bf hb;replace HB:=bq HB hb;(try clear hb)
                   obtain rfl|rfl:=bt xX
                   ·replace H:=dE H;replace H:=bo H;obtain ⟨t82,A66,H⟩:=H;have aFQ:=KD.out;have aGB:=KG.out;have atN:=KC.out;have auj:=Ky.out;have as0:=gG bf;obtain ⟨p65,MP,G5,aes,agX,e65,nT,yF,E8,EW⟩:=wi (lv afg.out D7);obtain rfl:OT=G5:=(by injection e65);replace nT:=cb HB nT;replace yF:=cb HB yF;have UN:=am EW;have aeV:=am E8;clear EW E8
                    try go_wp2_with (fail)
                    go_at_call 38;(with_reducible refine (FV.calls ((av ((lg ((cu au bv).f2) mI).f1) D7).f0) t82 _ A66.out).mono ?_);rintro e w' ⟨rfl,⟨nd,rfl⟩⟩
                    obtain rfl|rfl:=bt t82
                    ·replace H:=dE H;obtain rfl:=si H
                     go_wp2
                     go_ret
                     exact ⟨ff,bs HB⟩
                    ·replace H:=dD H;have H':=am H;clear H
                     go_wp2
                     go_roundg k6
                     case measure=>have:=ib.out;have:=cz.out;have:=Eg.out;have:=tV.out;have:=UB.out;have:=UF.out;omega
                     case rel=>exact ⟨(wrap64 (D7+1)),fg,H',⟨by have:=ib.out;have:=cz.out;have:=Eg.out;have:=tV.out;have:=UB.out;have:=UF.out;omega⟩,⟨ks eT⟩,⟨ks jH⟩,⟨ks bf⟩,⟨bs HB⟩⟩
                   ·replace H:=dD H;obtain rfl:=si H
                    go_wp2
                    go_ret
                    exact ⟨ff,bs HB⟩
                  ·intro Hu H;have H':=am H;clear H;have atO:=KD.out;have auk:=KG.out;have atP:=KC.out;have aul:=Ky.out;have as3:=gG bf
                   go_wp2
                   go_roundg k6
                   case measure=>have:=ib.out;have:=cz.out;have:=Eg.out;have:=tV.out;have:=UB.out;have:=UF.out;omega
                   case rel=>exact ⟨(wrap64 (mI+1)),fg,H',⟨by have:=ib.out;have:=cz.out;have:=Eg.out;have:=tV.out;have:=UB.out;have:=UF.out;omega⟩,⟨ks eT⟩,⟨ks jH⟩,⟨bs HB⟩⟩
            ·intro zB H;have H':=am H;clear H;have atQ:=Ej.out;have aum:=En.out;have aCL:=l6 jH
             go_wp2
             go_roundg k4
             case measure=>have:=ib.out;have:=cz.out;have:=Eg.out;have:=tV.out;omega
             case rel=>exact ⟨(wrap64 (bv+1)),fg,H',⟨by have:=ib.out;have:=cz.out;have:=Eg.out;have:=tV.out;omega⟩,⟨ks eT⟩,⟨bs HB⟩⟩
      ·intro oo H;obtain rfl:=si H;have aCM:=eU eT
       go_wp2
       go_ret
       exact ⟨ff,bs HB⟩
theorem qH.calls (k:Nat) (ag:ByteArray) (aj:ByteArray) (ak:Int) (fP:Option Addr) (eZ:Nat) (au:List (gN)) (r:Bool) (w:World) (kE:Kd.C kK w fP au.length au) (kD:au.length≤eZ) (H:qH.f k ag aj ak au=some r) :
  Calls Tryz.prog 6 #[.agg #[.string ag,.string aj,.int .i64 ak,.slice fP au.length eZ]] w fun e w'=>e=.returned (.bool r)∧Below w.heap.size w w':=by
 have WC:=Tryz.underlying29;have uX:=Tryz.underlying45;have pV:=am kE;have qN:=am kD;clear kE kD;have HB:=am (Below.refl w.heap.size w);unfold qH.f at H
 revert H;refine gz ?_ ?_
 ·intro c2 H;have gJ:decide (50<(au.length:Int))=true:=decide_eq_true c2;have ja:decide (50<au.length)=true:=decide_eq_true (by omega);clear c2;obtain rfl:=si H
  go_in
  go_wp2_with (first|((with_reducible refine aN (N:=1) rfl ?_);refine bz 1 (cs:=#[.string ag,.string aj,.int .i64 ak,.slice fP au.length eZ]) (t:=29) HB ?_;clear HB;intro CL hg w3 jh aeM hb HB;clear hb hg;have P5:=eU jh))
  go_ret
  exact ⟨ff,bs HB⟩
 ·intro c2 H;have gJ:decide (50<(au.length:Int))=false:=decide_eq_false c2;have ja:decide (50<au.length)=false:=decide_eq_false (by omega);clear c2;have H':=am H;clear H
  go_in
  go_wp2_with (first|((with_reducible refine aN (N:=1) rfl ?_);refine bz 1 (cs:=#[.string ag,.string aj,.int .i64 ak,.slice fP au.length eZ]) (t:=29) HB ?_;clear HB;intro CL hg w5 jh aeM hb HB;clear hb hg;have EQ:=eU jh))
  go_loopg [3] k (fun kq v3 w'=>∃ (dW:Int),v3=.int .i64 dW∧af (qH.l0 kq dW ag aj ak au=some r)∧af (kq≤k)∧af (w'.heap[CL]? = some (.cells #[.string ag,.string aj,.int .i64 ak,(.slice fP au.length eZ)] 29 (0,0)))∧af (Below w.heap.size w w'))
  case atStart=>exact ⟨(0),fg,H',⟨Nat.le_refl _⟩,⟨ks jh⟩,⟨bs HB⟩⟩
  case round =>
   clear H'
   try clear c2
   try clear gJ
   try clear ja
   try clear EQ
   try clear jh
   obtain ⟨dW,rfl,HA,aU,jh,HB⟩:=hrel
   cases gk with
   | zero=>exact absurd HA.out (by simp [qH.l0])
   | succ k1 =>
    have H:=HA.out;clear HA;simp only [qH.l0] at H
    revert H;refine cB ?_ ?_
    ·intro kJ H
     revert H;refine bu ?_
     intro jR H;replace H:=bo H;obtain ⟨t28,A9,H⟩:=H;have zK:=eU jh;obtain ⟨iq,ik,KR,azw,aAX,azx,aAY,e12,nS,WG,WH,WI,WJ,WK,aiu,ah2,aiv,ah3⟩:=wi (Ct pV.out dW)
     cases e12
     replace nS:=cb HB nS;replace WG:=cb HB WG;replace WH:=cb HB WH;replace WI:=cb HB WI;replace WJ:=cb HB WJ;replace WK:=cb HB WK;have anQ:=am ah2;have amX:=am aiu;clear ah2 aiu;have anR:=am ah3;have amY:=am aiv;clear ah3 aiv
     try go_wp2_with (fail)
     go_at_call 17;(with_reducible refine (jA.calls k1 ((aG au dW).f0) ((aG au dW).f1) ((aG au dW).f2) ((aG au dW).f3) _ _ ((aG au dW).f4) _ _ ((aG au dW).f5) t28 _ (Kd.bJ anQ.out (bs HB)) amX.out (Kd.bJ anR.out (bs HB)) amY.out A9.out).mono ?_);rintro e kU ⟨rfl,hb⟩;replace jh:=bb jh hb;replace HB:=bq HB hb;(try clear hb)
     obtain rfl|rfl:=bt t28
     ·replace H:=dE H;have H':=am H;clear H
      go_wp2
      go_roundg k1
      case measure=>have:=aU.out;omega
      case rel=>exact ⟨(wrap64 (dW+1)),fg,H',⟨by have:=aU.out;omega⟩,⟨ks jh⟩,⟨bs HB⟩⟩
     ·replace H:=dD H;obtain rfl:=si H
      go_wp2
      go_ret
      exact ⟨ff,bs HB⟩
    ·intro kJ H;replace H:=bo H;obtain ⟨⟨t22,t25,t26,t27⟩,ry,H⟩:=H;(try dsimp only at H);replace H:=bo H;obtain ⟨t30,zf,H⟩:=H;obtain rfl:=si H;have PV:=eU jh
     go_wp2_with (first|((go_at_call 19;(with_reducible refine (iX.calls k1 ag aj ak _ _ au t22 t25 t26 t27 _ (Kd.bJ pV.out (bs HB)) qN.out ry.out).mono ?_);rintro e w16 ⟨v31,rfl,ho0,hb⟩);have Eh:=am (Kd.gU ho0 (bC (bs HB)));replace jh:=bb jh hb;replace HB:=bq HB hb;(try clear hb);(try clear ho0);obtain ⟨Ca,CG,Pz⟩:=Kd.iy Eh.out;subst Pz)|((go_at_call 18;(with_reducible refine (eP.calls k1 t22 t25 t26 _ _ t27 t30 _ ?aI ?aW zf.out).mono ?_);(case aI=>exact sd (Kd.dU Eh.out).2.2);(case aW=>exact (Kd.dU Eh.out).2.1);rintro e xY ⟨rfl,hb⟩);replace Eh:=am (Kd.dK (rs Eh) hb);replace jh:=bb jh hb;replace HB:=bq HB hb;(try clear hb)))
     go_ret
     exact ⟨ff,bs HB⟩
theorem kY.calls (a0:Int) (a1:Int) (a2:Int) (r:Bool) (w:World) (H:kY.f a0 a1 a2=some r) :
  Calls Tryz.prog 41 #[.int .i64 a0,.int .i64 a1,.int .i64 a2] w fun e w'=>e=.returned (.bool r)∧aT w w':=by
 unfold kY.f at H
 revert H;refine cB ?_ ?_
 ·intro dS H;obtain rfl:=si H
  go_in
  go_wp2
  go_ret
  exact ⟨fg,dr⟩
 ·intro dS H;obtain rfl:=si H
  go_in
  go_wp2
  go_ret
  exact ⟨fg,dr⟩
theorem Bq.calls (a0:Int) (r:Bool) (w:World) (H:Bq.f a0=some r) :
  Calls Tryz.prog 77 #[.int .i64 a0] w fun e w'=>e=.returned (.bool r)∧aT w w':=by
 unfold Bq.f at H;replace H:=bo H;obtain ⟨t1,A2,H⟩:=H;obtain rfl:=si H
 go_in
 go_wp2_with (first|((go_at_call 41;(with_reducible refine (kY.calls a0 2 4 t1 _ A2.out).mono ?_);rintro e w' ⟨rfl,⟨nd,rfl⟩⟩)))
 go_ret
 exact ⟨fg,dr⟩
def sM (w : World) : Prop := Lib.TabIs Tryz.prog w "internal/strconv.uint64pow10" .u64 Lib.pow10Tab
theorem vN {w W:World} (h:af (sM w)) (hb:Below w.heap.size w W):sM W:=Lib.tabBelow_of_tabIs h.out W hb
theorem M3.calls (a0 a1:Int) (r:ByteArray) (w:World) (hT:sM w) (h:M3.f a0 a1=some r) :
  Calls Tryz.prog 109 #[.int .i64 a0,.int .i64 a1] w fun e w'=>e=.returned (.string r)∧Below w.heap.size w w':=by
 unfold M3.f at h
 by_cases c1:a1=10
 ·rw [if_pos c1] at h
  by_cases c2 : -9223372036854775808≤a0
  ·rw [if_pos c2] at h
   by_cases c3:a0≤9223372036854775807
   ·rw [if_pos c3] at h
    obtain rfl:=Option.some.inj h;subst c1;refine (show Calls Tryz.prog 109 #[.int .i64 a0,.int .i64 10] w _ from Any.strconv_FormatInt_10 Tryz.akA a0 c2 c3 w hT).mono ?_;rintro e w' ⟨rfl,k,os,rfl⟩
    exact ⟨rfl,rfl,rfl,rfl,by simp,fun j hj=>by rw [Go.Sort.heap_grow_old _ _ (by simpa using hj)];rfl⟩
   ·rw [if_neg c3] at h;cases h
  ·rw [if_neg c2] at h;cases h
 ·rw [if_neg c1] at h;cases h
theorem wH.calls (a0:Int) (r:ByteArray) (w:World) (hTF:sM w) (H:wH.f a0=some r) :
  Calls Tryz.prog 79 #[.int .i64 a0] w fun e w'=>e=.returned (.string r)∧Below w.heap.size w w':=by
 have HTF:=am hTF;clear hTF
 have HB:=am (Below.refl w.heap.size w);unfold wH.f at H;replace H:=bo H;obtain ⟨t1,A2,H⟩:=H;obtain rfl:=si H
 go_in
 go_wp2_with (first|((go_at_call 109;(with_reducible refine (M3.calls a0 10 t1 _ (vN HTF (bs HB)) A2.out).mono ?_);rintro e w3 ⟨rfl,hb⟩);replace HB:=bq HB hb;(try clear hb)))
 go_ret
 exact ⟨ff,bs HB⟩
theorem mW.calls (k:Nat) (a0:ByteArray) (A1:Option Addr) (c1:Nat) (l1:List ByteArray) (r1:ByteArray) (r2:List (dw)) (w:World) (hr1:Kd.C Kd.string w A1 l1.length l1) (hc1:l1.length≤c1) (H:mW.f k a0 l1=some (r1,r2)) :
  Calls Tryz.prog 78 #[.string a0,.slice A1 l1.length c1] w fun e w'=>∃ F3:Value,e=.returned (.agg #[.string r1,F3])∧Kd.S lG 97 w' w.heap.size (fun _=>True) F3 r2∧Below w.heap.size w w':=by
 have qR:=Tryz.underlying62;have Fb:=Tryz.underlying97;have HR1:=am hr1;have xc:=am hc1;clear hr1 hc1;have HB:=am (Below.refl w.heap.size w);unfold mW.f at H;have H':=am H;clear H
 go_in
 go_wp2_with (first|((with_reducible refine aN (N:=4) rfl ?_);refine bz 4 (cs:=#[.string (⟨#[]⟩:ByteArray),.slice none 0 0]) (t:=62) HB ?_;clear HB;intro oC hg w3 jI Kk hb HB;clear hb hg)|((with_reducible refine aN (N:=5) rfl ?_);refine bz 5 (cs:=#[.string (⟨#[]⟩:ByteArray),.slice none 0 0]) (t:=62) HB ?_;clear HB;intro ahC hg w4 vR az7 hb HB;have Z5:=na hg jI;have Z6:=nc hg jI;replace jI:=bb jI hb;clear hb hg;have ajf:=Z6.out;have ajr:=Z5.out;have EQ:=gG vR))
 go_loopg [12] k (fun kq v12 w'=>∃ (pI:Int) (DU:List (dw)) (Na:Value),v12=.int .i64 pI∧af (mW.l0 kq l1 (l1.length:Int) pI a0 DU=some (r1,r2))∧af (kq≤k)∧af (Kd.S lG 97 w' w.heap.size (fun _=>True) Na DU)∧af (w'.heap[oC]? = some (.cells #[.string (⟨#[]⟩:ByteArray),(.slice none 0 0)] 62 (0,0)))∧af (w'.heap[ahC]? = some (.cells #[.string a0,Na] 62 (0,0)))∧af (Below w.heap.size w w'))
 case atStart=>exact ⟨(0),(([]:List (dw))),(.slice none 0 0),fg,H',⟨Nat.le_refl _⟩,⟨by first|exact Kd.qO _ _ _ _ _|exact Kd.uN _ _ _ _ _|exact Kd.uS _ _ _ _ _|exact Kd.uO _ _ _ _ _|exact Kd.qj _ _ _ _ _⟩,⟨ks jI⟩,⟨kp vR⟩,⟨bs HB⟩⟩
 case round =>
  clear H'
  try clear c1
  try clear EQ
  try clear jI
  try clear vR
  obtain ⟨pI,DU,Na,rfl,HA,aU,Aw,jI,vR,HB⟩:=hrel
  cases gk with
  | zero=>exact absurd HA.out (by simp [mW.l0])
  | succ k1 =>
   have H:=HA.out;clear HA;simp only [mW.l0] at H
   revert H;refine cB ?_ ?_
   ·intro kJ H
    revert H;refine bu ?_
    intro jR H
    revert H;refine bu ?_
    intro nk H;obtain ⟨NU,acg⟩:∃ y_:List ByteArray,y_=(([aX ByteArray.empty l1 pI]:List ByteArray)):=⟨_,rfl⟩
    replace H:(if DU.length<5864062014805 then (mW.l0 k1 l1 (l1.length:Int) (wrap64 (pI+1)) a0 (DU++[(⟨NU⟩:dw)])) else (none))=some (r1,r2):=ye acg H
    have afF:=am acg;clear acg
    revert H;refine jE ?_
    intro c10 H;have ZY:=am c10;clear c10;obtain ⟨y28,hy28⟩:∃ y_:List (dw),y_=(DU++[(⟨NU⟩:dw)]):=⟨_,rfl⟩
    replace H:(mW.l0 k1 l1 (l1.length:Int) (wrap64 (pI+1)) a0 y28)=some (r1,r2):=ye hy28 H
    have ao7:=am hy28;clear hy28;have H':=am H;clear H;obtain ⟨p27,q27,aAJ,e27,ajN⟩:=wi (Kd.iZ HR1.out pI)
    cases e27
    replace ajN:=cb HB ajN;have atu:=Z6.out;have atU:=Z5.out;have CP:=gG vR
    go_wp2_with (first|((with_reducible refine aN (N:=19) rfl ?_);refine rl Kd.string 9 (N:=19) (xs:=([aX ByteArray.empty l1 pI]:List ByteArray)) (inner:=[.string (aX ByteArray.empty l1 pI)]) ?hp ?_;(case hp=>exact (aQ.one (show Kd.M Kd.string _ _ _ (aX ByteArray.empty l1 pI) [.string (aX ByteArray.empty l1 pI)] from rfl) (aQ.none _ _)));intro v32 vO yw hb hg_ hnew_;clear hg_ hnew_;(first|rw [← afF.out] at yw|(simp only [Int.reduceToNat] at yw;rw [← afF.out] at yw));replace Aw:=am (Kd.GY (by (with_reducible repeat (first|apply Kd.fD|apply Kd.fE|apply Kd.dV));exact Aw.out) (Kd.oO yw) hb);have UH:=am (Kd.gU yw (bC (bs HB)));replace jI:=am (aZ (ks jI) hb);replace vR:=am (aZ (ks vR) hb);replace HB:=am (fF (bs HB) hb);clear hb yw;obtain ⟨N8,Pp,V3⟩:=Kd.iy UH.out;subst V3)|((with_reducible refine pX (b:=.append) (xs:=#[.tmp 17,.tmp 21]) rfl ?_);at_builtin;refine Kd.U6 lG (w0:=w) w.heap.size rfl (.tmp 17) (.tmp 21) 60 97 (.agg #[(.slice none 0 0)]) 24 rfl Tryz.underlying60 akf rfl (by decide) (by omega) Na DU (⟨NU⟩:dw) [.slice N8 NU.length Pp] (fun _=>True) (fun k_=>some k_=(.slice N8 NU.length Pp:Value).ownBlock) rfl rfl ?aP (fun k_ hk_=>((Kd.dI (ok':=fun k_=>((fun _=>True)) k_∧some k_≠(Na:Value).ownBlock) (Kd.Ep (UH.out) (Kd.zt Aw.out) (by decide)) (fun k_ hk=>⟨trivial,hk.2⟩))).1 k_ hk_.symm) ?aF ?aO ?aB ?aS ?aL ?_;(case aP=>exact akm _ _ _ (⟨NU⟩:dw) (Kd.dI (Kd.U3 rfl (Kd.dI (ok':=fun k_=>((fun _=>True)) k_∧some k_≠(Na:Value).ownBlock) (Kd.Ep (UH.out) (Kd.zt Aw.out) (by decide)) (fun k_ hk=>⟨trivial,hk.2⟩))) (fun _ h_=>h_)));(case aB=>exact (bs HB));(case aF=>exact (fun _ _=>trivial));(case aO=>exact (by (with_reducible repeat (first|apply Kd.fD|apply Kd.fE|apply Kd.dV));exact Kd.fU Aw.out (fun k_ hk=>⟨trivial,fun e_=>hk.2 e_⟩)));(case aS=>exact (bC (bs HB)));(case aL=>have:=ZY.out;omega);intro v33 w16 ho hb hg hat;rw [← ao7.out] at ho;replace jI:=am (fG (ks jI) hg (Kd.Cr Aw.out jI.out (by decide)));replace vR:=am (fG (ks vR) hg (Kd.Cr Aw.out vR.out (by decide)));replace HB:=am (hb);have UI:=am (ho);clear Aw;clear UH;clear ho hb hg hat;obtain ⟨Ca,CG,Pz⟩:=Kd.kI UI.out;subst Pz;have Lh:=gG vR))
    go_roundg k1
    case measure=>have:=aU.out;omega
    case rel=>exact ⟨(wrap64 (pI+1)),(y28),(.slice Ca y28.length CG),fg,H',⟨by have:=aU.out;omega⟩,⟨by (with_reducible repeat (first|apply Kd.fD|apply Kd.fE|apply Kd.dV));exact Kd.fU (Kd.iT (p:=⟨ahC,1,none⟩) (Kd.uQ UI.out vR.out (by decide)) (fun _ hk=>hk.2) (.slice Ca y28.length CG)) (fun _ hk=>trivial)⟩,⟨ks jI⟩,⟨kp vR⟩,⟨bs HB⟩⟩
   ·intro kJ H;replace H:=wL H;obtain ⟨rfl,rfl⟩:=H;have atz:=Z6.out;have atZ:=Z5.out;have EP:=gG vR;have ahQ:=gG jI;obtain ⟨aez,ag4,ar7⟩:=Kd.kI Aw.out;subst ar7
    go_wp2
    refine bodyPost_ret (results_cell_row rfl _ _ oC 62 #[.string a0,.slice aez DU.length ag4] (0,0) _ rfl (kp jI) Tryz.underlying62 rfl (by kernel_rfl)) rfl ?_
    exact ⟨_,ff,by (with_reducible repeat (first|apply Kd.fD|apply Kd.fE|apply Kd.dV));exact Kd.fU (Kd.iT (p:=⟨oC,1,none⟩) (Kd.iT (p:=⟨oC,0,none⟩) (Kd.uQ Aw.out jI.out (by decide)) (fun _ hk=>hk.2) (.string a0)) (fun _ hk=>hk.2) (.slice aez DU.length ag4)) (fun _ hk=>trivial),bs HB⟩
theorem rW.calls (a0:ByteArray) (r1:ByteArray) (r2:Int) (r3:Int) (r4:ByteArray) (w:World) (H:rW.f a0=some (r1,r2,r3,r4)) :
  Calls Tryz.prog 114 #[.string a0] w fun e w'=>e=.returned (.agg #[.string r1,.int .i64 r2,.int .i64 r3,.string r4])∧Below w.heap.size w w':=by
 have WB:=Tryz.underlying111;have HB:=am (Below.refl w.heap.size w);unfold rW.f at H;replace H:=SX H;obtain ⟨rfl,rfl,rfl,rfl⟩:=H
 go_in
 go_wp2_with (first|((with_reducible refine aN (N:=2) rfl ?_);refine bz 2 (cs:=#[.string (⟨#[]⟩:ByteArray),.int .i64 0,.int .i64 0,.string (⟨#[]⟩:ByteArray)]) (t:=111) HB ?_;clear HB;intro PR hg w2 rA YX hb HB;clear hb hg;have PY:=eU rA))
 refine bodyPost_ret (results_cell_row rfl _ _ PR 111 #[.string (⟨#[68,79,67]⟩:ByteArray),.int .i64 1,.int .i64 1,.string a0] (0,0) _ rfl (kp rA) Tryz.underlying111 rfl (by kernel_rfl)) rfl ?_
 exact ⟨ff,bs HB⟩
theorem uu.calls (a0:ByteArray) (a1:ByteArray) (r1:ByteArray) (r2:Int) (r3:Int) (r4:ByteArray) (w:World) (H:uu.f a0 a1=some (r1,r2,r3,r4)) :
  Calls Tryz.prog 115 #[.string a0,.string a1] w fun e w'=>e=.returned (.agg #[.string r1,.int .i64 r2,.int .i64 r3,.string r4])∧Below w.heap.size w w':=by
 have WB:=Tryz.underlying111;have HB:=am (Below.refl w.heap.size w);unfold uu.f at H;replace H:=SX H;obtain ⟨rfl,rfl,rfl,rfl⟩:=H
 go_in
 go_wp2_with (first|((with_reducible refine aN (N:=4) rfl ?_);refine bz 4 (cs:=#[.string (⟨#[]⟩:ByteArray),.int .i64 0,.int .i64 0,.string (⟨#[]⟩:ByteArray)]) (t:=111) HB ?_;clear HB;intro PR hg w3 rA YX hb HB;clear hb hg;have P5:=eU rA))
 refine bodyPost_ret (results_cell_row rfl _ _ PR 111 #[.string a0,.int .i64 1,.int .i64 20,.string a1] (0,0) _ rfl (kp rA) Tryz.underlying111 rfl (by kernel_rfl)) rfl ?_
 exact ⟨ff,bs HB⟩
theorem qV.calls (k:Nat) (a0:Int) (r:List (aC)) (w:World) (H:qV.f k a0=some r) :
  Calls Tryz.prog 83 #[.int .i64 a0] w fun e w'=>∃ kT:Value,e=.returned (kT)∧Kd.R iA 111 w' w.heap.size (fun _=>True) kT r∧Below w.heap.size w w':=by
 have WB:=Tryz.underlying111;have HB:=am (Below.refl w.heap.size w);unfold qV.f at H
 revert H;refine bL ?_ ?_
 ·intro gJ ja H;replace H:=bo H;obtain ⟨⟨t58,t59,t60,t61⟩,A3,H⟩:=H;(try dsimp only at H);replace H:=bo H;obtain ⟨⟨t62,t66,t68,t69⟩,A4,H⟩:=H;(try dsimp only at H);obtain ⟨y52,acn⟩:∃ y_:List (aC),y_=(([(⟨t58,t59,t60,t61⟩:aC),(⟨(⟨#[78,79,84]⟩:ByteArray),0,2,(⟨#[116]⟩:ByteArray)⟩:aC),(⟨t62,t66,t68,t69⟩:aC)]:List (aC))):=⟨_,rfl⟩
  replace H:(some y52)=some r:=ye acn H
  have afI:=am acn;clear acn;obtain rfl:=si H
  go_in
  try go_wp2_with (first|((with_reducible refine aN (N:=4) rfl ?_);refine bz 4 (cs:=#[.string (⟨#[]⟩:ByteArray),.int .i64 0,.int .i64 0,.string (⟨#[]⟩:ByteArray)]) (t:=111) HB ?_;clear HB;intro iQ hg w5 dL Oc hb HB;clear hb hg;have EQ:=eU dL))
  have bP:af (((((w5.setCell ⟨iQ,0,none⟩ (.string (⟨#[78,79,84]⟩:ByteArray))).setCell ⟨iQ,1,none⟩ (.int .i64 0)).setCell ⟨iQ,2,none⟩ (.int .i64 2)).setCell ⟨iQ,3,none⟩ (.string (⟨#[116]⟩:ByteArray))).heap[iQ]? = some (.cells #[.string (⟨#[78,79,84]⟩:ByteArray),.int .i64 0,.int .i64 2,.string (⟨#[116]⟩:ByteArray)] 111 (0,0))):=⟨kp dL⟩;have bQ:af (Below w.heap.size w ((((w5.setCell ⟨iQ,0,none⟩ (.string (⟨#[78,79,84]⟩:ByteArray))).setCell ⟨iQ,1,none⟩ (.int .i64 0)).setCell ⟨iQ,2,none⟩ (.int .i64 2)).setCell ⟨iQ,3,none⟩ (.string (⟨#[116]⟩:ByteArray)))):=⟨bs HB⟩;(try clear dL);(try clear HB)
  generalize ((((w5.setCell ⟨iQ,0,none⟩ (.string (⟨#[78,79,84]⟩:ByteArray))).setCell ⟨iQ,1,none⟩ (.int .i64 0)).setCell ⟨iQ,2,none⟩ (.int .i64 2)).setCell ⟨iQ,3,none⟩ (.string (⟨#[116]⟩:ByteArray)))=w7 at bP bQ ⊢
  have dL:=bP;have HB:=bQ;clear bP bQ;replace dL:=am (bg dL.out);replace HB:=am (cO HB.out);refine il 7 (hb4 dL) (fun hHeld=>?_)
  generalize w7.drew=w8 at dL HB hHeld ⊢
  refine pu 0 10 #[true,false,false,false,false,false,false] ?_
  refine pu 3 13 #[true,false,false,true,false,false,false] ?_
  refine tu 2 12 #[true,false,true,true,false,false,false] ?_
  refine nG (i:=1) (N:=some 11) #[true,true,true,true,false,false,false] rfl rfl (by kernel_rfl) (by decide) (fun K hK=>?_);refine Wl Tryz.func114 (by kernel_rfl) rfl #[.string (⟨#[114,100]⟩:ByteArray)] (by rfl) rfl rfl (by rfl) (by (try simp only [List.map_toArray,List.map_cons,List.map_nil]);first|done|rfl|(simp only [List.length_drop,List.length_take];rfl)) ?_;(with_reducible refine (rW.calls (⟨#[114,100]⟩:ByteArray) t58 t59 t60 t61 _ A3.out).mono ?_);rintro e w9 ⟨rfl,hb⟩;refine ⟨_,rfl,?_⟩;replace dL:=am (aZ (g:=iQ) (o:=.cells #[.string (⟨#[78,79,84]⟩:ByteArray),.int .i64 0,.int .i64 2,.string (⟨#[116]⟩:ByteArray)] 111 (0,0)) (ks dL) hb);replace HB:=bq HB hb;(try clear hb);refine hK.out _ _ (hb4 dL).out (fun hHeld=>?_);clear hK K;refine nA 11 ?_;refine nG (i:=4) (N:=some 14) #[true,true,true,true,true,false,false] rfl rfl (by kernel_rfl) (by decide) (fun K hK=>?_);refine Wl Tryz.func115 (by kernel_rfl) rfl #[.string (⟨#[76,73,78]⟩:ByteArray),.string (⟨#[110,114,113,63,110]⟩:ByteArray)] (by rfl) rfl rfl (by rfl) (by (try simp only [List.map_toArray,List.map_cons,List.map_nil]);first|done|rfl|(simp only [List.length_drop,List.length_take];rfl)) ?_;(with_reducible refine (uu.calls (⟨#[76,73,78]⟩:ByteArray) (⟨#[110,114,113,63,110]⟩:ByteArray) t62 t66 t68 t69 _ A4.out).mono ?_);rintro e DI ⟨rfl,hb⟩;refine ⟨_,rfl,?_⟩;replace dL:=am (aZ (g:=iQ) (o:=.cells #[.string (⟨#[78,79,84]⟩:ByteArray),.int .i64 0,.int .i64 2,.string (⟨#[116]⟩:ByteArray)] 111 (0,0)) (ks dL) hb);replace HB:=bq HB hb;(try clear hb);refine hK.out _ _ (hb4 dL).out (fun hHeld=>?_);clear hK K;refine nA 14 ?_;refine nG (i:=5) (N:=some 15) #[true,true,true,true,true,true,false] rfl rfl (by kernel_rfl) (by decide) (fun K hK=>?_);refine Kd.yh iA _ 111 ?hg (N:=15) ?hd (xs:=([(⟨t58,t59,t60,t61⟩:aC),(⟨(⟨#[78,79,84]⟩:ByteArray),0,2,(⟨#[116]⟩:ByteArray)⟩:aC),(⟨t62,t66,t68,t69⟩:aC)]:List (aC))) (inner:=[.string t58,.int .i64 t59,.int .i64 t60,.string t61,.string (⟨#[78,79,84]⟩:ByteArray),.int .i64 0,.int .i64 2,.string (⟨#[116]⟩:ByteArray),.string t62,.int .i64 t66,.int .i64 t68,.string t69]) (ok:=fun _=>True) (okp:=fun _=>True) ?hr ?hp (fun _ hk=>hk) trivial (Below.refl _ _) (Nat.le_refl _) (by simp) ?_;(case hd=>rfl);(case hg=>rfl);(case hr=>first|(go_simp;done)|(go_simp;rfl));(case hp=>exact (aQ.c4 (show Kd.M iA _ _ _ (⟨t58,t59,t60,t61⟩:aC) [.string t58,.int .i64 t59,.int .i64 t60,.string t61] from (l8 _ _ _ (⟨t58,t59,t60,t61⟩:aC) )) (aQ.c4 (show Kd.M iA _ _ _ (⟨(⟨#[78,79,84]⟩:ByteArray),0,2,(⟨#[116]⟩:ByteArray)⟩:aC) [.string (⟨#[78,79,84]⟩:ByteArray),.int .i64 0,.int .i64 2,.string (⟨#[116]⟩:ByteArray)] from (l8 _ _ _ (⟨(⟨#[78,79,84]⟩:ByteArray),0,2,(⟨#[116]⟩:ByteArray)⟩:aC) )) (aQ.c4 (show Kd.M iA _ _ _ (⟨t62,t66,t68,t69⟩:aC) [.string t62,.int .i64 t66,.int .i64 t68,.string t69] from (l8 _ _ _ (⟨t62,t66,t68,t69⟩:aC) )) (aQ.none _ _)))));intro aIX kU yu hb hg_ hnew_;clear hg_ hnew_
  (first|rw [← afI.out] at yu|(simp only [Int.reduceToNat] at yu;rw [← afI.out] at yu))
  have anq:=am (Kd.gU (Kd.mr yu (g:=iQ) (o:=.cells #[.string (⟨#[78,79,84]⟩:ByteArray),.int .i64 0,.int .i64 2,.string (⟨#[116]⟩:ByteArray)] 111 (0,0)) (ks dL)) (bC (bs HB)));replace dL:=am (aZ (g:=iQ) (o:=.cells #[.string (⟨#[78,79,84]⟩:ByteArray),.int .i64 0,.int .i64 2,.string (⟨#[116]⟩:ByteArray)] 111 (0,0)) (ks dL) hb);replace HB:=bq HB hb;clear hb yu;refine hK.out _ _ (hb4 dL).out (fun hHeld=>?_);clear hK K;refine nA 15 ?_;refine pu 6 2 #[true,true,true,true,true,true,true] ?_
  refine fq (by kernel_rfl) ?_
  try go_wp2
  go_ret
  exact ⟨_,ff,by (with_reducible repeat (first|apply Kd.jW|apply Kd.jk|apply Kd.dY));exact Kd.dI anq.out (fun _ hk=>trivial),bs HB⟩
 ·intro c2 gJ ja H;have Y4:=am H;clear H
  go_in
  go_upto_if 16 with (first|((with_reducible refine aN (N:=4) rfl ?_);refine bz 4 (cs:=#[.string (⟨#[]⟩:ByteArray),.int .i64 0,.int .i64 0,.string (⟨#[]⟩:ByteArray)]) (t:=111) HB ?_;clear HB;intro iQ hg vP dL Oc hb HB;clear hb hg;have PV:=eU dL))
  (try simp only [Act.put,List.setIfInBounds_toArray,List.set_cons_zero,List.set_cons_succ])
  go_cut [16] (fun v16 wc=>∃ (kq:Nat) (Ye:Bool),v16=.bool Ye∧af (qV.j0 kq a0 Ye (⟨#[78,79,84]⟩:ByteArray) 0 2 (⟨#[116]⟩:ByteArray)=some r)∧af (kq≤k)∧af (wc.heap[iQ]? = some (.cells #[.string (⟨#[78,79,84]⟩:ByteArray),.int .i64 0,.int .i64 2,.string (⟨#[116]⟩:ByteArray)] 111 (0,0)))∧af (Below w.heap.size w wc))
  case first =>
   have H:=Y4.out;clear Y4
   revert H;refine bL ?_ ?_
   ·intro vZ VH H
    (first|rw [vZ]|(simp only [fu,gy];rw [vZ])|rw [VH]|skip)
    have H':=am H;clear H
    go_wp2
    go_meet
    case rel=>exact ⟨_,((a0 == 2)),fg,H',⟨fl⟩,⟨kp dL⟩,⟨bs HB⟩⟩
   ·intro c16 vZ VH H
    (first|rw [vZ]|(simp only [fu,gy];rw [vZ])|rw [VH]|skip)
    have H':=am H;clear H
    go_wp2
    go_meet
    case rel=>exact ⟨_,((a0 == 4)),fg,H',⟨fl⟩,⟨kp dL⟩,⟨bs HB⟩⟩
  case rest =>
   clear Y4
   try clear c2
   try clear gJ
   try clear ja
   try clear PV
   obtain ⟨kq,Ye,rfl,HA,aAB,dL,HB⟩:=hcut
   cases kq with
   | zero=>exact absurd HA.out (by simp [qV.j0])
   | succ aIc =>
    have H:=HA.out;clear HA;simp only [qV.j0] at H
    obtain rfl|rfl:=bt Ye
    ·replace H:=dE H;replace H:=bo H;obtain ⟨⟨t70,t71,t72,t74⟩,A18,H⟩:=H;(try dsimp only at H);replace H:=bo H;obtain ⟨⟨t80,xX,t82,t85⟩,YH,H⟩:=H;(try dsimp only at H);obtain ⟨y53,aco⟩:∃ y_:List (aC),y_=(([(⟨t70,t71,t72,t74⟩:aC),(⟨t80,xX,t82,t85⟩:aC)]:List (aC))):=⟨_,rfl⟩
     replace H:(some y53)=some r:=ye aco H
     have afJ:=am aco;clear aco;obtain rfl:=si H
     go_wp2_with (first|(go_at_call 114;(with_reducible refine (rW.calls (⟨#[114,114,100]⟩:ByteArray) t70 t71 t72 t74 _ A18.out).mono ?_);rintro e BM ⟨rfl,hb⟩;replace dL:=am (aZ (g:=iQ) (o:=.cells #[.string (⟨#[78,79,84]⟩:ByteArray),.int .i64 0,.int .i64 2,.string (⟨#[116]⟩:ByteArray)] 111 (0,0)) (ks dL) hb);replace HB:=bq HB hb;(try clear hb))|(go_at_call 115;(with_reducible refine (uu.calls (⟨#[76,73,78]⟩:ByteArray) (⟨#[110,113,63,116]⟩:ByteArray) t80 xX t82 t85 _ YH.out).mono ?_);rintro e Ah ⟨rfl,hb⟩;replace dL:=am (aZ (g:=iQ) (o:=.cells #[.string (⟨#[78,79,84]⟩:ByteArray),.int .i64 0,.int .i64 2,.string (⟨#[116]⟩:ByteArray)] 111 (0,0)) (ks dL) hb);replace HB:=bq HB hb;(try clear hb))|((with_reducible refine aN (N:=23) rfl ?_);refine rl iA 111 (N:=23) (xs:=([(⟨t70,t71,t72,t74⟩:aC),(⟨t80,xX,t82,t85⟩:aC)]:List (aC))) (inner:=[.string t70,.int .i64 t71,.int .i64 t72,.string t74,.string t80,.int .i64 xX,.int .i64 t82,.string t85]) ?hp ?_;(case hp=>exact (aQ.c4 (show Kd.M iA _ _ _ (⟨t70,t71,t72,t74⟩:aC) [.string t70,.int .i64 t71,.int .i64 t72,.string t74] from (l8 _ _ _ (⟨t70,t71,t72,t74⟩:aC) )) (aQ.c4 (show Kd.M iA _ _ _ (⟨t80,xX,t82,t85⟩:aC) [.string t80,.int .i64 xX,.int .i64 t82,.string t85] from (l8 _ _ _ (⟨t80,xX,t82,t85⟩:aC) )) (aQ.none _ _))));intro aIY JO zN hb hg_ hnew_;clear hg_ hnew_;(first|rw [← afJ.out] at zN|(simp only [Int.reduceToNat] at zN;rw [← afJ.out] at zN));have anr:=am (Kd.gU (Kd.mr zN (g:=iQ) (o:=.cells #[.string (⟨#[78,79,84]⟩:ByteArray),.int .i64 0,.int .i64 2,.string (⟨#[116]⟩:ByteArray)] 111 (0,0)) (ks dL)) (bC (bs HB)));replace dL:=am (aZ (g:=iQ) (o:=.cells #[.string (⟨#[78,79,84]⟩:ByteArray),.int .i64 0,.int .i64 2,.string (⟨#[116]⟩:ByteArray)] 111 (0,0)) (ks dL) hb);replace HB:=bq HB hb;clear hb zN))
     go_ret
     exact ⟨_,ff,by (with_reducible repeat (first|apply Kd.jW|apply Kd.jk|apply Kd.dY));exact Kd.dI anr.out (fun _ hk=>trivial),bs HB⟩
    ·replace H:=dD H
     revert H;refine bL ?_ ?_
     ·intro uj Ho H;replace H:=bo H;obtain ⟨⟨t86,t87,BH,t89⟩,Kg,H⟩:=H;(try dsimp only at H);replace H:=bo H;obtain ⟨⟨BI,t91,BJ,t93⟩,YK,H⟩:=H;(try dsimp only at H);obtain ⟨y54,acp⟩:∃ y_:List (aC),y_=(([(⟨t86,t87,BH,t89⟩:aC),(⟨(⟨#[78,79,84]⟩:ByteArray),0,2,(⟨#[116]⟩:ByteArray)⟩:aC),(⟨BI,t91,BJ,t93⟩:aC)]:List (aC))):=⟨_,rfl⟩
      replace H:(some y54)=some r:=ye acp H
      have afK:=am acp;clear acp;obtain rfl:=si H
      try go_wp2
      replace dL:=am (bg dL.out);replace HB:=am (cO HB.out);refine il 7 (hb4 dL) (fun hHeld=>?_)
      generalize wc.drew=BN at dL HB hHeld ⊢
      refine pu 0 26 #[true,false,false,false,false,false,false] ?_
      refine pu 3 29 #[true,false,false,true,false,false,false] ?_
      refine tu 2 28 #[true,false,true,true,false,false,false] ?_
      refine nG (i:=1) (N:=some 27) #[true,true,true,true,false,false,false] rfl rfl (by kernel_rfl) (by decide) (fun K hK=>?_);refine Wl Tryz.func114 (by kernel_rfl) rfl #[.string (⟨#[114,114,100]⟩:ByteArray)] (by rfl) rfl rfl (by rfl) (by (try simp only [List.map_toArray,List.map_cons,List.map_nil]);first|done|rfl|(simp only [List.length_drop,List.length_take];rfl)) ?_;(with_reducible refine (rW.calls (⟨#[114,114,100]⟩:ByteArray) t86 t87 BH t89 _ Kg.out).mono ?_);rintro e JQ ⟨rfl,hb⟩;refine ⟨_,rfl,?_⟩;replace dL:=am (aZ (g:=iQ) (o:=.cells #[.string (⟨#[78,79,84]⟩:ByteArray),.int .i64 0,.int .i64 2,.string (⟨#[116]⟩:ByteArray)] 111 (0,0)) (ks dL) hb);replace HB:=bq HB hb;(try clear hb);refine hK.out _ _ (hb4 dL).out (fun hHeld=>?_);clear hK K;refine nA 27 ?_;refine nG (i:=4) (N:=some 30) #[true,true,true,true,true,false,false] rfl rfl (by kernel_rfl) (by decide) (fun K hK=>?_);refine Wl Tryz.func115 (by kernel_rfl) rfl #[.string (⟨#[76,73,78]⟩:ByteArray),.string (⟨#[110,113]⟩:ByteArray)] (by rfl) rfl rfl (by rfl) (by (try simp only [List.map_toArray,List.map_cons,List.map_nil]);first|done|rfl|(simp only [List.length_drop,List.length_take];rfl)) ?_;(with_reducible refine (uu.calls (⟨#[76,73,78]⟩:ByteArray) (⟨#[110,113]⟩:ByteArray) BI t91 BJ t93 _ YK.out).mono ?_);rintro e X7 ⟨rfl,hb⟩;refine ⟨_,rfl,?_⟩;replace dL:=am (aZ (g:=iQ) (o:=.cells #[.string (⟨#[78,79,84]⟩:ByteArray),.int .i64 0,.int .i64 2,.string (⟨#[116]⟩:ByteArray)] 111 (0,0)) (ks dL) hb);replace HB:=bq HB hb;(try clear hb);refine hK.out _ _ (hb4 dL).out (fun hHeld=>?_);clear hK K;refine nA 30 ?_;refine nG (i:=5) (N:=some 31) #[true,true,true,true,true,true,false] rfl rfl (by kernel_rfl) (by decide) (fun K hK=>?_);refine Kd.yh iA _ 111 ?hg (N:=31) ?hd (xs:=([(⟨t86,t87,BH,t89⟩:aC),(⟨(⟨#[78,79,84]⟩:ByteArray),0,2,(⟨#[116]⟩:ByteArray)⟩:aC),(⟨BI,t91,BJ,t93⟩:aC)]:List (aC))) (inner:=[.string t86,.int .i64 t87,.int .i64 BH,.string t89,.string (⟨#[78,79,84]⟩:ByteArray),.int .i64 0,.int .i64 2,.string (⟨#[116]⟩:ByteArray),.string BI,.int .i64 t91,.int .i64 BJ,.string t93]) (ok:=fun _=>True) (okp:=fun _=>True) ?hr ?hp (fun _ hk=>hk) trivial (Below.refl _ _) (Nat.le_refl _) (by simp) ?_;(case hd=>rfl);(case hg=>rfl);(case hr=>first|(go_simp;done)|(go_simp;rfl));(case hp=>exact (aQ.c4 (show Kd.M iA _ _ _ (⟨t86,t87,BH,t89⟩:aC) [.string t86,.int .i64 t87,.int .i64 BH,.string t89] from (l8 _ _ _ (⟨t86,t87,BH,t89⟩:aC) )) (aQ.c4 (show Kd.M iA _ _ _ (⟨(⟨#[78,79,84]⟩:ByteArray),0,2,(⟨#[116]⟩:ByteArray)⟩:aC) [.string (⟨#[78,79,84]⟩:ByteArray),.int .i64 0,.int .i64 2,.string (⟨#[116]⟩:ByteArray)] from (l8 _ _ _ (⟨(⟨#[78,79,84]⟩:ByteArray),0,2,(⟨#[116]⟩:ByteArray)⟩:aC) )) (aQ.c4 (show Kd.M iA _ _ _ (⟨BI,t91,BJ,t93⟩:aC) [.string BI,.int .i64 t91,.int .i64 BJ,.string t93] from (l8 _ _ _ (⟨BI,t91,BJ,t93⟩:aC) )) (aQ.none _ _)))));intro aIZ qJ nC hb hg_ hnew_;clear hg_ hnew_
      (first|rw [← afK.out] at nC|(simp only [Int.reduceToNat] at nC;rw [← afK.out] at nC))
      have ant:=am (Kd.gU (Kd.mr nC (g:=iQ) (o:=.cells #[.string (⟨#[78,79,84]⟩:ByteArray),.int .i64 0,.int .i64 2,.string (⟨#[116]⟩:ByteArray)] 111 (0,0)) (ks dL)) (bC (bs HB)));replace dL:=am (aZ (g:=iQ) (o:=.cells #[.string (⟨#[78,79,84]⟩:ByteArray),.int .i64 0,.int .i64 2,.string (⟨#[116]⟩:ByteArray)] 111 (0,0)) (ks dL) hb);replace HB:=bq HB hb;clear hb nC;refine hK.out _ _ (hb4 dL).out (fun hHeld=>?_);clear hK K;refine nA 31 ?_;refine pu 6 2 #[true,true,true,true,true,true,true] ?_
      refine fq (by kernel_rfl) ?_
      try go_wp2
      go_ret
      exact ⟨_,ff,by (with_reducible repeat (first|apply Kd.jW|apply Kd.jk|apply Kd.dY));exact Kd.dI ant.out (fun _ hk=>trivial),bs HB⟩
     ·intro c24 uj Ho H
      revert H;refine bL ?_ ?_
      ·intro Pb VL H;replace H:=bo H;obtain ⟨⟨JC,JD,JE,JF⟩,NV,H⟩:=H;(try dsimp only at H);replace H:=bo H;obtain ⟨⟨JG,JH,Jm,Jn⟩,NW,H⟩:=H;(try dsimp only at H);obtain ⟨y55,acr⟩:∃ y_:List (aC),y_=(([(⟨JC,JD,JE,JF⟩:aC),(⟨JG,JH,Jm,Jn⟩:aC)]:List (aC))):=⟨_,rfl⟩
       replace H:(some y55)=some r:=ye acr H
       have afL:=am acr;clear acr;obtain rfl:=si H
       go_wp2_with (first|(go_at_call 114;(with_reducible refine (rW.calls (⟨#[114,100]⟩:ByteArray) JC JD JE JF _ NV.out).mono ?_);rintro e X8 ⟨rfl,hb⟩;replace dL:=am (aZ (g:=iQ) (o:=.cells #[.string (⟨#[78,79,84]⟩:ByteArray),.int .i64 0,.int .i64 2,.string (⟨#[116]⟩:ByteArray)] 111 (0,0)) (ks dL) hb);replace HB:=bq HB hb;(try clear hb))|(go_at_call 115;(with_reducible refine (uu.calls (⟨#[73,84,77]⟩:ByteArray) (⟨#[114,110]⟩:ByteArray) JG JH Jm Jn _ NW.out).mono ?_);rintro e w36 ⟨rfl,hb⟩;replace dL:=am (aZ (g:=iQ) (o:=.cells #[.string (⟨#[78,79,84]⟩:ByteArray),.int .i64 0,.int .i64 2,.string (⟨#[116]⟩:ByteArray)] 111 (0,0)) (ks dL) hb);replace HB:=bq HB hb;(try clear hb))|((with_reducible refine aN (N:=38) rfl ?_);refine rl iA 111 (N:=38) (xs:=([(⟨JC,JD,JE,JF⟩:aC),(⟨JG,JH,Jm,Jn⟩:aC)]:List (aC))) (inner:=[.string JC,.int .i64 JD,.int .i64 JE,.string JF,.string JG,.int .i64 JH,.int .i64 Jm,.string Jn]) ?hp ?_;(case hp=>exact (aQ.c4 (show Kd.M iA _ _ _ (⟨JC,JD,JE,JF⟩:aC) [.string JC,.int .i64 JD,.int .i64 JE,.string JF] from (l8 _ _ _ (⟨JC,JD,JE,JF⟩:aC) )) (aQ.c4 (show Kd.M iA _ _ _ (⟨JG,JH,Jm,Jn⟩:aC) [.string JG,.int .i64 JH,.int .i64 Jm,.string Jn] from (l8 _ _ _ (⟨JG,JH,Jm,Jn⟩:aC) )) (aQ.none _ _))));intro aI0 Nf QV hb hg_ hnew_;clear hg_ hnew_;(first|rw [← afL.out] at QV|(simp only [Int.reduceToNat] at QV;rw [← afL.out] at QV));have anv:=am (Kd.gU (Kd.mr QV (g:=iQ) (o:=.cells #[.string (⟨#[78,79,84]⟩:ByteArray),.int .i64 0,.int .i64 2,.string (⟨#[116]⟩:ByteArray)] 111 (0,0)) (ks dL)) (bC (bs HB)));replace dL:=am (aZ (g:=iQ) (o:=.cells #[.string (⟨#[78,79,84]⟩:ByteArray),.int .i64 0,.int .i64 2,.string (⟨#[116]⟩:ByteArray)] 111 (0,0)) (ks dL) hb);replace HB:=bq HB hb;clear hb QV))
       go_ret
       exact ⟨_,ff,by (with_reducible repeat (first|apply Kd.jW|apply Kd.jk|apply Kd.dY));exact Kd.dI anv.out (fun _ hk=>trivial),bs HB⟩
      ·intro c32 Pb VL H
       revert H;refine bL ?_ ?_
       ·intro Pd agT H;replace H:=bo H;obtain ⟨⟨Jo,Jp,Jq,Jr⟩,YM,H⟩:=H;(try dsimp only at H);replace H:=bo H;obtain ⟨⟨Js,Jt,Ju,Jv⟩,NY,H⟩:=H;(try dsimp only at H);obtain ⟨y56,acu⟩:∃ y_:List (aC),y_=(([(⟨Jo,Jp,Jq,Jr⟩:aC),(⟨Js,Jt,Ju,Jv⟩:aC)]:List (aC))):=⟨_,rfl⟩
        replace H:(some y56)=some r:=ye acu H
        have afN:=am acu;clear acu;obtain rfl:=si H
        go_wp2_with (first|(go_at_call 114;(with_reducible refine (rW.calls (⟨#[114,100]⟩:ByteArray) Jo Jp Jq Jr _ YM.out).mono ?_);rintro e tJ ⟨rfl,hb⟩;replace dL:=am (aZ (g:=iQ) (o:=.cells #[.string (⟨#[78,79,84]⟩:ByteArray),.int .i64 0,.int .i64 2,.string (⟨#[116]⟩:ByteArray)] 111 (0,0)) (ks dL) hb);replace HB:=bq HB hb;(try clear hb))|(go_at_call 115;(with_reducible refine (uu.calls (⟨#[73,84,77]⟩:ByteArray) (⟨#[114,122,63,116]⟩:ByteArray) Js Jt Ju Jv _ NY.out).mono ?_);rintro e Ng ⟨rfl,hb⟩;replace dL:=am (aZ (g:=iQ) (o:=.cells #[.string (⟨#[78,79,84]⟩:ByteArray),.int .i64 0,.int .i64 2,.string (⟨#[116]⟩:ByteArray)] 111 (0,0)) (ks dL) hb);replace HB:=bq HB hb;(try clear hb))|((with_reducible refine aN (N:=45) rfl ?_);refine rl iA 111 (N:=45) (xs:=([(⟨Jo,Jp,Jq,Jr⟩:aC),(⟨Js,Jt,Ju,Jv⟩:aC)]:List (aC))) (inner:=[.string Jo,.int .i64 Jp,.int .i64 Jq,.string Jr,.string Js,.int .i64 Jt,.int .i64 Ju,.string Jv]) ?hp ?_;(case hp=>exact (aQ.c4 (show Kd.M iA _ _ _ (⟨Jo,Jp,Jq,Jr⟩:aC) [.string Jo,.int .i64 Jp,.int .i64 Jq,.string Jr] from (l8 _ _ _ (⟨Jo,Jp,Jq,Jr⟩:aC) )) (aQ.c4 (show Kd.M iA _ _ _ (⟨Js,Jt,Ju,Jv⟩:aC) [.string Js,.int .i64 Jt,.int .i64 Ju,.string Jv] from (l8 _ _ _ (⟨Js,Jt,Ju,Jv⟩:aC) )) (aQ.none _ _))));intro aI1 DL zO hb hg_ hnew_;clear hg_ hnew_;(first|rw [← afN.out] at zO|(simp only [Int.reduceToNat] at zO;rw [← afN.out] at zO));have anw:=am (Kd.gU (Kd.mr zO (g:=iQ) (o:=.cells #[.string (⟨#[78,79,84]⟩:ByteArray),.int .i64 0,.int .i64 2,.string (⟨#[116]⟩:ByteArray)] 111 (0,0)) (ks dL)) (bC (bs HB)));replace dL:=am (aZ (g:=iQ) (o:=.cells #[.string (⟨#[78,79,84]⟩:ByteArray),.int .i64 0,.int .i64 2,.string (⟨#[116]⟩:ByteArray)] 111 (0,0)) (ks dL) hb);replace HB:=bq HB hb;clear hb zO))
        go_ret
        exact ⟨_,ff,by (with_reducible repeat (first|apply Kd.jW|apply Kd.jk|apply Kd.dY));exact Kd.dI anw.out (fun _ hk=>trivial),bs HB⟩
       ·intro c39 Pd agT H
        revert H;refine bL ?_ ?_
        ·intro K8 Pf H;replace H:=bo H;obtain ⟨⟨Jw,Jy,Jz,JA⟩,A47,H⟩:=H;(try dsimp only at H);obtain ⟨y57,acx⟩:∃ y_:List (aC),y_=(([(⟨Jw,Jy,Jz,JA⟩:aC),(⟨(⟨#[65,67,75]⟩:ByteArray),1,1,(⟨#[110,110,63,110]⟩:ByteArray)⟩:aC)]:List (aC))):=⟨_,rfl⟩
         replace H:(some y57)=some r:=ye acx H
         have afO:=am acx;clear acx;obtain rfl:=si H
         go_wp2_with (first|(go_at_call 114;(with_reducible refine (rW.calls (⟨#[114,100]⟩:ByteArray) Jw Jy Jz JA _ A47.out).mono ?_);rintro e Tx ⟨rfl,hb⟩;replace dL:=am (aZ (g:=iQ) (o:=.cells #[.string (⟨#[78,79,84]⟩:ByteArray),.int .i64 0,.int .i64 2,.string (⟨#[116]⟩:ByteArray)] 111 (0,0)) (ks dL) hb);replace HB:=bq HB hb;(try clear hb))|((with_reducible refine aN (N:=51) rfl ?_);refine rl iA 111 (N:=51) (xs:=([(⟨Jw,Jy,Jz,JA⟩:aC),(⟨(⟨#[65,67,75]⟩:ByteArray),1,1,(⟨#[110,110,63,110]⟩:ByteArray)⟩:aC)]:List (aC))) (inner:=[.string Jw,.int .i64 Jy,.int .i64 Jz,.string JA,.string (⟨#[65,67,75]⟩:ByteArray),.int .i64 1,.int .i64 1,.string (⟨#[110,110,63,110]⟩:ByteArray)]) ?hp ?_;(case hp=>exact (aQ.c4 (show Kd.M iA _ _ _ (⟨Jw,Jy,Jz,JA⟩:aC) [.string Jw,.int .i64 Jy,.int .i64 Jz,.string JA] from (l8 _ _ _ (⟨Jw,Jy,Jz,JA⟩:aC) )) (aQ.c4 (show Kd.M iA _ _ _ (⟨(⟨#[65,67,75]⟩:ByteArray),1,1,(⟨#[110,110,63,110]⟩:ByteArray)⟩:aC) [.string (⟨#[65,67,75]⟩:ByteArray),.int .i64 1,.int .i64 1,.string (⟨#[110,110,63,110]⟩:ByteArray)] from (l8 _ _ _ (⟨(⟨#[65,67,75]⟩:ByteArray),1,1,(⟨#[110,110,63,110]⟩:ByteArray)⟩:aC) )) (aQ.none _ _))));intro aI2 Nh QX hb hg_ hnew_;clear hg_ hnew_;(first|rw [← afO.out] at QX|(simp only [Int.reduceToNat] at QX;rw [← afO.out] at QX));have anx:=am (Kd.gU (Kd.mr QX (g:=iQ) (o:=.cells #[.string (⟨#[78,79,84]⟩:ByteArray),.int .i64 0,.int .i64 2,.string (⟨#[116]⟩:ByteArray)] 111 (0,0)) (ks dL)) (bC (bs HB)));replace dL:=am (aZ (g:=iQ) (o:=.cells #[.string (⟨#[78,79,84]⟩:ByteArray),.int .i64 0,.int .i64 2,.string (⟨#[116]⟩:ByteArray)] 111 (0,0)) (ks dL) hb);replace HB:=bq HB hb;clear hb QX))
         go_ret
         exact ⟨_,ff,by (with_reducible repeat (first|apply Kd.jW|apply Kd.jk|apply Kd.dY));exact Kd.dI anx.out (fun _ hk=>trivial),bs HB⟩
        ·intro c46 K8 Pf H;obtain rfl:=si H
         go_wp2
         go_ret
         exact ⟨_,ff,by first|exact Kd.qj _ _ _ _ _|exact Kd.uN _ _ _ _ _|exact Kd.uS _ _ _ _ _|exact Kd.uO _ _ _ _ _|exact Kd.qO _ _ _ _ _,bs HB⟩
theorem IL.calls (k:Nat) (a0:Int) (r:ByteArray) (w:World) (H:IL.f k a0=some r) :
  Calls Tryz.prog 80 #[.int .i64 a0] w fun e w'=>e=.returned (.string r)∧Below w.heap.size w w':=by
 have HB:=am (Below.refl w.heap.size w);unfold IL.f at H;replace H:=bo H;obtain ⟨t9,A2,H⟩:=H;obtain ⟨IQ,Qt⟩:∃ j_:Int,(wrap64 ((t9.length:Int) - 1))=j_:=⟨_,rfl⟩
 replace H:(if 0≤(IQ) then (if (IQ)<(t9.length:Int) then (some ((di t9 (IQ)).f0)) else (none)) else (none))=some r:=by first|(rw [Qt] at H;exact H)|(simp only [Qt] at H ⊢;exact H)
 (try rw [Qt] at A2)
 have aEx:(IntKind.i64.wrap ((t9.length:Int) - 1))=IQ:=(fu _).trans Qt
 by_cases c4:0≤(IQ)
 ·rw [if_pos c4] at H;have dS:decide (0≤(IQ))=true:=decide_eq_true c4;clear c4
  revert H;refine bu ?_
  intro kv H;obtain rfl:=si H
  go_in
  go_wp2_with (first|((go_at_call 83;(with_reducible refine (qV.calls k a0 t9 _ A2.out).mono ?_);rintro e w6 ⟨v11,rfl,ho0,hb⟩);have ae0:=am (Kd.gU ho0 (bC (bs HB)));replace HB:=bq HB hb;(try clear hb);(try clear ho0);obtain ⟨Ao7,co7,eo7⟩:=Kd.iy ae0.out;subst eo7;obtain ⟨p8,q8,ad8,e8,Iw,aH7,aH8,aH9⟩:=wi (yl (Kd.dU ae0.out).2.2 (IQ));cases e8))
  go_ret
  exact ⟨by first|rfl|(simp [ou,oz] <;> rfl)|(simp only [← Qt];first|rfl|(simp [ou,oz] <;> rfl))|(simp [*,ou,oz] <;> rfl),bs HB⟩
 ·rw [if_neg c4] at H
  exact absurd H (by simp)
theorem qy.calls (k:Nat) (a0:Int) (r:ByteArray) (w:World) (H:qy.f k a0=some r) :
  Calls Tryz.prog 110 #[.int .i64 a0] w fun e w'=>e=.returned (.string r)∧aT w w':=by
 unfold qy.f at H
 revert H;refine bL ?_ ?_
 ·intro gJ ja H;obtain rfl:=si H
  go_in
  go_wp2
  go_ret
  exact ⟨fg,dr⟩
 ·intro c2 gJ ja H;have uK:=am H;clear H
  go_in
  go_upto_if 6 with (fail)
  go_cut [6] (fun v6 wc=>∃ (kq:Nat) (nI:Bool),v6=.bool nI∧af (qy.j0 kq a0 nI=some r)∧af (kq≤k)∧aT w wc)
  case first =>
   have H:=uK.out;clear uK
   revert H;refine bL ?_ ?_
   ·intro dS kW H
    (first|rw [dS]|(simp only [fu,gy];rw [dS])|rw [kW]|skip)
    have H':=am H;clear H
    go_wp2
    go_meet
    case rel=>exact ⟨_,((a0 == 2)),fg,H',⟨fl⟩,by repeat (first|exact aT.refl _|apply aT.step)⟩
   ·intro c4 dS kW H
    (first|rw [dS]|(simp only [fu,gy];rw [dS])|rw [kW]|skip)
    have H':=am H;clear H
    go_wp2
    go_meet
    case rel=>exact ⟨_,((a0 == 4)),fg,H',⟨fl⟩,by repeat (first|exact aT.refl _|apply aT.step)⟩
  case rest =>
   clear uK
   try clear c2
   try clear gJ
   try clear ja
   obtain ⟨kq,nI,rfl,HA,HJ2,⟨mc2,rfl⟩⟩:=hcut
   cases kq with
   | zero=>exact absurd HA.out (by simp [qy.j0])
   | succ Dq =>
    have H:=HA.out;clear HA;simp only [qy.j0] at H
    obtain rfl|rfl:=bt nI
    ·replace H:=dE H;obtain rfl:=si H
     go_wp2
     go_ret
     exact ⟨fg,dr⟩
    ·replace H:=dD H
     revert H;refine bL ?_ ?_
     ·intro gQ pW H;obtain rfl:=si H
      go_wp2
      go_ret
      exact ⟨fg,dr⟩
     ·intro c6 gQ pW H
      revert H;refine bL ?_ ?_
      ·intro kJ yn H;obtain rfl:=si H
       go_wp2
       go_ret
       exact ⟨fg,dr⟩
      ·intro c7 kJ yn H
       revert H;refine bL ?_ ?_
       ·intro jR uU H;obtain rfl:=si H
        go_wp2
        go_ret
        exact ⟨fg,dr⟩
       ·intro c8 jR uU H
        revert H;refine bL ?_ ?_
        ·intro nk CE H;obtain rfl:=si H
         go_wp2
         go_ret
         exact ⟨fg,dr⟩
        ·intro c9 nk CE H;obtain rfl:=si H
         go_wp2
         go_ret
         exact ⟨fg,dr⟩
theorem xP.calls (a0:Int) (r:Bool) (w:World) (H:xP.f a0=some r) :
  Calls Tryz.prog 111 #[.int .i32 a0] w fun e w'=>e=.returned (.bool r)∧aT w w':=by
 unfold xP.f at H
 revert H;refine bL ?_ ?_
 ·intro gJ ja H;obtain rfl:=si H
  go_in
  go_wp2
  go_ret
  exact ⟨fg,dr⟩
 ·intro c2 gJ ja H;obtain rfl:=si H
  go_in
  go_wp2
  go_ret
  exact ⟨fg,dr⟩
end Go.Proofs.YtapilmimgiaglaaGreatDoor.QA
