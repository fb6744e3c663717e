import Derived.Test.YtapilmimgiaglaaGreatDoorKFnExactParcelIx14
set_option maxHeartbeats 8000000
set_option maxRecDepth 100000
set_option linter.unusedSimpArgs false
set_option linter.unusedVariables false
namespace Go.Proofs.YtapilmimgiaglaaGreatDoor.QX
open Go.RowKit Go.Proofs.bB.eH Go.Proofs.bB.PrintLast Go.Proofs.bB.PrintMore
attribute [local go_sem] oU o5 oZ o8 oW o7 oV o6
theorem fE.calls (k:Nat)(ag aj:ByteArray)(ak:Int)(dZ:Option Addr)(dW:Nat)(au:List dR)(r:Bool)(w:World)(jl:Kd.C pX w dZ au.length au)(jk:au.length≤dW)(H:fE.f k ag aj ak au=some r) :
  Calls Tryz.prog 18 #[.agg #[.string ag,.string aj,.int .i64 ak,.slice dZ au.length dW]] w fun e w'=>e=.returned (.bool r)∧Below w.heap.size w w':=by
 have U4:=Tryz.underlying35;have U5:=Tryz.underlying71;have U6:=Tryz.underlying73;have r9:=Tryz.underlying62;have oH:=am jl;have qw:=am jk;clear jl jk;have HB:=am (Below.refl w.heap.size w);unfold fE.f at H;have lY:=am H;clear H
 go_in
 go_upto_region 1 with (first|((with_reducible refine aJ (N:=1) rfl ?_);(try (refine jc (by rfl) ?_;dsimp only));refine bz 1 (cs:=#[.string ag,.string aj,.int .i64 ak,.slice dZ au.length dW]) (t:=35) HB ?_;clear HB;intro vE hg w3 eG Q6 hb HB;clear hb hg))
 (try simp only [Act.put,List.setIfInBounds_toArray,List.set_cons_zero,List.set_cons_succ])
 go_cut [35] (fun v35 wc=>∃ (kq:Nat) (abl:Bool),v35=.bool abl∧af (fE.j0 kq abl ag aj ak au=some r)∧af (kq≤k)∧af (wc.heap[vE]? = some (.cells #[.string ag,.string aj,.int .i64 ak,(.slice dZ au.length dW)] 35 (0,0)))∧af (Below w.heap.size w wc))
 case first =>
  have H:=lY.o;clear lY;replace H:=bo H;obtain ⟨t70,A4,H⟩:=H;have BQ:=aX eG
  try go_wp2_with (fail)
  go_at_call 36;refine (jQ.calls k ag t70 _ A4.o).mono ?_;rintro e w' ⟨rfl,⟨nd,rfl⟩⟩
  obtain rfl|rfl:=bt t70
  ·replace H:=dm H;replace H:=bo H;obtain ⟨t77,A7,H⟩:=H;have BU:=aX eG
   try go_wp2_with (fail)
   go_at_call 36;refine (jQ.calls k aj t77 _ A7.o).mono ?_;rintro e w' ⟨rfl,⟨nd,rfl⟩⟩
   obtain rfl|rfl:=bt t77
   ·replace H:=dm H;replace H:=bo H;obtain ⟨t78,ul,H⟩:=H;have zq:=aX eG
    try go_wp2_with (fail)
    go_at_call 37;refine (CB.calls ak t78 _ ul.o).mono ?_;rintro e w' ⟨rfl,⟨nd,rfl⟩⟩
    obtain rfl|rfl:=bt t78
    ·replace H:=dm H
     revert H;refine Ct ?_ ?_
     ·intro c13 mq H;have BG:decide (au.length<1)=true:=decide_eq_true (by omega);clear c13
      (first|rw [mq]|(simp only [fC,gK];rw [mq])|rw [BG]|skip)
      have H':=am H;clear H;have ad3:=aX eG
      go_wp2
      go_meet
      case rel=>exact ⟨_,(true),fg,H',⟨fl⟩,⟨ks eG⟩,⟨bs HB⟩⟩
     ·intro c13 mq H;have BG:decide (au.length<1)=false:=decide_eq_false (by omega);clear c13
      (first|rw [mq]|(simp only [fC,gK];rw [mq])|rw [BG]|skip)
      have H':=am H;clear H;have KO:=aX eG
      go_wp2
      go_meet
      case rel=>exact ⟨_,(decide ((au.length:Int)>5)),fg,H',⟨fl⟩,⟨ks eG⟩,⟨bs HB⟩⟩
    ·replace H:=di H;have H':=am H;clear H
     go_wp2
     go_meet
     case rel=>exact ⟨_,(true),fg,H',⟨fl⟩,⟨ks eG⟩,⟨bs HB⟩⟩
   ·replace H:=di H;have H':=am H;clear H
    go_wp2
    go_meet
    case rel=>exact ⟨_,(true),fg,H',⟨fl⟩,⟨ks eG⟩,⟨bs HB⟩⟩
  ·replace H:=di H;have H':=am H;clear H
   go_wp2
   go_meet
   case rel=>exact ⟨_,(true),fg,H',⟨fl⟩,⟨ks eG⟩,⟨bs HB⟩⟩
 case rest =>
  clear lY
  obtain ⟨kq,abl,rfl,HA,iL,eG,HB⟩:=hcut
  cases kq with
  | zero=>exact absurd HA.o (by simp [fE.j0])
  | succ mV =>
   have H:=HA.o;clear HA;simp only [fE.j0] at H
   obtain rfl|rfl:=bt abl
   ·replace H:=dm H;obtain rfl:=si H
    go_wp2
    go_ret
    exact ⟨ff,bs HB⟩
   ·replace H:=di H;have H':=am H;clear H
    go_wp2
    go_loopg [3] mV (fun kq v3 w'=>∃ (bF:Int),v3=.int .i64 bF∧af (fE.l0 kq bF ag aj ak au=some r)∧af (kq≤mV)∧af (w'.heap[vE]? = some (.cells #[.string ag,.string aj,.int .i64 ak,(.slice dZ au.length dW)] 35 (0,0)))∧af (Below w.heap.size w w'))
    case atStart=>exact ⟨(0),fg,H',⟨Nat.le_refl _⟩,⟨ks eG⟩,⟨bs HB⟩⟩
    case round =>
     clear H'
     try clear eG
     obtain ⟨bF,rfl,HA,dD,eG,HB⟩:=hrel
     cases gk with
     | zero=>exact absurd HA.o (by simp [fE.l0])
     | succ k2 =>
      have H:=HA.o;clear HA;simp only [fE.l0] at H
      revert H;refine bK ?_ ?_
      ·intro qD H
       revert H;refine bv ?_
       intro xk H;have abX:=am H;clear H;have Hw:=aX eG;obtain ⟨p16,q16,YC,ahh,Y8,e16,OZ,O0,O1,alk,akO⟩:=wi (zU oH.o bF)
       cases e16
       replace OZ:=cb HB OZ;replace O0:=cb HB O0;replace O1:=cb HB O1;have aqP:=am akO;have aDP:=am alk;clear akO alk
       go_upto_region 7 with (first|((with_reducible refine aJ (N:=4) rfl ?_);(try (refine jc (by rfl) ?_;dsimp only));refine bz 4 (cs:=#[.int .i64 0,.int .i64 0,.slice none 0 0]) (t:=71) HB ?_;clear HB;intro E8 hg CJ ig XP hb HB;have GI:=na hg eG;have Gz:=nc hg eG;replace eG:=bb eG hb;clear hb hg;have aex:=Gz.o;have aeD:=GI.o;have HV:=lH ig))
       (try simp only [Act.put,List.setIfInBounds_toArray,List.set_cons_zero,List.set_cons_succ])
       go_cut [73] (fun v73 wc=>∃ (kq:Nat) (abx:Bool),v73=.bool abx∧af (fE.j2 kq bF abx ag aj ak au ((bf au bF).f0) ((bf au bF).f1) ((bf au bF).f2)=some r)∧af (kq≤k2)∧af (wc.heap[vE]? = some (.cells #[.string ag,.string aj,.int .i64 ak,(.slice (some YC) au.length dW)] 35 (0,0)))∧af (wc.heap[E8]? = some (.cells #[.int .i64 ((bf au bF).f0),.int .i64 ((bf au bF).f1),(.slice ahh ((bf au bF).f2).length Y8)] 71 (0,0)))∧af (Below w.heap.size w wc))
       case first =>
        have H:=abX.o;clear abX
        revert H;refine bK ?_ ?_
        ·intro vZ H
         (first|rw [vZ]|(simp only [fC,gK];rw [vZ])|skip)
         have H':=am H;clear H;have al4:=Gz.o;have amf:=GI.o;have akA:=lH ig
         go_wp2
         go_meet
         case rel=>exact ⟨_,(true),fg,H',⟨by have:=iL.o;have:=dD.o;first|omega|exact Nat.le_refl _⟩,⟨ks eG⟩,⟨kp ig⟩,⟨bs HB⟩⟩
        ·intro vZ H
         (first|rw [vZ]|(simp only [fC,gK];rw [vZ])|skip)
         revert H;refine gT ?_ ?_
         ·intro yl H;have Kt:decide (7<((bf au bF).f0))=true:=decide_eq_true yl;clear yl;have H':=am H;clear H;have UF:=Gz.o;have UJ:=GI.o;have KR:=lH ig
          go_wp2
          go_meet
          case rel=>exact ⟨_,(true),fg,H',⟨by have:=iL.o;have:=dD.o;first|omega|exact Nat.le_refl _⟩,⟨ks eG⟩,⟨kp ig⟩,⟨bs HB⟩⟩
         ·intro yl H;have Kt:decide (7<((bf au bF).f0))=false:=decide_eq_false yl;clear yl;replace H:=bo H;obtain ⟨t79,A30,H⟩:=H;have UG:=Gz.o;have UK:=GI.o;have Tz:=lH ig
          try go_wp2_with (fail)
          go_at_call 37;refine (CB.calls ((bf au bF).f1) t79 _ A30.o).mono ?_;rintro e w' ⟨rfl,⟨nd,rfl⟩⟩
          obtain rfl|rfl:=bt t79
          ·replace H:=dm H
           revert H;refine Ct ?_ ?_
           ·intro c34 atM H;have atN:decide (((bf au bF).f2).length<1)=true:=decide_eq_true (by omega);clear c34;have H':=am H;clear H;have al7:=Gz.o;have ami:=GI.o;have Ou:=lH ig
            go_wp2
            go_meet
            case rel=>exact ⟨_,(true),fg,H',⟨by have:=iL.o;have:=dD.o;first|omega|exact Nat.le_refl _⟩,⟨ks eG⟩,⟨kp ig⟩,⟨bs HB⟩⟩
           ·intro c34 atM H;have atN:decide (((bf au bF).f2).length<1)=false:=decide_eq_false (by omega);clear c34;have H':=am H;clear H;have aeA:=Gz.o;have aeG:=GI.o;have KS:=lH ig
            go_wp2
            go_meet
            case rel=>exact ⟨_,(decide ((((bf au bF).f2).length:Int)>10)),fg,H',⟨by have:=iL.o;have:=dD.o;first|omega|exact Nat.le_refl _⟩,⟨ks eG⟩,⟨kp ig⟩,⟨bs HB⟩⟩
          ·replace H:=di H;have H':=am H;clear H
           go_wp2
           go_meet
           case rel=>exact ⟨_,(true),fg,H',⟨by have:=iL.o;have:=dD.o;first|omega|exact Nat.le_refl _⟩,⟨ks eG⟩,⟨kp ig⟩,⟨bs HB⟩⟩
       case rest =>
        clear abX
        try clear qD
        try clear xk
        try clear Hw
        try clear HV
        try clear OZ
        try clear O0
        try clear O1
        try clear p16
        try clear q16
        obtain ⟨kq,abx,rfl,HA,Gv,eG,ig,HB⟩:=hcut
        cases kq with
        | zero=>exact absurd HA.o (by simp [fE.j2])
        | succ am8 =>
         have H:=HA.o;clear HA;simp only [fE.j2] at H
         obtain rfl|rfl:=bt abx
         ·replace H:=dm H;obtain rfl:=si H
          go_wp2
          go_ret
          exact ⟨ff,bs HB⟩
         ·replace H:=di H;have H':=am H;clear H
          go_wp2
          go_loopg [5] am8 (fun kq v5 w'=>∃ (og:Int),v5=.int .i64 og∧af (fE.l1 kq bF og ag aj ak au ((bf au bF).f0) ((bf au bF).f1) ((bf au bF).f2)=some r)∧af (kq≤am8)∧af (w'.heap[vE]? = some (.cells #[.string ag,.string aj,.int .i64 ak,(.slice (some YC) au.length dW)] 35 (0,0)))∧af (w'.heap[E8]? = some (.cells #[.int .i64 ((bf au bF).f0),.int .i64 ((bf au bF).f1),(.slice ahh ((bf au bF).f2).length Y8)] 71 (0,0)))∧af (Below w.heap.size w w'))
          case atStart=>exact ⟨(0),fg,H',⟨Nat.le_refl _⟩,⟨ks eG⟩,⟨ks ig⟩,⟨bs HB⟩⟩
          case round =>
           clear H'
           try clear qD
           try clear xk
           try clear Hw
           try clear HV
           try clear OZ
           try clear O0
           try clear O1
           try clear p16
           try clear q16
           try clear eG
           try clear ig
           obtain ⟨og,rfl,HA,vU,eG,ig,HB⟩:=hrel
           cases gk with
           | zero=>exact absurd HA.o (by simp [fE.l1])
           | succ k4 =>
            have H:=HA.o;clear HA;simp only [fE.l1] at H
            revert H;refine bK ?_ ?_
            ·intro BH H
             revert H;refine bv ?_
             intro ajJ H;have ab4:=am H;clear H;have awT:=Gz.o;have axf:=GI.o;have aee:=lH ig;obtain ⟨p53,q53,ai8,ahi,ajK,e53,aak,aal,alz,ak1⟩:=wi (EM aqP.o og)
             cases e53
             replace aak:=cb HB aak;replace aal:=cb HB aal;have aia:=am ak1;have aDR:=am alz;clear ak1 alz
             go_upto_region 13 with (first|((with_reducible refine aJ (N:=6) rfl ?_);(try (refine jc (by rfl) ?_;dsimp only));refine bz 6 (cs:=#[.int .i64 0,.slice none 0 0]) (t:=73) HB ?_;clear HB;intro xn hg w45 bC abL hb HB;have NE:=na hg eG;have NB:=nc hg eG;replace eG:=bb eG hb;have Nw:=na hg ig;have NA:=nc hg ig;replace ig:=bb ig hb;clear hb hg;have awV:=NB.o;have axh:=NE.o;have al8:=NA.o;have amj:=Nw.o;have Ov:=fM bC))
             (try simp only [Act.put,List.setIfInBounds_toArray,List.set_cons_zero,List.set_cons_succ])
             go_cut [95] (fun v95 wc=>∃ (kq:Nat) (aby:Bool),v95=.bool aby∧af (fE.j4 kq bF og aby ag aj ak au ((bf au bF).f0) ((bf au bF).f1) ((bf au bF).f2) ((fJ ((bf au bF).f2) og).f0) ((fJ ((bf au bF).f2) og).f1)=some r)∧af (kq≤k4)∧af (wc.heap[vE]? = some (.cells #[.string ag,.string aj,.int .i64 ak,(.slice (some YC) au.length dW)] 35 (0,0)))∧af (wc.heap[E8]? = some (.cells #[.int .i64 ((bf au bF).f0),.int .i64 ((bf au bF).f1),(.slice (some ai8) ((bf au bF).f2).length Y8)] 71 (0,0)))∧af (wc.heap[xn]? = some (.cells #[.int .i64 ((fJ ((bf au bF).f2) og).f0),(.slice ahi ((fJ ((bf au bF).f2) og).f1).length ajK)] 73 (0,0)))∧af (Below w.heap.size w wc))
             case first =>
              have H:=ab4.o;clear ab4;replace H:=bo H;obtain ⟨t80,A49,H⟩:=H;have awW:=NB.o;have axi:=NE.o;have awX:=NA.o;have axj:=Nw.o;have av4:=fM bC
              try go_wp2_with (fail)
              go_at_call 37;refine (CB.calls ((fJ ((bf au bF).f2) og).f0) t80 _ A49.o).mono ?_;rintro e w' ⟨rfl,⟨nd,rfl⟩⟩
              obtain rfl|rfl:=bt t80
              ·replace H:=dm H;have H':=am H;clear H;have al9:=NB.o;have amk:=NE.o;have ama:=NA.o;have aml:=Nw.o;have TD:=fM bC
               go_wp2
               go_meet
               case rel=>exact ⟨_,(decide ((((fJ ((bf au bF).f2) og).f1).length:Int)>40)),fg,H',⟨by have:=iL.o;have:=dD.o;have:=Gv.o;have:=vU.o;first|omega|exact Nat.le_refl _⟩,⟨ks eG⟩,⟨ks ig⟩,⟨kp bC⟩,⟨bs HB⟩⟩
              ·replace H:=di H;have H':=am H;clear H
               go_wp2
               go_meet
               case rel=>exact ⟨_,(true),fg,H',⟨by have:=iL.o;have:=dD.o;have:=Gv.o;have:=vU.o;first|omega|exact Nat.le_refl _⟩,⟨ks eG⟩,⟨ks ig⟩,⟨kp bC⟩,⟨bs HB⟩⟩
             case rest =>
              clear ab4
              try clear qD
              try clear xk
              try clear BH
              try clear ajJ
              try clear Hw
              try clear HV
              try clear aee
              try clear Ov
              try clear OZ
              try clear O0
              try clear O1
              try clear aak
              try clear aal
              try clear p16
              try clear p53
              try clear q16
              try clear q53
              obtain ⟨kq,aby,rfl,HA,XZ,eG,ig,bC,HB⟩:=hcut
              cases kq with
              | zero=>exact absurd HA.o (by simp [fE.j4])
              | succ anb =>
               have H:=HA.o;clear HA;simp only [fE.j4] at H
               obtain rfl|rfl:=bt aby
               ·replace H:=dm H;obtain rfl:=si H
                go_wp2
                go_ret
                exact ⟨ff,bs HB⟩
               ·replace H:=di H;have H':=am H;clear H
                go_wp2
                go_loopg [7] anb (fun kq v7 w'=>∃ (Gn:Int),v7=.int .i64 Gn∧af (fE.l2 kq bF og Gn ag aj ak au ((bf au bF).f0) ((bf au bF).f1) ((bf au bF).f2) ((fJ ((bf au bF).f2) og).f0) ((fJ ((bf au bF).f2) og).f1)=some r)∧af (kq≤anb)∧af (w'.heap[vE]? = some (.cells #[.string ag,.string aj,.int .i64 ak,(.slice (some YC) au.length dW)] 35 (0,0)))∧af (w'.heap[E8]? = some (.cells #[.int .i64 ((bf au bF).f0),.int .i64 ((bf au bF).f1),(.slice (some ai8) ((bf au bF).f2).length Y8)] 71 (0,0)))∧af (w'.heap[xn]? = some (.cells #[.int .i64 ((fJ ((bf au bF).f2) og).f0),(.slice ahi ((fJ ((bf au bF).f2) og).f1).length ajK)] 73 (0,0)))∧af (Below w.heap.size w w'))
                case atStart=>exact ⟨(0),fg,H',⟨Nat.le_refl _⟩,⟨ks eG⟩,⟨ks ig⟩,⟨ks bC⟩,⟨bs HB⟩⟩
                case round =>
                 clear H'
                 try clear qD
                 try clear xk
                 try clear BH
                 try clear ajJ
                 try clear Hw
                 try clear HV
                 try clear aee
                 try clear Ov
                 try clear OZ
                 try clear O0
                 try clear O1
                 try clear aak
                 try clear aal
                 try clear p16
                 try clear p53
                 try clear q16
                 try clear q53
                 try clear eG
                 try clear ig
                 try clear bC
                 obtain ⟨Gn,rfl,HA,X6,eG,ig,bC,HB⟩:=hrel
                 cases gk with
                 | zero=>exact absurd HA.o (by simp [fE.l2])
                 | succ k6 =>
                  have H:=HA.o;clear HA;simp only [fE.l2] at H
                  revert H;refine bK ?_ ?_
                  ·intro Kw H
                   revert H;refine bv ?_
                   intro aEF H;replace H:=bo H;obtain ⟨zL,A60,H⟩:=H;have aJi:=NB.o;have aJ2:=NE.o;have amb:=NA.o;have amm:=Nw.o;have av5:=fM bC;obtain ⟨p57,q57,RV,aDc,aEE,e57,yA,amG,alA,ak2⟩:=wi (kN aia.o Gn)
                   cases e57
                   replace yA:=cb HB yA;replace amG:=cb HB amG;have aq2:=am ak2;have ap9:=am alA;clear ak2 alA
                   try go_wp2_with (fail)
                   go_at_call 33;refine (iZ.calls k6 ((av ((fJ ((bf au bF).f2) og).f1) Gn).f0) _ _ ((av ((fJ ((bf au bF).f2) og).f1) Gn).f1) zL _ (Kd.bi aq2.o (bs HB)) ap9.o A60.o).mono ?_;rintro e bP ⟨rfl,hb⟩;replace eG:=bb eG hb;replace ig:=bb ig hb;replace bC:=bb bC hb;replace HB:=bq HB hb;(try clear hb)
                   obtain rfl|rfl:=bt zL
                   ·replace H:=dm H;replace H:=bo H;obtain ⟨t82,A66,H⟩:=H;have aJn:=NB.o;have aJ7:=NE.o;have awZ:=NA.o;have axl:=Nw.o;have av6:=fM bC;obtain ⟨p65,PL,Kb,ahj,ajL,e65,pW,Ak,Ib,H7⟩:=wi (kN aia.o Gn);obtain rfl:RV=Kb:=(by injection e65);replace pW:=cb HB pW;replace Ak:=cb HB Ak;have Ye:=am H7;have ahO:=am Ib;clear H7 Ib
                    try go_wp2_with (fail)
                    go_at_call 38;refine (I5.calls ((av ((fJ ((bf au bF).f2) og).f1) Gn).f0) t82 _ A66.o).mono ?_;rintro e w' ⟨rfl,⟨nd,rfl⟩⟩
                    obtain rfl|rfl:=bt t82
                    ·replace H:=dm H;obtain rfl:=si H
                     go_wp2
                     go_ret
                     exact ⟨ff,bs HB⟩
                    ·replace H:=di H;have H':=am H;clear H
                     go_wp2
                     go_roundg k6
                     case measure=>have:=iL.o;have:=dD.o;have:=Gv.o;have:=vU.o;have:=XZ.o;have:=X6.o;omega
                     case rel=>exact ⟨(wrap64 (Gn+1)),fg,H',⟨by have:=iL.o;have:=dD.o;have:=Gv.o;have:=vU.o;have:=XZ.o;have:=X6.o;omega⟩,⟨ks eG⟩,⟨ks ig⟩,⟨ks bC⟩,⟨bs HB⟩⟩
                   ·replace H:=di H;obtain rfl:=si H
                    go_wp2
                    go_ret
                    exact ⟨ff,bs HB⟩
                  ·intro Kw H;have H':=am H;clear H;have aw0:=NB.o;have axm:=NE.o;have aw1:=NA.o;have axn:=Nw.o;have av9:=fM bC
                   go_wp2
                   go_roundg k6
                   case measure=>have:=iL.o;have:=dD.o;have:=Gv.o;have:=vU.o;have:=XZ.o;have:=X6.o;omega
                   case rel=>exact ⟨(wrap64 (og+1)),fg,H',⟨by have:=iL.o;have:=dD.o;have:=Gv.o;have:=vU.o;have:=XZ.o;have:=X6.o;omega⟩,⟨ks eG⟩,⟨ks ig⟩,⟨bs HB⟩⟩
            ·intro BH H;have H':=am H;clear H;have aw2:=Gz.o;have axo:=GI.o;have aGi:=lH ig
             go_wp2
             go_roundg k4
             case measure=>have:=iL.o;have:=dD.o;have:=Gv.o;have:=vU.o;omega
             case rel=>exact ⟨(wrap64 (bF+1)),fg,H',⟨by have:=iL.o;have:=dD.o;have:=Gv.o;have:=vU.o;omega⟩,⟨ks eG⟩,⟨bs HB⟩⟩
      ·intro qD H;obtain rfl:=si H;have aGj:=aX eG
       go_wp2
       go_ret
       exact ⟨ff,bs HB⟩
theorem sZ.calls (k:Nat)(ag aj:ByteArray)(ak:Int)(dZ:Option Addr)(dW:Nat)(au:List eT)(r:Bool)(w:World)(jl:Kd.C jG w dZ au.length au)(jk:au.length≤dW)(H:sZ.f k ag aj ak au=some r) :
  Calls Tryz.prog 6 #[.agg #[.string ag,.string aj,.int .i64 ak,.slice dZ au.length dW]] w fun e w'=>e=.returned (.bool r)∧Below w.heap.size w w':=by
 have U3:=Tryz.underlying29;have xq:=Tryz.underlying45;have oH:=am jl;have qw:=am jk;clear jl jk;have HB:=am (Below.refl w.heap.size w);unfold sZ.f at H
 revert H;refine gT ?_ ?_
 ·intro c2 H;have gQ:decide (50<(au.length:Int))=true:=decide_eq_true c2;have jE:decide (50<au.length)=true:=decide_eq_true (by omega);clear c2;obtain rfl:=si H
  go_in
  go_wp2_with (first|((with_reducible refine aJ (N:=1) rfl ?_);refine bz 1 (cs:=#[.string ag,.string aj,.int .i64 ak,.slice dZ au.length dW]) (t:=29) HB ?_;clear HB;intro Fa hg w3 jS ahE hb HB;clear hb hg;have ZO:=aX jS))
  go_ret
  exact ⟨ff,bs HB⟩
 ·intro c2 H;have gQ:decide (50<(au.length:Int))=false:=decide_eq_false c2;have jE:decide (50<au.length)=false:=decide_eq_false (by omega);clear c2;have H':=am H;clear H
  go_in
  go_wp2_with (first|((with_reducible refine aJ (N:=1) rfl ?_);refine bz 1 (cs:=#[.string ag,.string aj,.int .i64 ak,.slice dZ au.length dW]) (t:=29) HB ?_;clear HB;intro Fa hg w5 jS ahE hb HB;clear hb hg;have Dw:=aX jS))
  go_loopg [3] k (fun kq v3 w'=>∃ (dU:Int),v3=.int .i64 dU∧af (sZ.l0 kq dU ag aj ak au=some r)∧af (kq≤k)∧af (w'.heap[Fa]? = some (.cells #[.string ag,.string aj,.int .i64 ak,(.slice dZ au.length dW)] 29 (0,0)))∧af (Below w.heap.size w w'))
  case atStart=>exact ⟨(0),fg,H',⟨Nat.le_refl _⟩,⟨ks jS⟩,⟨bs HB⟩⟩
  case round =>
   clear H'
   try clear c2
   try clear gQ
   try clear jE
   try clear Dw
   try clear jS
   obtain ⟨dU,rfl,HA,aQ,jS,HB⟩:=hrel
   cases gk with
   | zero=>exact absurd HA.o (by simp [sZ.l0])
   | succ k1 =>
    have H:=HA.o;clear HA;simp only [sZ.l0] at H
    revert H;refine bK ?_ ?_
    ·intro kH H
     revert H;refine bv ?_
     intro kr H;replace H:=bo H;obtain ⟨t28,A9,H⟩:=H;have zo:=aX jS;obtain ⟨iO,iK,GV,aC2,aEt,aC3,aEu,e12,nO,K3,Ih,Z4,Z5,Z6,ali,akM,alj,akN⟩:=wi (EL oH.o dU)
     cases e12
     replace nO:=cb HB nO;replace K3:=cb HB K3;replace Ih:=cb HB Ih;replace Z4:=cb HB Z4;replace Z5:=cb HB Z5;replace Z6:=cb HB Z6;have aqN:=am akM;have apQ:=am ali;clear akM ali;have aqO:=am akN;have apR:=am alj;clear akN alj
     try go_wp2_with (fail)
     go_at_call 17;refine (kv.calls k1 ((aG au dU).f0) ((aG au dU).f1) ((aG au dU).f2) ((aG au dU).f3) _ _ ((aG au dU).f4) _ _ ((aG au dU).f5) t28 _ (Kd.bi aqN.o (bs HB)) apQ.o (Kd.bi aqO.o (bs HB)) apR.o A9.o).mono ?_;rintro e jY ⟨rfl,hb⟩;replace jS:=bb jS hb;replace HB:=bq HB hb;(try clear hb)
     obtain rfl|rfl:=bt t28
     ·replace H:=dm H;have H':=am H;clear H
      go_wp2
      go_roundg k1
      case measure=>have:=aQ.o;omega
      case rel=>exact ⟨(wrap64 (dU+1)),fg,H',⟨by have:=aQ.o;omega⟩,⟨ks jS⟩,⟨bs HB⟩⟩
     ·replace H:=di H;obtain rfl:=si H
      go_wp2
      go_ret
      exact ⟨ff,bs HB⟩
    ·intro kH H;replace H:=bo H;obtain ⟨⟨t22,t25,t26,t27⟩,vS,H⟩:=H;(try dsimp only at H);replace H:=bo H;obtain ⟨t30,Be,H⟩:=H;obtain rfl:=si H;have KO:=aX jS
     go_wp2_with (first|((go_at_call 19;refine (jq.calls k1 ag aj ak _ _ au t22 t25 t26 t27 _ (Kd.bi oH.o (bs HB)) qw.o vS.o).mono ?_;rintro e w16 ⟨v31,rfl,ho0,hb⟩);have Gw:=am (Kd.ic ho0 (bJ (bs HB)));replace jS:=bb jS hb;replace HB:=bq HB hb;(try clear hb);(try clear ho0);obtain ⟨En,EX,SX⟩:=Kd.gW Gw.o;subst SX)|((go_at_call 18;refine (fE.calls k1 t22 t25 t26 _ _ t27 t30 _ ?aR ?bg Be.o).mono ?_;(case aR=>exact sd (Kd.dH Gw.o).2.2);(case bg=>exact (Kd.dH Gw.o).2.1);rintro e xR ⟨rfl,hb⟩);replace Gw:=am (Kd.cu (rs Gw) hb);replace jS:=bb jS hb;replace HB:=bq HB hb;(try clear hb)))
     go_ret
     exact ⟨ff,bs HB⟩
theorem Ma.calls (k:Nat)(ag aj:ByteArray)(ak:Int)(dZ:Option Addr)(dW:Nat)(au:List eT)(r1 r2:ByteArray)(r3:Int)(r4:List dR)(w:World)(jl:Kd.C jG w dZ au.length au)(jk:au.length≤dW)(H:Ma.f k ag aj ak au=some (r1,r2,r3,r4)) :
  Calls Tryz.prog 10 #[.agg #[.string ag,.string aj,.int .i64 ak,.slice dZ au.length dW]] w fun e w'=>∃ tq:Value,e=.returned (.agg #[.string r1,.string r2,.int .i64 r3,tq])∧Kd.R pX 71 w' w.heap.size (fun _=>True) tq r4∧Below w.heap.size w w':=by
 have U3:=Tryz.underlying29;have U4:=Tryz.underlying35;have oH:=am jl;have qw:=am jk;clear jl jk;have HB:=am (Below.refl w.heap.size w);unfold Ma.f at H;replace H:=bo H;obtain ⟨t24,A2,H⟩:=H
 go_in
 try go_wp2_with (first|((with_reducible refine aJ (N:=1) rfl ?_);refine bz 1 (cs:=#[.string ag,.string aj,.int .i64 ak,.slice dZ au.length dW]) (t:=29) HB ?_;clear HB;intro ako hg w3 lL ahD hb HB;clear hb hg)|((with_reducible refine aJ (N:=2) rfl ?_);refine bz 2 (cs:=#[.string (⟨#[]⟩:ByteArray),.string (⟨#[]⟩:ByteArray),.int .i64 0,.slice none 0 0]) (t:=35) HB ?_;clear HB;intro gy hg w4 bR Bi hb HB;have ED:=na hg lL;have EC:=nc hg lL;replace lL:=bb lL hb;clear hb hg;have ZV:=ED.o;have ZX:=EC.o;have Dw:=aX lL))
 go_at_call 6;refine (sZ.calls k ag aj ak _ _ au t24 _ (Kd.bi oH.o (bs HB)) qw.o A2.o).mono ?_;rintro e w7 ⟨rfl,hb⟩;replace lL:=bb lL hb;replace bR:=bb bR hb;replace HB:=bq HB hb;(try clear hb)
 obtain rfl|rfl:=bt t24
 ·replace H:=dm H;replace H:=bo H;obtain ⟨⟨t20,t21,t22,t23⟩,A9,H⟩:=H;(try dsimp only at H);replace H:=F3 H;obtain ⟨rfl,rfl,rfl,rfl⟩:=H;have OE:=ED.o;have OG:=EC.o;have zq:=aX lL
  go_wp2_with (first|((go_at_call 19;refine (jq.calls k ag aj ak _ _ au t20 t21 t22 t23 _ (Kd.bi oH.o (bs HB)) qw.o A9.o).mono ?_;rintro e nZ ⟨v26,rfl,ho0,hb⟩);have ah1:=am (Kd.ic ho0 (bJ (bs HB)));replace lL:=bb lL hb;replace bR:=bb bR hb;replace HB:=bq HB hb;(try clear hb);(try clear ho0);have zY:=aX bR;obtain ⟨QU,SE,KF⟩:=Kd.gW ah1.o;subst KF))
  refine bodyPost_ret (results_cell_row rfl _ _ gy 35 #[.string t20,.string t21,.int .i64 t22,.slice QU t23.length SE] (0,0) _ rfl (kp bR) Tryz.underlying35 rfl (by kernel_rfl)) rfl ?_
  exact ⟨_,ff,Kd.dE (rf (Kd.mi ah1.o bR.o (by decide))) (fun _ hk=>trivial),bs HB⟩
 ·replace H:=di H;replace H:=F3 H;obtain ⟨rfl,rfl,rfl,rfl⟩:=H;have UE:=EC.o;have UI:=ED.o;have zt:=aX bR
  go_wp2
  refine bodyPost_ret (results_cell_row rfl _ _ gy 35 #[.string (⟨#[]⟩:ByteArray),.string (⟨#[]⟩:ByteArray),.int .i64 0,.slice none 0 0] (0,0) _ rfl (kp bR) Tryz.underlying35 rfl (by kernel_rfl)) rfl ?_
  exact ⟨_,ff,by first|exact Kd.rq _ _ _ _ _|exact Kd.uZ _ _ _ _ _|exact Kd.vk _ _ _ _ _|exact Kd.u6 _ _ _ _ _|exact Kd.rX _ _ _ _ _,bs HB⟩
theorem l9.calls (a0 a1 a2:Int)(r:Bool)(w:World)(H:l9.f a0 a1 a2=some r) :
  Calls Tryz.prog 41 #[.int .i64 a0,.int .i64 a1,.int .i64 a2] w fun e w'=>e=.returned (.bool r)∧aW w w':=by
 unfold l9.f at H
 revert H;refine bK ?_ ?_
 ·intro dF H;obtain rfl:=si H
  go_in
  go_wp2
  go_ret
  exact ⟨fg,dr⟩
 ·intro dF H;obtain rfl:=si H
  go_in
  go_wp2
  go_ret
  exact ⟨fg,dr⟩
theorem DL.calls (a0:Int)(r:Bool)(w:World)(H:DL.f a0=some r) :
  Calls Tryz.prog 77 #[.int .i64 a0] w fun e w'=>e=.returned (.bool r)∧aW w w':=by
 unfold DL.f at H;replace H:=bo H;obtain ⟨t1,A2,H⟩:=H;obtain rfl:=si H
 go_in
 go_wp2_with (first|((go_at_call 41;refine (l9.calls a0 2 4 t1 _ A2.o).mono ?_;rintro e w' ⟨rfl,⟨nd,rfl⟩⟩)))
 go_ret
 exact ⟨fg,dr⟩
def uz (w: World) : Prop := Lib.TabIs Tryz.prog w "internal/strconv.uint64pow10" .u64 Lib.pow10Tab
theorem uQ {w W:World}(h:af (uz w))(hb:Below w.heap.size w W):uz W:=Lib.tabBelow_of_tabIs h.o W hb
theorem PX.calls (a0 a1:Int)(r:ByteArray)(w:World)(hT:uz w)(h:PX.f a0 a1=some r) :
  Calls Tryz.prog 109 #[.int .i64 a0,.int .i64 a1] w fun e w'=>e=.returned (.string r)∧Below w.heap.size w w':=by
 unfold PX.f at h
 by_cases c1:a1=10
 ·rw [if_pos c1] at h
  by_cases c2 : -9223372036854775808≤a0
  ·rw [if_pos c2] at h
   by_cases c3:a0≤9223372036854775807
   ·rw [if_pos c3] at h
    obtain rfl:=Option.some.inj h;subst c1;refine (show Calls Tryz.prog 109 #[.int .i64 a0,.int .i64 10] w _ from Any.strconv_FormatInt_10 Tryz.anj a0 c2 c3 w hT).mono ?_;rintro e w' ⟨rfl,k,os,rfl⟩
    exact ⟨rfl,rfl,rfl,rfl,by simp,fun j hj=>by rw [Go.Sort.heap_grow_old _ _ (by simpa using hj)];rfl⟩
   ·rw [if_neg c3] at h;cases h
  ·rw [if_neg c2] at h;cases h
 ·rw [if_neg c1] at h;cases h
theorem yC.calls (a0:Int)(r:ByteArray)(w:World)(hTF:uz w)(H:yC.f a0=some r) :
  Calls Tryz.prog 79 #[.int .i64 a0] w fun e w'=>e=.returned (.string r)∧Below w.heap.size w w':=by
 have HTF:=am hTF;clear hTF
 have HB:=am (Below.refl w.heap.size w);unfold yC.f at H;replace H:=bo H;obtain ⟨t1,A2,H⟩:=H;obtain rfl:=si H
 go_in
 go_wp2_with (first|((go_at_call 109;refine (PX.calls a0 10 t1 _ (uQ HTF (bs HB)) A2.o).mono ?_;rintro e w3 ⟨rfl,hb⟩);replace HB:=bq HB hb;(try clear hb)))
 go_ret
 exact ⟨ff,bs HB⟩
theorem oC.calls (k:Nat)(a0:ByteArray)(A1:Option Addr)(c1:Nat)(l1:List ByteArray)(r1:ByteArray)(r2:List bN)(w:World)(hr1:Kd.C Kd.string w A1 l1.length l1)(hc1:l1.length≤c1)(H:oC.f k a0 l1=some (r1,r2)) :
  Calls Tryz.prog 78 #[.string a0,.slice A1 l1.length c1] w fun e w'=>∃ Ja:Value,e=.returned (.agg #[.string r1,Ja])∧Kd.S jO 97 w' w.heap.size (fun _=>True) Ja r2∧Below w.heap.size w w':=by
 have r9:=Tryz.underlying62;have Dy:=Tryz.underlying97;have HR1:=am hr1;have uY:=am hc1;clear hr1 hc1;have HB:=am (Below.refl w.heap.size w);unfold oC.f at H;have H':=am H;clear H
 go_in
 go_wp2_with (first|((with_reducible refine aJ (N:=4) rfl ?_);refine bz 4 (cs:=#[.string (⟨#[]⟩:ByteArray),.slice none 0 0]) (t:=62) HB ?_;clear HB;intro om hg w3 jr Eu hb HB;clear hb hg)|((with_reducible refine aJ (N:=5) rfl ?_);refine bz 5 (cs:=#[.string (⟨#[]⟩:ByteArray),.slice none 0 0]) (t:=62) HB ?_;clear HB;intro akp hg w4 xV aDE hb HB;have acK:=na hg jr;have acL:=nc hg jr;replace jr:=bb jr hb;clear hb hg;have ZV:=acL.o;have ZX:=acK.o;have Dw:=fM xV))
 go_loopg [12] k (fun kq v12 w'=>∃ (rH:Int) (Gd:List bN) (Qa:Value),v12=.int .i64 rH∧af (oC.l0 kq l1 (l1.length:Int) rH a0 Gd=some (r1,r2))∧af (kq≤k)∧af (Kd.S jO 97 w' w.heap.size (fun _=>True) Qa Gd)∧af (w'.heap[om]? = some (.cells #[.string (⟨#[]⟩:ByteArray),(.slice none 0 0)] 62 (0,0)))∧af (w'.heap[akp]? = some (.cells #[.string a0,Qa] 62 (0,0)))∧af (Below w.heap.size w w'))
 case atStart=>exact ⟨(0),(([]:List bN)),(.slice none 0 0),fg,H',⟨Nat.le_refl _⟩,⟨by first|exact Kd.rX _ _ _ _ _|exact Kd.uZ _ _ _ _ _|exact Kd.vk _ _ _ _ _|exact Kd.u6 _ _ _ _ _|exact Kd.rq _ _ _ _ _⟩,⟨ks jr⟩,⟨kp xV⟩,⟨bs HB⟩⟩
 case round =>
  clear H'
  try clear c1
  try clear Dw
  try clear jr
  try clear xV
  obtain ⟨rH,Gd,Qa,rfl,HA,aQ,C8,jr,xV,HB⟩:=hrel
  cases gk with
  | zero=>exact absurd HA.o (by simp [oC.l0])
  | succ k1 =>
   have H:=HA.o;clear HA;simp only [oC.l0] at H
   revert H;refine bK ?_ ?_
   ·intro kH H
    revert H;refine bv ?_
    intro kr H
    revert H;refine bv ?_
    intro nN H;obtain ⟨QL,afc⟩:∃ y_:List ByteArray,y_=(([bA ByteArray.empty l1 rH]:List ByteArray)):=⟨_,rfl⟩
    replace H:(if Gd.length<5864062014805 then (oC.l0 k1 l1 (l1.length:Int) (wrap64 (rH+1)) a0 (Gd++[(⟨QL⟩:bN)])) else none)=some (r1,r2):=ye afc H
    have aiA:=am afc;clear afc
    revert H;refine ku ?_
    intro c10 H;have acH:=am c10;clear c10;obtain ⟨y28,hy28⟩:∃ y_:List bN,y_=(Gd++[(⟨QL⟩:bN)]):=⟨_,rfl⟩
    replace H:(oC.l0 k1 l1 (l1.length:Int) (wrap64 (rH+1)) a0 y28)=some (r1,r2):=ye hy28 H
    have ar8:=am hy28;clear hy28;have H':=am H;clear H;obtain ⟨p27,q27,aEd,e27,amA⟩:=wi (Kd.jw HR1.o rH)
    cases e27
    replace amA:=cb HB amA;have awI:=acL.o;have aw4:=acK.o;have Fe:=fM xV
    go_wp2_with (first|((with_reducible refine aJ (N:=19) rfl ?_);refine rl Kd.string 9 (N:=19) (xs:=([bA ByteArray.empty l1 rH]:List ByteArray)) (inner:=[.string (bA ByteArray.empty l1 rH)]) ?hp ?_;(case hp=>exact (aV.one (show Kd.M Kd.string _ _ _ (bA ByteArray.empty l1 rH) [.string (bA ByteArray.empty l1 rH)] from rfl) (aV.none _ _)));intro v32 tC Ac hb hg_ hnew_;clear hg_ hnew_;(first|rw [← aiA.o] at Ac|(simp only [Int.reduceToNat] at Ac;rw [← aiA.o] at Ac));replace C8:=am (Kd.RJ (by (with_reducible repeat (first|apply Kd.iH|apply Kd.iJ|apply Kd.fU));exact C8.o) (Kd.qZ Ac) hb);have X8:=am (Kd.ic Ac (bJ (bs HB)));replace jr:=am (aU (ks jr) hb);replace xV:=am (aU (ks xV) hb);replace HB:=am (gP (bs HB) hb);clear hb Ac;obtain ⟨QV,SF,Zv⟩:=Kd.gW X8.o;subst Zv)|((with_reducible refine rY (b:=.append) (xs:=#[.tmp 17,.tmp 21]) rfl ?_);at_builtin;refine Kd.Yv jO (w0:=w) w.heap.size rfl (.tmp 17) (.tmp 21) 60 97 (.agg #[(.slice none 0 0)]) 24 rfl Tryz.underlying60 am2 rfl (by decide) (by omega) Qa Gd (⟨QL⟩:bN) [.slice QV QL.length SF] (fun _=>True) (fun k_=>some k_=(.slice QV QL.length SF:Value).ownBlock) rfl rfl ?aP (fun k_ hk_=>((Kd.dE (ok':=fun k_=>((fun _=>True)) k_∧some k_≠(Qa:Value).ownBlock) (Kd.GK (X8.o) (Kd.Bv C8.o) (by decide)) (fun k_ hk=>⟨trivial,hk.2⟩))).1 k_ hk_.symm) ?aF ?aO ?aB ?aS ?aL ?_;(case aP=>exact afP _ _ _ (⟨QL⟩:bN) (Kd.dE (Kd.Yr rfl (Kd.dE (ok':=fun k_=>((fun _=>True)) k_∧some k_≠(Qa:Value).ownBlock) (Kd.GK (X8.o) (Kd.Bv C8.o) (by decide)) (fun k_ hk=>⟨trivial,hk.2⟩))) (fun _ h_=>h_)));(case aB=>exact (bs HB));(case aF=>exact (fun _ _=>trivial));(case aO=>exact (by (with_reducible repeat (first|apply Kd.iH|apply Kd.iJ|apply Kd.fU));exact Kd.eF C8.o (fun k_ hk=>⟨trivial,fun e_=>hk.2 e_⟩)));(case aS=>exact (bJ (bs HB)));(case aL=>have:=acH.o;omega);intro v33 w16 ho hb hg hat;rw [← ar8.o] at ho;replace jr:=am (fV (ks jr) hg (Kd.EJ C8.o jr.o (by decide)));replace xV:=am (fV (ks xV) hg (Kd.EJ C8.o xV.o (by decide)));replace HB:=am (hb);have X9:=am (ho);clear C8;clear X8;clear ho hb hg hat;obtain ⟨En,EX,SX⟩:=Kd.ji X9.o;subst SX;have KQ:=fM xV))
    go_roundg k1
    case measure=>have:=aQ.o;omega
    case rel=>exact ⟨(wrap64 (rH+1)),(y28),(.slice En y28.length EX),fg,H',⟨by have:=aQ.o;omega⟩,⟨by (with_reducible repeat (first|apply Kd.iH|apply Kd.iJ|apply Kd.fU));exact Kd.eF (Kd.jv (p:=⟨akp,1,none⟩) (Kd.ze X9.o xV.o (by decide)) (fun _ hk=>hk.2) (.slice En y28.length EX)) (fun _ hk=>trivial)⟩,⟨ks jr⟩,⟨kp xV⟩,⟨bs HB⟩⟩
   ·intro kH H;replace H:=xI H;obtain ⟨rfl,rfl⟩:=H;have awM:=acL.o;have aw8:=acK.o;have Hw:=fM xV;have ad4:=fM jr;obtain ⟨ahq,ajT,avc⟩:=Kd.ji C8.o;subst avc
    go_wp2
    refine bodyPost_ret (results_cell_row rfl _ _ om 62 #[.string a0,.slice ahq Gd.length ajT] (0,0) _ rfl (kp jr) Tryz.underlying62 rfl (by kernel_rfl)) rfl ?_
    exact ⟨_,ff,by (with_reducible repeat (first|apply Kd.iH|apply Kd.iJ|apply Kd.fU));exact Kd.eF (Kd.jv (p:=⟨om,1,none⟩) (Kd.jv (p:=⟨om,0,none⟩) (Kd.ze C8.o jr.o (by decide)) (fun _ hk=>hk.2) (.string a0)) (fun _ hk=>hk.2) (.slice ahq Gd.length ajT)) (fun _ hk=>trivial),bs HB⟩
theorem uI.calls (a0 r1:ByteArray)(r2 r3:Int)(r4:ByteArray)(w:World)(H:uI.f a0=some (r1,r2,r3,r4)) :
  Calls Tryz.prog 114 #[.string a0] w fun e w'=>e=.returned (.agg #[.string r1,.int .i64 r2,.int .i64 r3,.string r4])∧Below w.heap.size w w':=by
 have ZZ:=Tryz.underlying111;have HB:=am (Below.refl w.heap.size w);unfold uI.f at H;replace H:=F3 H;obtain ⟨rfl,rfl,rfl,rfl⟩:=H
 go_in
 go_wp2_with (first|((with_reducible refine aJ (N:=2) rfl ?_);refine bz 2 (cs:=#[.string (⟨#[]⟩:ByteArray),.int .i64 0,.int .i64 0,.string (⟨#[]⟩:ByteArray)]) (t:=111) HB ?_;clear HB;intro Tm hg w2 um GW5 hb HB;clear hb hg;have Ty:=aX um))
 refine bodyPost_ret (results_cell_row rfl _ _ Tm 111 #[.string (⟨#[68,79,67]⟩:ByteArray),.int .i64 1,.int .i64 1,.string a0] (0,0) _ rfl (kp um) Tryz.underlying111 rfl (by kernel_rfl)) rfl ?_
 exact ⟨ff,bs HB⟩
theorem wD.calls (a0 a1 r1:ByteArray)(r2 r3:Int)(r4:ByteArray)(w:World)(H:wD.f a0 a1=some (r1,r2,r3,r4)) :
  Calls Tryz.prog 115 #[.string a0,.string a1] w fun e w'=>e=.returned (.agg #[.string r1,.int .i64 r2,.int .i64 r3,.string r4])∧Below w.heap.size w w':=by
 have ZZ:=Tryz.underlying111;have HB:=am (Below.refl w.heap.size w);unfold wD.f at H;replace H:=F3 H;obtain ⟨rfl,rfl,rfl,rfl⟩:=H
 go_in
 go_wp2_with (first|((with_reducible refine aJ (N:=4) rfl ?_);refine bz 4 (cs:=#[.string (⟨#[]⟩:ByteArray),.int .i64 0,.int .i64 0,.string (⟨#[]⟩:ByteArray)]) (t:=111) HB ?_;clear HB;intro Tm hg w3 um GW5 hb HB;clear hb hg;have ZO:=aX um))
 refine bodyPost_ret (results_cell_row rfl _ _ Tm 111 #[.string a0,.int .i64 1,.int .i64 20,.string a1] (0,0) _ rfl (kp um) Tryz.underlying111 rfl (by kernel_rfl)) rfl ?_
 exact ⟨ff,bs HB⟩
theorem Pg.calls (A0:Option Addr)(c0:Nat)(l0:List bn)(r:Bool)(w:World)(hr0:Kd.C kP w A0 l0.length l0)(hc0:l0.length≤c0)(H:Pg.f l0=some r) :
  Calls Tryz.prog 82 #[.slice A0 l0.length c0] w fun e w'=>e=.returned (.bool r)∧aW w w':=by
 have bG:=am hr0;have jC:=am hc0;clear hr0 hc0;unfold Pg.f at H;obtain rfl:=si H
 go_in
 go_wp2
 go_ret
 exact ⟨fg,dr⟩
def zS (w:World):Prop:=∃ m,w.cell? ⟨1,0,none⟩=some (.int .i64 m)
theorem zM {w W:World}(h:af (zS w))(hb:Below w.heap.size w W):zS W:=by
 obtain ⟨m,h0⟩:=h.o
 exact ⟨m,(hb.cell (World.block_lt_of_cell? w _ h0)).trans h0⟩
theorem strings_Cut.calls (a0 a1 r1 r2:ByteArray)(r3:Bool)(w:World)(hTC:zS w)(h:strings_Cut.f a0 a1=some (r1,r2,r3)) :
  Calls Tryz.prog 116 #[.string a0,.string a1] w fun e w'=>e=.returned (.tuple #[.string r1,.string r2,.bool r3])∧Below w.heap.size w w':=by
 unfold strings_Cut.f at h
 by_cases c1:a0.size<4294967281
 ·rw [if_pos c1] at h
  obtain ⟨rfl,rfl,rfl⟩:(⟨(Lib.cut a0.data.toList a1.data.toList).1.toArray⟩:ByteArray)=r1∧(⟨(Lib.cut a0.data.toList a1.data.toList).2.1.toArray⟩:ByteArray)=r2∧(Lib.cut a0.data.toList a1.data.toList).2.2=r3:=by simpa using h
  obtain ⟨m,hm⟩:=hTC;refine (show Calls Tryz.prog 116 #[.string a0,.string a1] w _ from Any.strings_Cut Tryz.ani a0 a1 m w c1 hm).mono ?_;rintro e w' ⟨rfl,k,rfl⟩
  exact ⟨rfl,jH (Below.refl _ _) k⟩
 ·rw [if_neg c1] at h;cases h
theorem strings_IndexByte.calls (a0:ByteArray)(a1 r:Int)(w:World)(h:strings_IndexByte.f a0 a1=some r) :
  Calls Tryz.prog 117 #[.string a0,.int .u8 a1] w fun e w'=>e=.returned (.int .i64 r)∧aW w w':=by
 obtain rfl:=Option.some.inj h;refine (show Calls Tryz.prog 117 #[.string a0,.int .u8 a1] w _ from Any.strings_IndexByte Tryz.anh a0 a1 w).mono ?_;rintro e w' ⟨rfl,rfl⟩
 exact ⟨rfl,aW.refl _⟩
theorem Pn.calls (a0:ByteArray)(r:Bool)(w:World)(H:Pn.f a0=some r) :
  Calls Tryz.prog 136 #[.string a0] w fun e w'=>e=.returned (.bool r)∧aW w w':=by
 unfold Pn.f at H;obtain rfl:=si H
 go_in
 go_wp2
 go_ret
 exact ⟨fg,dr⟩
theorem xK.calls (k:Nat)(A0:Option Addr)(c0:Nat)(l0:List ByteArray)  (r:Int) (w:World) (hr0:Kd.C Kd.string w A0 l0.length l0) (hc0:l0.length≤c0) (H:xK.f k l0=some r) :
  Calls Tryz.prog 154 #[.slice A0 l0.length c0,.func (.func 136) #[] #[]] w fun e w'=>e=.returned (.int .i64 r)∧aW w w':=by
 have bG:=am hr0;have jC:=am hc0;clear hr0 hc0;unfold xK.f at H;have H':=am H;clear H
 go_in
 go_wp2
 go_loopg [8] k (fun kq v8 w'=>∃ (aD:Int),v8=.int .i64 aD∧af (xK.l0 kq l0 (l0.length:Int) aD=some r)∧af (kq≤k)∧aW w w')
 case atStart=>exact ⟨(0),fg,H',⟨Nat.le_refl _⟩,by repeat (first|exact aW.refl _|apply aW.step)⟩
 case round =>
  clear H'
  obtain ⟨aD,rfl,HA,aQ,⟨m1,rfl⟩⟩:=hrel
  cases gk with
  | zero=>exact absurd HA.o (by simp [xK.l0])
  | succ k1 =>
   have H:=HA.o;clear HA;simp only [xK.l0] at H
   revert H;refine bK ?_ ?_
   ·intro aY H
    revert H;refine bv ?_
    intro dF H
    revert H;refine bv ?_
    intro ja H;replace H:=bo H;obtain ⟨t9,A6,H⟩:=H;obtain ⟨p7,q7,RY,e7,VY⟩:=wi (Kd.jw bG.o aD)
    cases e7
    try go_wp2_with (fail)
    go_at_call 136;refine (Pn.calls (bA ByteArray.empty l0 aD) t9 _ A6.o).mono ?_;rintro e w' ⟨rfl,⟨nd,rfl⟩⟩
    obtain rfl|rfl:=bt t9
    ·replace H:=dm H;obtain rfl:=si H
     go_wp2
     go_ret
     exact ⟨fg,dr⟩
    ·replace H:=di H;have H':=am H;clear H
     go_wp2
     go_roundg k1
     case measure=>have:=aQ.o;omega
     case rel=>exact ⟨(wrap64 (aD+1)),fg,H',⟨by have:=aQ.o;omega⟩,by repeat (first|exact aW.refl _|apply aW.step)⟩
   ·intro aY H;obtain rfl:=si H
    go_wp2
    go_ret
    exact ⟨fg,dr⟩
theorem PS.calls (k:Nat)(A0:Option Addr)(c0:Nat)(l0:List ByteArray)  (r:Bool) (w:World) (hr0:Kd.C Kd.string w A0 l0.length l0) (hc0:l0.length≤c0) (H:PS.f k l0=some r) :
  Calls Tryz.prog 135 #[.slice A0 l0.length c0,.func (.func 136) #[] #[]] w fun e w'=>e=.returned (.bool r)∧aW w w':=by
 have bG:=am hr0;have jC:=am hc0;clear hr0 hc0;unfold PS.f at H;replace H:=bo H;obtain ⟨t4,A3,H⟩:=H;obtain rfl:=si H
 go_in
 go_wp2_with (first|((go_at_call 154;refine (xK.calls k _ _ l0  t4 _ ?aR jC.o A3.o).mono ?_;(case aR=>exact sd bG.o);rintro e w' ⟨rfl,⟨nd,rfl⟩⟩)))
 go_ret
 exact ⟨fg,dr⟩
theorem FM.calls (k:Nat)(A0:Option Addr)(c0:Nat)(l0:List ByteArray)(r:Bool)(w:World)(hr0:Kd.C Kd.string w A0 l0.length l0)(hc0:l0.length≤c0)(H:FM.f k l0=some r) :
  Calls Tryz.prog 118 #[.slice A0 l0.length c0] w fun e w'=>e=.returned (.bool r)∧aW w w':=by
 have bG:=am hr0;have jC:=am hc0;clear hr0 hc0;unfold FM.f at H;replace H:=bo H;obtain ⟨t3,A2,H⟩:=H;obtain rfl:=si H
 go_in
 go_wp2_with (first|((go_at_call 135;refine (PS.calls k _ _ l0  t3 _ ?aR jC.o A2.o).mono ?_;(case aR=>exact sd bG.o);rintro e w' ⟨rfl,⟨nd,rfl⟩⟩)))
 go_ret
 exact ⟨fg,dr⟩
theorem zA.calls (a0:Int)(r:Bool)(w:World)(H:zA.f a0=some r) :
  Calls Tryz.prog 93 #[.int .u8 a0] w fun e w'=>e=.returned (.bool r)∧aW w w':=by
 unfold zA.f at H
 revert H;refine gT ?_ ?_
 ·intro c2 H;have gQ:decide (65≤a0)=true:=decide_eq_true c2;clear c2;obtain rfl:=si H
  go_in
  go_wp2
  go_ret
  exact ⟨fg,dr⟩
 ·intro c2 H;have gQ:decide (65≤a0)=false:=decide_eq_false c2;clear c2;obtain rfl:=si H
  go_in
  go_wp2
  go_ret
  exact ⟨fg,dr⟩
theorem FJ.calls (a0:Int)(r:Bool)(w:World)(H:FJ.f a0=some r) :
  Calls Tryz.prog 94 #[.int .u8 a0] w fun e w'=>e=.returned (.bool r)∧aW w w':=by
 unfold FJ.f at H
 revert H;refine gT ?_ ?_
 ·intro c2 H;have gQ:decide (48≤a0)=true:=decide_eq_true c2;clear c2;obtain rfl:=si H
  go_in
  go_wp2
  go_ret
  exact ⟨fg,dr⟩
 ·intro c2 H;have gQ:decide (48≤a0)=false:=decide_eq_false c2;clear c2;obtain rfl:=si H
  go_in
  go_wp2
  go_ret
  exact ⟨fg,dr⟩
theorem lD.calls (k:Nat)(a0:ByteArray)(r:Bool)(w:World)(H:lD.f k a0=some r) :
  Calls Tryz.prog 121 #[.string a0] w fun e w'=>e=.returned (.bool r)∧aW w w':=by
 unfold lD.f at H;have lY:=am H;clear H
 go_in
 go_upto_region 2 with (fail)
 go_cut [12] (fun v12 wc=>∃ (kq:Nat) (rH:Bool),v12=.bool rH∧af (lD.j0 kq a0 a0 rH=some r)∧af (kq≤k)∧aW w wc)
 case first =>
  have H:=lY.o;clear lY
  revert H;refine Ps ?_ ?_
  ·intro aY dS mP H
   (first|rw [aY]|simp only [mP,Bool.not_true,Bool.not_false]|rw [dS]|skip)
   have H':=am H;clear H
   go_wp2
   go_meet
   case rel=>exact ⟨_,(false),fg,H',⟨fl⟩,by repeat (first|exact aW.refl _|apply aW.step)⟩
  ·intro c3 aY dS mP H
   (first|rw [aY]|simp only [mP,Bool.not_true,Bool.not_false]|rw [dS]|skip)
   revert H;refine qO ?_
   intro c4 dF H;have kV:decide (0<a0.size)=true:=decide_eq_true (by omega);clear c4;have H':=am H;clear H;have p5:0≤(0:Int):=(by omega);have q5:0<a0.size:=(by have:(0:Int)<(a0.size:Int):=oa;omega);have hx5:∀ h:0<a0.size,((a0[0]'h).toNat:Int)=bt a0 0:=gX a0 0;clear p5;have qi5:(0<(a0.size:Int))=True:=eq_true (oa);replace q5:=eq_true q5
   go_wp2
   go_meet
   case rel=>exact ⟨_,(((bt a0 0) == 45)),fg,H',⟨fl⟩,by repeat (first|exact aW.refl _|apply aW.step)⟩
 case rest =>
  clear lY
  obtain ⟨kq,rH,rfl,HA,iL,⟨mc1,rfl⟩⟩:=hcut
  cases kq with
  | zero=>exact absurd HA.o (by simp [lD.j0])
  | succ mV =>
   have H:=HA.o;clear HA;simp only [lD.j0] at H;have JD:=am H;clear H
   go_upto_if 12 with (fail)
   go_cut [3] (fun v3 wc=>∃ (kq:Nat) (pE:ByteArray),v3=.string pE∧af (lD.j1 kq a0 pE=some r)∧af (kq≤mV)∧aW w wc)
   case first =>
    have H:=JD.o;clear JD
    obtain rfl|rfl:=bt rH
    ·replace H:=dm H
     revert H;refine ku ?_
     intro c8 H;have kr:=eq_true c8;have wo:decide (1≤(a0.size:Int))=true:=decide_eq_true c8;clear c8;have H':=am H;clear H
     go_wp2
     go_meet
     case rel=>exact ⟨_,(a0.extract 1 a0.size),fg,H',⟨by have:=iL.o;first|omega|exact Nat.le_refl _⟩,by repeat (first|exact aW.refl _|apply aW.step)⟩
    ·replace H:=di H;have H':=am H;clear H
     go_wp2
     go_meet
     case rel=>exact ⟨_,(a0),fg,H',⟨by have:=iL.o;first|omega|exact Nat.le_refl _⟩,by repeat (first|exact aW.refl _|apply aW.step)⟩
   case rest =>
    clear JD
    obtain ⟨kq,pE,rfl,HA,JF,⟨mc5,rfl⟩⟩:=hcut
    cases kq with
    | zero=>exact absurd HA.o (by simp [lD.j1])
    | succ kj5 =>
     have H:=HA.o;clear HA;simp only [lD.j1] at H;have H':=am H;clear H
     go_wp2
     go_loopg [17] kj5 (fun kq v17 w'=>∃ (Jh:Int),v17=.int .i64 Jh∧af (lD.l0 kq a0 pE (pE.size:Int) Jh=some r)∧af (kq≤kj5)∧aW w w')
     case atStart=>exact ⟨(0),fg,H',⟨Nat.le_refl _⟩,by repeat (first|exact aW.refl _|apply aW.step)⟩
     case round =>
      clear H'
      obtain ⟨Jh,rfl,HA,rU,⟨m3,rfl⟩⟩:=hrel
      cases gk with
      | zero=>exact absurd HA.o (by simp [lD.l0])
      | succ k3 =>
       have H:=HA.o;clear HA;simp only [lD.l0] at H
       revert H;refine bK ?_ ?_
       ·intro nN H
        revert H;refine bv ?_
        intro zi H
        revert H;refine bv ?_
        intro xh H;replace H:=bo H;obtain ⟨t7,vS,H⟩:=H;have iO:0≤(Jh:Int):=oa;have iK:Jh<(pE.size:Int):=oa;have yw:=gX pE Jh;replace iO:=eq_true iO;replace iK:=eq_true iK
        try go_wp2_with (fail)
        go_at_call 94;refine (FJ.calls (bt pE Jh) t7 _ vS.o).mono ?_;rintro e w' ⟨rfl,⟨nd,rfl⟩⟩
        obtain rfl|rfl:=bt t7
        ·replace H:=dm H;have H':=am H;clear H
         go_wp2
         go_roundg k3
         case measure=>have:=iL.o;have:=JF.o;have:=rU.o;omega
         case rel=>exact ⟨(wrap64 (Jh+1)),fg,H',⟨by have:=iL.o;have:=JF.o;have:=rU.o;omega⟩,by repeat (first|exact aW.refl _|apply aW.step)⟩
        ·replace H:=di H;obtain rfl:=si H
         go_wp2
         go_ret
         exact ⟨fg,dr⟩
       ·intro nN H
        revert H;refine Ps ?_ ?_
        ·intro vX Kq atA H;obtain rfl:=si H
         go_wp2
         go_ret
         exact ⟨fg,dr⟩
        ·intro c15 vX Kq atA H
         by_cases c16:0<(pE.size:Int)
         ·rw [if_pos c16] at H;have yj:decide (0<(pE.size:Int))=true:=decide_eq_true c16;have Y9:decide (0<pE.size)=true:=decide_eq_true (by omega);clear c16
          revert H;refine bH ?_ ?_
          ·intro xk Sd H;obtain rfl:=si H;have p17:0≤(0:Int):=(by omega);have Wq:0<pE.size:=(by have:(0:Int)<(pE.size:Int):=oa;omega);have axD:∀ h:0<pE.size,((pE[0]'h).toNat:Int)=bt pE 0:=gX pE 0;clear p17;have azu:(0<(pE.size:Int))=True:=eq_true (oa);replace Wq:=eq_true Wq
           go_wp2
           go_ret
           exact ⟨fg,dr⟩
          ·intro c18 xk Sd H;obtain rfl:=si H;have p17:0≤(0:Int):=(by omega);have Wq:0<pE.size:=(by have:(0:Int)<(pE.size:Int):=oa;omega);have axD:∀ h:0<pE.size,((pE[0]'h).toNat:Int)=bt pE 0:=gX pE 0;clear p17;have azu:(0<(pE.size:Int))=True:=eq_true (oa);replace Wq:=eq_true Wq
           go_wp2
           go_ret
           exact ⟨fg,dr⟩
         ·rw [if_neg c16] at H
          exact absurd H (by simp)
def vW (w:World):Prop:=(∃ ev,w.cell? ⟨2,0,none⟩=some ev∧(ev=.nilIface∨∃ te pe,ev=.iface te pe))∧∃ ev,w.cell? ⟨3,0,none⟩=some ev∧(ev=.nilIface∨∃ te pe,ev=.iface te pe)
theorem pq {w W:World}(h:af (vW w))(hb:Below w.heap.size w W):vW W:=by
 obtain ⟨⟨e0,h0,g0⟩,e1,h1,g1⟩:=h.o
 exact ⟨⟨e0,(hb.cell (World.block_lt_of_cell? w _ h0)).trans h0,g0⟩,e1,(hb.cell (World.block_lt_of_cell? w _ h1)).trans h1,g1⟩
theorem oz.calls (k:Nat)(a0:ByteArray)(a1 a2 r1:Int)(r2:Bool)(w:World)(hTP:vW w)(h:oz.f k a0 a1 a2=some (r1,r2)) :
  Calls Tryz.prog 87 #[.string a0,.int .i64 a1,.int .i64 a2] w fun e w'=>e=.returned (.tuple #[.int .i64 r1,.bool r2])∧Below w.heap.size w w':=by
 unfold oz.f at h
 by_cases c1:a0.size≤281474976710656
 ·rw [if_pos c1] at h
  obtain ⟨⟨e0,g0,t0⟩,e1,g1,t1⟩:=hTP
  cases hp:Lib.parseIntB 64 a0.data.toList with
  | ok v =>
   simp only [hp] at h
   obtain ⟨b,hb,h⟩:=Option.bind_eq_some_iff.mp h;have A1:=am hb;clear hb
   cases b with
   | true =>
    simp only [if_true] at h
    obtain ⟨c,hc,h⟩:=Option.bind_eq_some_iff.mp h;have A2:=am hc;clear hc;obtain ⟨rfl,rfl⟩:=Prod.mk.inj (Option.some.inj h);clear h
    go_in
    go_wp2_with (go_at_call 120;refine (Any.strconv_ParseInt_10_at64_ok Tryz.LH a0 (by omega) _ hp _).mono ?_;rintro e W1 ⟨rfl,hw⟩)
    have HB:af (Below w.heap.size w W1):=⟨hw.elim (fun e_=>by rw [e_];exact Below.refl _ _) (fun ⟨t_,e_⟩=>by rw [e_];exact Lib.bytesWorld_below _ _ _)⟩;clear hw
    go_wp2_with (go_at_call 121;refine (lD.calls k a0 true _ A1.o).mono ?_;rintro e W2 ⟨rfl,hd⟩;replace HB:=am (gP HB.o hd.below))
    go_wp2_with (go_at_call 41;refine (l9.calls _ a1 a2 _ _ A2.o).mono ?_;rintro e W3 ⟨rfl,hd⟩;replace HB:=am (gP HB.o hd.below))
    go_ret2
    exact ⟨rfl,HB.o⟩
   | false =>
    simp only [Bool.false_eq_true,if_false] at h
    obtain ⟨rfl,rfl⟩:=Prod.mk.inj (Option.some.inj h);clear h
    go_in
    go_wp2_with (go_at_call 120;refine (Any.strconv_ParseInt_10_at64_ok Tryz.LH a0 (by omega) _ hp _).mono ?_;rintro e W1 ⟨rfl,hw⟩)
    have HB:af (Below w.heap.size w W1):=⟨hw.elim (fun e_=>by rw [e_];exact Below.refl _ _) (fun ⟨t_,e_⟩=>by rw [e_];exact Lib.bytesWorld_below _ _ _)⟩;clear hw
    go_wp2_with (go_at_call 121;refine (lD.calls k a0 false _ A1.o).mono ?_;rintro e W2 ⟨rfl,hd⟩;replace HB:=am (gP HB.o hd.below))
    go_ret2
    exact ⟨rfl,HB.o⟩
  | «syntax» =>
   simp only [hp] at h
   obtain ⟨rfl,rfl⟩:=Prod.mk.inj (Option.some.inj h);clear h
   go_in
   go_wp2_with (go_at_call 120;refine (Any.strconv_ParseInt_10_at64_syntax Tryz.LH a0 c1 hp e0 _ ?_ t0).mono ?_)
   ·exact g0
   rintro e W1 ⟨N,rfl,-,-,hb⟩
   go_wp2
   go_ret2
   exact ⟨rfl,hb⟩
  | range =>
   simp only [hp] at h
   obtain ⟨rfl,rfl⟩:=Prod.mk.inj (Option.some.inj h);clear h
   go_in
   go_wp2_with (go_at_call 120;refine (Any.strconv_ParseInt_10_at64_range Tryz.LH a0 c1 hp e1 _ ?_ t1).mono ?_)
   ·exact g1
   rintro e W1 ⟨N,rfl,-,-,hb⟩
   go_wp2
   go_ret2
   exact ⟨rfl,hb⟩
 ·rw [if_neg c1] at h;cases h
theorem xE.calls (k:Nat)(a0:ByteArray)(r:Bool)(w:World)(H:xE.f k a0=some r) :
  Calls Tryz.prog 155 #[.string a0] w fun e w'=>e=.returned (.bool r)∧aW w w':=by
 unfold xE.f at H;have H':=am H;clear H
 go_in
 go_wp2
 go_loopg [6] k (fun kq v6 w'=>∃ (dP:Int),v6=.int .i64 dP∧af (xE.l0 kq a0 (a0.size:Int) dP=some r)∧af (kq≤k)∧aW w w')
 case atStart=>exact ⟨(0),fg,H',⟨Nat.le_refl _⟩,by repeat (first|exact aW.refl _|apply aW.step)⟩
 case round =>
  clear H'
  obtain ⟨dP,rfl,HA,aQ,⟨m1,rfl⟩⟩:=hrel
  cases gk with
  | zero=>exact absurd HA.o (by simp [xE.l0])
  | succ k1 =>
   have H:=HA.o;clear HA;simp only [xE.l0] at H
   revert H;refine bK ?_ ?_
   ·intro gQ H
    revert H;refine bv ?_
    intro aY H
    revert H;refine bv ?_
    intro dF H
    revert H;refine bK ?_ ?_
    ·intro gu H;obtain rfl:=si H;have p5:0≤(dP:Int):=oa;have q5:dP<(a0.size:Int):=oa;have hx5:=gX a0 dP;replace p5:=eq_true p5;replace q5:=eq_true q5
     go_wp2
     go_ret
     exact ⟨fg,dr⟩
    ·intro gu H
     revert H;refine gT ?_ ?_
     ·intro c8 H;have kr:decide (126<(bt a0 dP))=true:=decide_eq_true c8;clear c8;obtain rfl:=si H;have p5:0≤(dP:Int):=oa;have q5:dP<(a0.size:Int):=oa;have hx5:=gX a0 dP;replace p5:=eq_true p5;replace q5:=eq_true q5;have p7:0≤(dP:Int):=oa;have q7:dP<(a0.size:Int):=oa;have hx7:=gX a0 dP;replace p7:=eq_true p7;replace q7:=eq_true q7
      go_wp2
      go_ret
      exact ⟨fg,dr⟩
     ·intro c8 H;have kr:decide (126<(bt a0 dP))=false:=decide_eq_false c8;clear c8;have H':=am H;clear H;have p5:0≤(dP:Int):=oa;have q5:dP<(a0.size:Int):=oa;have hx5:=gX a0 dP;replace p5:=eq_true p5;replace q5:=eq_true q5;have p7:0≤(dP:Int):=oa;have q7:dP<(a0.size:Int):=oa;have hx7:=gX a0 dP;replace p7:=eq_true p7;replace q7:=eq_true q7
      go_wp2
      go_roundg k1
      case measure=>have:=aQ.o;omega
      case rel=>exact ⟨(wrap64 (dP+1)),fg,H',⟨by have:=aQ.o;omega⟩,by repeat (first|exact aW.refl _|apply aW.step)⟩
   ·intro gQ H;obtain rfl:=si H
    go_wp2
    go_ret
    exact ⟨fg,dr⟩
theorem FL.calls (k:Nat)(a0:ByteArray)(r:Bool)(w:World)(H:FL.f k a0=some r) :
  Calls Tryz.prog 137 #[.string a0] w fun e w'=>e=.returned (.bool r)∧aW w w':=by
 unfold FL.f at H
 revert H;refine Ct ?_ ?_
 ·intro c2 gQ H;have jE:decide (a0.size≤40)=true:=decide_eq_true (by omega);clear c2;replace H:=bo H;obtain ⟨t4,A3,H⟩:=H;obtain rfl:=si H
  go_in
  go_wp2_with (first|(go_at_call 155;refine (xE.calls k a0 t4 _ A3.o).mono ?_;rintro e w' ⟨rfl,⟨nd,rfl⟩⟩))
  go_ret
  exact ⟨fg,dr⟩
 ·intro c2 gQ H;have jE:decide (a0.size≤40)=false:=decide_eq_false (by omega);clear c2;obtain rfl:=si H
  go_in
  go_wp2
  go_ret
  exact ⟨fg,dr⟩
end Go.Proofs.YtapilmimgiaglaaGreatDoor.QX
