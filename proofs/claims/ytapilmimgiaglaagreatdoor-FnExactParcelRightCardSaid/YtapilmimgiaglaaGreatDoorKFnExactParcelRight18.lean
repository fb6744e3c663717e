-- Merged by a program of this session (wip/tool/pack.py) out of its own texts for this claim.
import Derived.Test.YtapilmimgiaglaaGreatDoorKFnExactParcelRight17
set_option maxHeartbeats 8000000
set_option maxRecDepth 100000
set_option linter.unusedSimpArgs false
set_option linter.unusedVariables false
namespace Go.Proofs.YtapilmimgiaglaaGreatDoor.QA
open Go.RowKit Go.Proofs.bB.fA Go.Proofs.bB.PrintLast Go.Proofs.bB.PrintMore
attribute [local go_sem] o6 pg o9 pE o8 pz o7 pq   -- for this text's walks alone
theorem qU.calls (k:Nat) (a0:Int) (a1:ByteArray) (A1:Option Addr) (c1:Nat) (l1:List (dw)) (r1:Int) (r2:ByteArray) (r3 r4:Int) (r5:ByteArray) (w:World) (hr1:Kd.C lG w A1 l1.length l1) (hc1:l1.length≤c1) (hTP:uR w) (h:qU.f k a0 a1 l1=some (r1,r2,r3,r4,r5)) :
  Calls Tryz.prog 88 #[.int .i64 a0,.agg #[.string a1,.slice A1 l1.length c1]] w fun e w'=>e=.returned (.agg #[.int .i64 r1,.string r2,.int .i64 r3,.int .i64 r4,.string r5])∧Below w.heap.size w w':=by
 have HTP:=am hTP;clear hTP;have hu:=Tryz.underlying95;have hu9:=Tryz.underlying9;have husg:=Tryz.underlying62;have huel:=Tryz.underlying97;have HB:=am (Below.refl w.heap.size w);have HR1:=am hr1;have xc:=am hc1;clear hr1 hc1;obtain ⟨s,D1,H⟩:=Option.bind_eq_some_iff.mp (show (qy.f k a0).bind (fun s=>qU.l0 k l1 s.data.toList 0 0 (⟨#[]⟩:ByteArray) 0 0 (⟨#[]⟩:ByteArray))=some (r1,r2,r3,r4,r5) from h);clear h;replace D1:=am D1;replace H:=am H
 go_in
 go_wp2_with (first|((with_reducible refine aN (N:=3) rfl ?_);refine bx 3 (cs:=#[.string a1,.slice A1 l1.length c1]) (t:=62) ?_;intro gb hg w3 hbox hb;have BK:=am (hbox);have GE:=am ((gs hg (bs HB)));replace HB:=bq HB hb;clear hb hbox hg)|((with_reducible refine aN (N:=4) rfl ?_);refine bx 4 (cs:=#[.int .i64 0,.string (⟨#[]⟩:ByteArray),.int .i64 0,.int .i64 0,.string (⟨#[]⟩:ByteArray)]) (t:=95) ?_;intro gr hg w4 hbox hb;have BR:=am (hbox);have GR:=am ((gs hg (bs HB)));replace HB:=bq HB hb;have N1:=am ((gn hg (ks BK)));have N1':=am ((gm hg (ks BK)));replace BK:=am (aZ (ks BK) hb);clear hb hbox hg)|((with_reducible refine aN (N:=5) rfl ?_);refine bx 5 (cs:=#[.int .i64 0,.string (⟨#[]⟩:ByteArray),.int .i64 0,.int .i64 0,.string (⟨#[]⟩:ByteArray)]) (t:=95) ?_;intro gl hg w5 hbox hb;have BL:=am (hbox);have GL:=am ((gs hg (bs HB)));replace HB:=bq HB hb;have N2:=am ((gn hg (ks BK)));have N2':=am ((gm hg (ks BK)));have N3:=am ((gn hg (ks BR)));have N3':=am ((gm hg (ks BR)));replace BK:=am (aZ (ks BK) hb);replace BR:=am (aZ (ks BR) hb);clear hb hbox hg;have hcz:=jY BL)|(go_at_call 110;(with_reducible refine (qy.calls k a0 s _ D1.out).mono ?_);rintro e w' ⟨rfl,⟨nd,rfl⟩⟩))
 clear hcz;generalize hW:((((w5.setCell ⟨gl,0,none⟩ (.int .i64 0)).setCell ⟨gl,1,none⟩ (.string (⟨#[]⟩:ByteArray))).setCell ⟨gl,2,none⟩ (.int .i64 0)).setCell ⟨gl,3,none⟩ (.int .i64 0)).setCell ⟨gl,4,none⟩ (.string (⟨#[]⟩:ByteArray))=W0
 have hsz:W0.heap.size=w5.heap.size:=by rw [← hW];simp
 replace HB:=am (show Below w.heap.size w W0 by rw [← hW];exact bs HB);replace BL:=am (show W0.heap[gl]? = some (.cells #[.int .i64 0,.string (⟨#[]⟩:ByteArray),.int .i64 0,.int .i64 0,.string (⟨#[]⟩:ByteArray)] 95 (0,0)) by rw [← hW];exact kp BL);replace BR:=am (show W0.heap[gr]? = some (.cells #[.int .i64 0,.string (⟨#[]⟩:ByteArray),.int .i64 0,.int .i64 0,.string (⟨#[]⟩:ByteArray)] 95 (0,0)) by rw [← hW];exact ks BR);replace BK:=am (show W0.heap[gb]? = some (.cells #[.string a1,.slice A1 l1.length c1] 62 (0,0)) by rw [← hW];exact ks BK);clear hW
 have hit:((W0.drewN nd).iter s 0).heap[w5.heap.size]? = some (.stringIter s 0):=by rw [← hsz];exact World.iter_heap (W0.drewN nd) s 0
 have hge:w.heap.size≤w5.heap.size:=by rw [← hsz];exact HB.out.size
 replace BL:=am (show ((W0.drewN nd).iter s 0).heap[gl]? = _ from eu (lw BL.out _) _);replace BR:=am (show ((W0.drewN nd).iter s 0).heap[gr]? = _ from eu (lw BR.out _) _);replace BK:=am (show ((W0.drewN nd).iter s 0).heap[gb]? = _ from eu (lw BK.out _) _);replace HB:=am (show Below w.heap.size w ((W0.drewN nd).iter s 0) from by show Below w.heap.size w ((W0.drewN nd).alloc (.stringIter s 0));exact bs HB)
 generalize (W0.drewN nd).iter s 0=W at hit BL BR BK HB ⊢
 generalize w5.heap.size=kb at hit hge ⊢
 clear hsz
 go_loopg [] s.size (fun gk wx=>∃ (p:Nat) (f0:Int) (f1:ByteArray) (f2 f3:Int) (f4:ByteArray),af (qU.l0 k l1 (s.data.toList.drop p) p f0 f1 f2 f3 f4=some (r1,r2,r3,r4,r5))∧af (s.size≤p+gk)∧af (wx.heap[kb]? = some (.stringIter s p))∧af (wx.heap[gb]? = some (.cells #[.string a1,.slice A1 l1.length c1] 62 (0,0)))∧af (wx.heap[gr]? = some (.cells #[.int .i64 0,.string (⟨#[]⟩:ByteArray),.int .i64 0,.int .i64 0,.string (⟨#[]⟩:ByteArray)] 95 (0,0)))∧af (wx.heap[gl]? = some (.cells #[.int .i64 f0,.string f1,.int .i64 f2,.int .i64 f3,.string f4] 95 (0,0)))∧af (Below w.heap.size w wx))
 case atStart=>exact ⟨0,_,_,_,_,_,H,⟨by omega⟩,⟨hit⟩,BK,BR,BL,HB⟩
 case round =>
  clear H BL BR BK HB hit;obtain ⟨p,f0,f1,f2,f3,f4,H,HG,hit,BK,BR,BL,HB⟩:=hrel
  cases hd:s.data.toList.drop p with
  | nil =>
   have hp:¬ p<s.size:=by have:=congrArg List.length hd;rw [List.length_drop,List.length_nil,show s.data.toList.length=s.size from rfl] at this;omega
   replace H:=H.out;rw [hd] at H;replace H:=FQ H;obtain ⟨rfl,rfl,rfl,rfl,rfl⟩:=H
   have hnx:∀ ty,(Instr.next (.pointer (some ⟨kb,0,none⟩)) true ty).run Tryz.prog wr=_:=fun ty=>Lib.run_next_end_at wr kb s p ty hit.out hp
   have hcl:=jY BL;have hcr:=jY BR;have hne:=N3.out;have hne':=N3'.out
   go_wp2
   refine bodyPost_ret (results_cell_row rfl _ _ gr 95 #[.int .i64 f0,.string f1,.int .i64 f2,.int .i64 f3,.string f4] (0,0) _ rfl (kp BR) Tryz.underlying95 rfl (by kernel_rfl)) rfl ?_
   exact ⟨ff,bs HB⟩
  | cons c cs =>
   obtain ⟨hp,hc,hdr⟩:=akb hd;replace H:=H.out;rw [hd] at H;clear hd
   unfold qU.l0 at H
   have HU:∀ z:Nat,c.toNat=z→z<128→∀ ty,(Instr.next (.pointer (some ⟨kb,0,none⟩)) true ty).run Tryz.prog wr=.ok (.tuple #[.bool true,.int .i64 p,.int .i32 z]) (wr.iterAt kb s (p+1)):=by
    intro z hz hlt ty;have e:=decode_ascii s p hp (by rw [hc];omega)
    rw [hc,hz] at e
    have:=Lib.run_next_any_at (P:=Tryz.prog) wr kb s p ty hit.out hp
    rw [e] at this
    exact this
   have hit2:=Lib.iterAt_heap wr kb s p (p+1) hit.out;have eO:=am (show (wr.iterAt kb s (p+1)).heap[gb]? = _ from (Lib.iterAt_other wr kb gb s (p+1) (IK hit.out BK.out)).trans BK.out);have mi:=am (show (wr.iterAt kb s (p+1)).heap[gl]? = _ from (Lib.iterAt_other wr kb gl s (p+1) (IK hit.out BL.out)).trans BL.out);have nN:=am (show (wr.iterAt kb s (p+1)).heap[gr]? = _ from (Lib.iterAt_other wr kb gr s (p+1) (IK hit.out BR.out)).trans BR.out);have KN:=am (IK hit.out BL.out).symm;replace HB:=am (Lib.below_iterAt HB.out (k:=kb) hge s (p+1));clear hit BK BL BR hc
   generalize wr.iterAt kb s (p+1)=W1 at HU hit2 eO mi nN HB
   replace hit2:=am hit2;replace hdr:=am hdr;obtain ⟨g1,rfl⟩:∃ g1,gk=g1+1:=⟨gk - 1,by have:=HG.out;omega⟩
   revert H;refine jE ?_
   intro hlt H;have aHX:l1.length≤9223372036854775807:=HR1.out.2.1
   revert H;refine gz ?_ ?_
   ·intro c1 H;replace H:=FQ H;obtain ⟨rfl,rfl,rfl,rfl,rfl⟩:=H;have b1:((p:Int) == (l1.length:Int))=true:=beq_iff_eq.mpr (by omega);have hnx:=HU _ rfl hlt;have hcl:=jY mi;have hcr:=jY nN;have hcb:=gG eO;have hne:=N3.out;have hne':=N3'.out;clear HU
    go_wp2
    refine bodyPost_ret (results_cell_row rfl _ _ gr 95 #[.int .i64 f0,.string f1,.int .i64 f2,.int .i64 f3,.string f4] (0,0) _ rfl (kp nN) Tryz.underlying95 rfl (by kernel_rfl)) rfl ?_
    exact ⟨ff,bs HB⟩
   ·intro c1 H;have b1:((p:Int) == (l1.length:Int))=false:=beq_eq_false_iff_ne.mpr (by omega)
    revert H;refine jE ?_
    intro hpl H
    revert H;refine jE ?_
    intro hpp H;obtain ⟨ad,Ae,ce,e1,hx,hl,hi⟩:=lZ HR1.out (p:Int) (by omega) hpl
    cases e1
    obtain ⟨ad2,e2,hy⟩:=Kd.iZ hi 0 (by omega) hpp
    cases e2
    replace hx:=cb HB hx;replace hy:=cb HB hy
    (try simp only [Int.toNat_zero,Nat.zero_mul,Addr.add_zero'] at hy)
    (try simp only [Int.toNat_natCast] at hx)
    have p1:(0≤(p:Int))=True:=eq_true (by omega);have p2:((p:Int)<(l1.length:Int))=True:=eq_true hpl;have p3:((0:Int)<(((aH l1 p).f0).length:Int))=True:=eq_true hpp;have p4:(0<((aH l1 p).f0).length)=True:=eq_true (by omega);clear hl hi;have hcb:=gG eO;have hcl:=jY mi
    revert H;refine gz ?_ ?_
    ·intro Hw H;have hnx:=HU 77 (by rw [Hw];rfl) (by omega);clear HU;replace H:=bo H;obtain ⟨⟨v1,v2⟩,A2,H⟩:=H
     dsimp only at H
     have H':=am H;clear H Hw
     go_wp2_with (first|(go_at_call 111;(with_reducible refine (xP.calls _ false _ rfl).mono ?_);rintro e w' ⟨rfl,⟨ig,rfl⟩⟩;replace hit2:=am (show (W1.drewN ig).heap[kb]? = _ from hit2.out);replace eO:=am (lw eO.out ig);replace nN:=am (lw nN.out ig);replace mi:=am (lw mi.out ig);replace HB:=am (jc HB.out ig))|(go_at_call 87;(with_reducible refine (mV.calls k (aX ByteArray.empty ((aH l1 p).f0) 0) (-1000000) 1000000000 v1 v2 _ (oJ HTP HB.out) A2.out).mono ?_);rintro e w8 ⟨rfl,hb⟩;replace hit2:=am (Mq hit2.out hb);replace eO:=bb eO hb;replace nN:=am (aZ (ks nN) hb);replace mi:=am (aZ (ks mi) hb);replace HB:=am (fF HB.out hb);clear hb;have hcl:=jY mi)|(go_at_call 113;refine (Mr gl _ _).mono ?_;rintro e w' ⟨rfl,rfl⟩))
     go_roundg g1
     case measure=>omega
     case rel=>exact ⟨p+1,f0,f1,f2,v1,f4,by rw [hdr.out];exact H',⟨by have:=HG.out;omega⟩,⟨(Below.heap_setCell _ _ _ _ KN.out).trans hit2.out⟩,⟨ks eO⟩,⟨ks nN⟩,⟨kp mi⟩,⟨bs HB⟩⟩
    ·intro Hw H
     revert H;refine gz ?_ ?_
     ·intro Hy H;have hnx:=HU 84 (by rw [Hy];rfl) (by omega);clear HU;have H':=am H;clear H Hw Hy
      go_wp2_with (first|(go_at_call 111;(with_reducible refine (xP.calls _ true _ rfl).mono ?_);rintro e w' ⟨rfl,⟨ig,rfl⟩⟩;replace hit2:=am (show (W1.drewN ig).heap[kb]? = _ from hit2.out);replace eO:=am (lw eO.out ig);replace nN:=am (lw nN.out ig);replace mi:=am (lw mi.out ig);replace HB:=am (jc HB.out ig))|(go_at_call 112;refine (Xf gl _ _).mono ?_;rintro e w' ⟨rfl,rfl⟩))
      go_roundg g1
      case measure=>omega
      case rel=>exact ⟨p+1,f0,f1,f2,f3,(aX ByteArray.empty ((aH l1 p).f0) 0),by rw [hdr.out];exact H',⟨by have:=HG.out;omega⟩,⟨(Below.heap_setCell _ _ _ _ KN.out).trans hit2.out⟩,⟨ks eO⟩,⟨ks nN⟩,⟨kp mi⟩,⟨bs HB⟩⟩
     ·intro Hy H
      revert H;refine gz ?_ ?_
      ·intro Pk H;have hnx:=HU 73 (by rw [Pk];rfl) (by omega);clear HU;have H':=am H;clear H Hw Hy Pk
       go_wp2_with (first|(go_at_call 111;(with_reducible refine (xP.calls _ true _ rfl).mono ?_);rintro e w' ⟨rfl,⟨ig,rfl⟩⟩;replace hit2:=am (show (W1.drewN ig).heap[kb]? = _ from hit2.out);replace eO:=am (lw eO.out ig);replace nN:=am (lw nN.out ig);replace mi:=am (lw mi.out ig);replace HB:=am (jc HB.out ig))|(go_at_call 112;refine (Xf gl _ _).mono ?_;rintro e w' ⟨rfl,rfl⟩))
       go_roundg g1
       case measure=>omega
       case rel=>exact ⟨p+1,f0,(aX ByteArray.empty ((aH l1 p).f0) 0),f2,f3,f4,by rw [hdr.out];exact H',⟨by have:=HG.out;omega⟩,⟨(Below.heap_setCell _ _ _ _ KN.out).trans hit2.out⟩,⟨ks eO⟩,⟨ks nN⟩,⟨kp mi⟩,⟨bs HB⟩⟩
      ·intro Pk H
       revert H;refine gz ?_ ?_
       ·intro VP H;have hnx:=HU 78 (by rw [VP];rfl) (by omega);clear HU;replace H:=bo H;obtain ⟨⟨v1,v2⟩,A2,H⟩:=H
        dsimp only at H
        have H':=am H;clear H Hw Hy Pk VP
        go_wp2_with (first|(go_at_call 111;(with_reducible refine (xP.calls _ false _ rfl).mono ?_);rintro e w' ⟨rfl,⟨ig,rfl⟩⟩;replace hit2:=am (show (W1.drewN ig).heap[kb]? = _ from hit2.out);replace eO:=am (lw eO.out ig);replace nN:=am (lw nN.out ig);replace mi:=am (lw mi.out ig);replace HB:=am (jc HB.out ig))|(go_at_call 87;(with_reducible refine (mV.calls k (aX ByteArray.empty ((aH l1 p).f0) 0) (-1000000) 1000000000 v1 v2 _ (oJ HTP HB.out) A2.out).mono ?_);rintro e w8 ⟨rfl,hb⟩;replace hit2:=am (Mq hit2.out hb);replace eO:=bb eO hb;replace nN:=am (aZ (ks nN) hb);replace mi:=am (aZ (ks mi) hb);replace HB:=am (fF HB.out hb);clear hb;have hcl:=jY mi)|(go_at_call 113;refine (Mr gl _ _).mono ?_;rintro e w' ⟨rfl,rfl⟩))
        go_roundg g1
        case measure=>omega
        case rel=>exact ⟨p+1,v1,f1,f2,f3,f4,by rw [hdr.out];exact H',⟨by have:=HG.out;omega⟩,⟨(Below.heap_setCell _ _ _ _ KN.out).trans hit2.out⟩,⟨ks eO⟩,⟨ks nN⟩,⟨kp mi⟩,⟨bs HB⟩⟩
       ·intro VP H
        revert H;refine gz ?_ ?_
        ·intro c81 H;have hnx:=HU 81 (by rw [c81];rfl) (by omega);clear HU;replace H:=bo H;obtain ⟨⟨v1,v2⟩,A2,H⟩:=H
         dsimp only at H
         have H':=am H;clear H Hw Hy Pk VP c81
         go_wp2_with (first|(go_at_call 111;(with_reducible refine (xP.calls _ false _ rfl).mono ?_);rintro e w' ⟨rfl,⟨ig,rfl⟩⟩;replace hit2:=am (show (W1.drewN ig).heap[kb]? = _ from hit2.out);replace eO:=am (lw eO.out ig);replace nN:=am (lw nN.out ig);replace mi:=am (lw mi.out ig);replace HB:=am (jc HB.out ig))|(go_at_call 87;(with_reducible refine (mV.calls k (aX ByteArray.empty ((aH l1 p).f0) 0) (-1000000) 1000000000 v1 v2 _ (oJ HTP HB.out) A2.out).mono ?_);rintro e w8 ⟨rfl,hb⟩;replace hit2:=am (Mq hit2.out hb);replace eO:=bb eO hb;replace nN:=am (aZ (ks nN) hb);replace mi:=am (aZ (ks mi) hb);replace HB:=am (fF HB.out hb);clear hb;have hcl:=jY mi)|(go_at_call 113;refine (Mr gl _ _).mono ?_;rintro e w' ⟨rfl,rfl⟩))
         go_roundg g1
         case measure=>omega
         case rel=>exact ⟨p+1,f0,f1,v1,f3,f4,by rw [hdr.out];exact H',⟨by have:=HG.out;omega⟩,⟨(Below.heap_setCell _ _ _ _ KN.out).trans hit2.out⟩,⟨ks eO⟩,⟨ks nN⟩,⟨kp mi⟩,⟨bs HB⟩⟩
        ·intro c81 H
         cases H
def gK.T4:Bool × List (List Nat × List Nat):=(true,[([],[]),([0],[0]),([1],[1]),([2],[2]),([],[]),([4],[4]),([5],[5]),([6],[6]),([7],[7]),([8],[8]),([3,9],[3,9]),([10],[10]),([],[]),([12,11,0,1,2,3,4,5,6,7,8,9,10,11,12],[11,12])])
def gK.B4:List Nat:=[0,1,3,7,0,16,48,112,240,496,1023,2047,0,8191]
theorem gK.yV:fJ .any (opsOf Tryz.f45 4)=gK.T4:=by kernel_rfl
theorem gK.ym:iY gK.T4.2 gK.B4=true:=by kernel_rfl
def gK.OM:Bool × List (List Nat × List Nat):=(true,[([],[]),([0],[0]),([],[]),([2],[2]),([3],[3]),([4],[4]),([5],[5]),([6],[6]),([7],[7]),([8],[8]),([1,9],[1,9]),([0,1,2,3,4,5,6,7,8,9,10],[]),([11,10,10,0,1,2,3,4,5,6,7,8,9,10],[10,11])])
def gK.B11:List Nat:=[0,1,0,4,12,28,60,124,252,508,1023,2047,4095]
theorem gK.Tu:fJ .any (opsOf Tryz.f45 11)=gK.OM:=by kernel_rfl
theorem gK.OY:iY gK.OM.2 gK.B11=true:=by kernel_rfl
def gK.sK:Bool × List (List Nat × List Nat):=(true,[([],[]),([0],[0]),([],[]),([],[]),([2,3],[2,3]),([4],[4]),([1,5,4],[1,5]),([0,1,2,3,4,5,6],[]),([7,6,6,0,1,2,3,4,5,6],[6,7])])
def gK.zh:List Nat:=[0,1,0,0,12,28,63,127,255]
theorem gK.wP:fJ .any (opsOf Tryz.f45 12)=gK.sK:=by kernel_rfl
theorem gK.vY:iY gK.sK.2 gK.zh=true:=by kernel_rfl
theorem gK.calls (k:Nat) (a0:Int) (A1:Option Addr) (c1:Nat) (l1:List (bA)) (r1:Int) (r2:ByteArray) (r3:ByteArray) (r4:Int) (r5:List ByteArray) (r6:List (aY)) (w:World) (hr1:Kd.C kS w A1 l1.length l1) (hc1:l1.length≤c1) (hTP:uR w) (H:gK.f k a0 l1=some (r1,r2,r3,r4,r5,r6)) :
  Calls Tryz.prog 45 #[.int .i64 a0,.slice A1 l1.length c1] w fun e w'=>∃ F4 F6:Value,e=.returned (.agg #[.int .i64 r1,.string r2,.string r3,.int .i64 r4,F4,F6])∧Kd.R Kd.string 9 w' w.heap.size (fun _=>True) F4 r5∧Kd.R iR 95 w' w.heap.size (fun _=>True) F6 r6∧Below w.heap.size w w':=by
 have HTP:=am hTP;clear hTP
 have uX:=Tryz.underlying45;have Fb:=Tryz.underlying97;have qR:=Tryz.underlying62;have HR1:=am hr1;have xc:=am hc1;clear hr1 hc1;have HB:=am (Below.refl w.heap.size w);unfold gK.f at H
 by_cases c3:0<(l1.length:Int)
 ·rw [if_pos c3] at H;have bN:decide (0<(l1.length:Int))=true:=decide_eq_true c3;have fo:decide (0<l1.length)=true:=decide_eq_true (by omega);clear c3
  revert H;refine qx ?_
  intro c4 dS H;have kW:decide (0<((av l1 0).f1).length)=true:=decide_eq_true (by omega);clear c4
  revert H;refine qx ?_
  intro c5 kv H;have wo:decide (0<((aH ((av l1 0).f1) 0).f0).length)=true:=decide_eq_true (by omega);clear c5;replace H:=bo H;obtain ⟨XW,A6,H⟩:=H
  go_in
  try go_wp2_with (first|((with_reducible refine aN (N:=4) rfl ?_);refine bz 4 (cs:=#[.int .i64 0,.string (⟨#[]⟩:ByteArray),.string (⟨#[]⟩:ByteArray),.int .i64 0,.slice none 0 0,.slice none 0 0]) (t:=45) HB ?_;clear HB;intro Wi hg w7 gY aAj hb HB;clear hb hg;have SC:0≤(0:Int):=(by omega);have SK:0<(l1.length:Int):=oa;obtain ⟨xz,azH,aBe,arN,Ir,Iu,aiK,aij⟩:=lv HR1.out 0 SC SK;cases arN;have aIn:(0<l1.length)=True:=eq_true (by omega);(try rw [show ((0:Int)).toNat=0 from rfl] at Ir);(try rw [show 0 * 2=0 from rfl] at Ir);(try rw [Addr.add_zero'] at Ir);(try rw [show ((0:Int)).toNat=0 from rfl] at Iu);(try rw [show 0 * 2=0 from rfl] at Iu);(try rw [Addr.add_zero'] at Iu);replace Ir:=cb HB Ir;replace Iu:=cb HB Iu;have an8:=am aij;have aAq:=am aiK;clear aij aiK;replace SC:=eq_true SC;replace SK:=eq_true SK;have SE:0≤(0:Int):=(by omega);have SL:0<(((av l1 0).f1).length:Int):=oa;obtain ⟨aAO,azI,aBf,arO,Mc,aiL,aik⟩:=lZ an8.out 0 SE SL;cases arO;have aIo:(0<((av l1 0).f1).length)=True:=eq_true (by omega);(try rw [show ((0:Int)).toNat=0 from rfl] at Mc);(try rw [Addr.add_zero'] at Mc);replace Mc:=cb HB Mc;have an9:=am aik;have aAr:=am aiL;clear aik aiL;replace SE:=eq_true SE;replace SL:=eq_true SL;have SF:0≤(0:Int):=(by omega);have SQ:0<(((aH ((av l1 0).f1) 0).f0).length:Int):=oa;obtain ⟨aAP,arP,Md⟩:=Kd.iZ an9.out 0 SF SQ;cases arP;have aIp:(0<((aH ((av l1 0).f1) 0).f0).length)=True:=eq_true (by omega);(try rw [show ((0:Int)).toNat=0 from rfl] at Md);(try rw [Addr.add_zero'] at Md);replace Md:=cb HB Md;replace SF:=eq_true SF;replace SQ:=eq_true SQ)|((with_reducible refine aN (N:=5) rfl ?_);refine bz 5 (cs:=#[.int .i64 0,.string (⟨#[]⟩:ByteArray),.string (⟨#[]⟩:ByteArray),.int .i64 0,.slice none 0 0,.slice none 0 0]) (t:=45) HB ?_;clear HB;intro ic hg w8 dH rD hb HB;have KF:=na hg gY;have KE:=nc hg gY;replace gY:=bb gY hb;clear hb hg;have Wy:=KE.out;have WA:=KF.out;have zK:=dC dH))
  go_at_call 77;(with_reducible refine (Bq.calls a0 XW _ A6.out).mono ?_);rintro e w' ⟨rfl,⟨nd,rfl⟩⟩;have Gq:=am H;clear H
  go_upto_if 23 with (fail)
  go_cut [] (fun wc=>∃ (kq:Nat) (yZ:ByteArray),af (gK.j0 kq a0 l1 a0 (aX ByteArray.empty ((aH ((av l1 0).f1) 0).f0) 0) yZ 0=some (r1,r2,r3,r4,r5,r6))∧af (kq≤k)∧af (wc.heap[Wi]? = some (.cells #[.int .i64 0,.string (⟨#[]⟩:ByteArray),.string (⟨#[]⟩:ByteArray),.int .i64 0,(.slice none 0 0),(.slice none 0 0)] 45 (0,0)))∧af (wc.heap[ic]? = some (.cells #[.int .i64 a0,.string (aX ByteArray.empty ((aH ((av l1 0).f1) 0).f0) 0),.string yZ,.int .i64 0,(.slice none 0 0),(.slice none 0 0)] 45 (0,0)))∧af (Below w.heap.size w wc))
  case first =>
   have H:=Gq.out;clear Gq
   obtain rfl|rfl:=bt XW
   ·replace H:=dE H
    revert H;refine qx ?_
    intro c13 lC H;have zA:decide (1<((av l1 0).f1).length)=true:=decide_eq_true (by omega);clear c13
    (first|rw [lC]|(simp only [fu,gy];rw [lC])|rw [zA]|skip)
    revert H;refine qx ?_
    intro c14 oU H;have K4:decide (0<((aH ((av l1 0).f1) 1).f0).length)=true:=decide_eq_true (by omega);clear c14;have H':=am H;clear H;have p93:0≤(0:Int):=(by omega);have q93:0<(l1.length:Int):=oa;obtain ⟨ap5,azO,aBl,e93,oH,sW,aiR,aiq⟩:=lv HR1.out 0 p93 q93;obtain rfl:xz=ap5:=(by injection e93);have aIu:(0<l1.length)=True:=eq_true (by omega)
    (try rw [show ((0:Int)).toNat=0 from rfl] at oH)
    (try rw [show 0 * 2=0 from rfl] at oH)
    (try rw [Addr.add_zero'] at oH)
    (try rw [show ((0:Int)).toNat=0 from rfl] at sW)
    (try rw [show 0 * 2=0 from rfl] at sW)
    (try rw [Addr.add_zero'] at sW)
    have aby:xz.block≠ic:=nl oH rD;have abz:xz.block≠ic:=nl oH rD;have abA:xz.block≠ic:=nl oH rD;have abB:xz.block≠ic:=nl oH rD;have abC:xz.block≠ic:=nl oH rD;have abD:xz.block≠ic:=nl oH rD;replace oH:=cb HB oH;replace sW:=cb HB sW;have aoc:=am aiq;have aAy:=am aiR;clear aiq aiR;replace oH:=(cell_far (p:=⟨ic,0,none⟩) (by exact nz aby) (.int .i64 a0)).trans oH;replace sW:=(cell_far (p:=⟨ic,0,none⟩) (by exact nz aby) (.int .i64 a0)).trans sW;replace oH:=(cell_far (p:=⟨ic,1,none⟩) (by exact nz abz) (.string (aX ByteArray.empty ((aH ((av l1 0).f1) 0).f0) 0))).trans oH;replace sW:=(cell_far (p:=⟨ic,1,none⟩) (by exact nz abz) (.string (aX ByteArray.empty ((aH ((av l1 0).f1) 0).f0) 0))).trans sW;replace oH:=(cell_far (p:=⟨ic,2,none⟩) (by exact nz abA) (.string (⟨#[]⟩:ByteArray))).trans oH;replace sW:=(cell_far (p:=⟨ic,2,none⟩) (by exact nz abA) (.string (⟨#[]⟩:ByteArray))).trans sW;replace oH:=(cell_far (p:=⟨ic,3,none⟩) (by exact nz abB) (.int .i64 0)).trans oH;replace sW:=(cell_far (p:=⟨ic,3,none⟩) (by exact nz abB) (.int .i64 0)).trans sW;replace oH:=(cell_far (p:=⟨ic,4,none⟩) (by exact nz abC) (.slice none 0 0)).trans oH;replace sW:=(cell_far (p:=⟨ic,4,none⟩) (by exact nz abC) (.slice none 0 0)).trans sW;replace oH:=(cell_far (p:=⟨ic,5,none⟩) (by exact nz abD) (.slice none 0 0)).trans oH;replace sW:=(cell_far (p:=⟨ic,5,none⟩) (by exact nz abD) (.slice none 0 0)).trans sW;clear aby;clear abz;clear abA;clear abB;clear abC;clear abD;replace p93:=eq_true p93;replace q93:=eq_true q93;have p96:0≤(1:Int):=(by omega);have q96:1<(((av l1 0).f1).length:Int):=oa;obtain ⟨KS,azP,aBn,e96,oW,aiS,air⟩:=lZ aoc.out 1 p96 q96
    cases e96
    (try simp only [show (1:Int).toNat=1 from rfl,Nat.reduceMul,Nat.reduceEqDiff,Go.Addr.add,↓reduceIte] at oW)
    have aIv:(1<((av l1 0).f1).length)=True:=eq_true (by omega)
    (try rw [show ((1:Int)).toNat=1 from rfl] at oW)
    have aiX:KS.block≠ic:=nl oW rD;have aiY:KS.block≠ic:=nl oW rD;have aiZ:KS.block≠ic:=nl oW rD;have ai0:KS.block≠ic:=nl oW rD;have ai1:KS.block≠ic:=nl oW rD;have ai2:KS.block≠ic:=nl oW rD;replace oW:=cb HB oW;have aod:=am air;have aAz:=am aiS;clear air aiS;replace oW:=(cell_far (p:=⟨ic,0,none⟩) (by exact nz aiX) (.int .i64 a0)).trans oW;replace oW:=(cell_far (p:=⟨ic,1,none⟩) (by exact nz aiY) (.string (aX ByteArray.empty ((aH ((av l1 0).f1) 0).f0) 0))).trans oW;replace oW:=(cell_far (p:=⟨ic,2,none⟩) (by exact nz aiZ) (.string (⟨#[]⟩:ByteArray))).trans oW;replace oW:=(cell_far (p:=⟨ic,3,none⟩) (by exact nz ai0) (.int .i64 0)).trans oW;replace oW:=(cell_far (p:=⟨ic,4,none⟩) (by exact nz ai1) (.slice none 0 0)).trans oW;replace oW:=(cell_far (p:=⟨ic,5,none⟩) (by exact nz ai2) (.slice none 0 0)).trans oW;clear aiX;clear aiY;clear aiZ;clear ai0;clear ai1;clear ai2;replace p96:=eq_true p96;replace q96:=eq_true q96;have p99:0≤(0:Int):=(by omega);have q99:0<(((aH ((av l1 0).f1) 1).f0).length:Int):=oa;obtain ⟨KT,e99,oZ⟩:=Kd.iZ aod.out 0 p99 q99
    cases e99
    have aIx:(0<((aH ((av l1 0).f1) 1).f0).length)=True:=eq_true (by omega)
    (try rw [show ((0:Int)).toNat=0 from rfl] at oZ)
    (try rw [Addr.add_zero'] at oZ)
    have ai3:KT.block≠ic:=nl oZ rD;have ai4:KT.block≠ic:=nl oZ rD;have ai5:KT.block≠ic:=nl oZ rD;have ai6:KT.block≠ic:=nl oZ rD;have ai7:KT.block≠ic:=nl oZ rD;have ai8:KT.block≠ic:=nl oZ rD;replace oZ:=cb HB oZ;replace oZ:=(cell_far (p:=⟨ic,0,none⟩) (by exact nz ai3) (.int .i64 a0)).trans oZ;replace oZ:=(cell_far (p:=⟨ic,1,none⟩) (by exact nz ai4) (.string (aX ByteArray.empty ((aH ((av l1 0).f1) 0).f0) 0))).trans oZ;replace oZ:=(cell_far (p:=⟨ic,2,none⟩) (by exact nz ai5) (.string (⟨#[]⟩:ByteArray))).trans oZ;replace oZ:=(cell_far (p:=⟨ic,3,none⟩) (by exact nz ai6) (.int .i64 0)).trans oZ;replace oZ:=(cell_far (p:=⟨ic,4,none⟩) (by exact nz ai7) (.slice none 0 0)).trans oZ;replace oZ:=(cell_far (p:=⟨ic,5,none⟩) (by exact nz ai8) (.slice none 0 0)).trans oZ;clear ai3;clear ai4;clear ai5;clear ai6;clear ai7;clear ai8;replace p99:=eq_true p99;replace q99:=eq_true q99;have ai9:=KE.out;have ajl:=KF.out;have EO:=dC dH
    go_wp2
    go_meet
    case rel=>exact ⟨_,(aX ByteArray.empty ((aH ((av l1 0).f1) 1).f0) 0),H',⟨fl⟩,⟨ks gY⟩,⟨kp dH⟩,⟨bs HB⟩⟩
   ·replace H:=dD H;have H':=am H;clear H
    go_wp2
    go_meet
    case rel=>exact ⟨_,((⟨#[]⟩:ByteArray)),H',⟨fl⟩,⟨ks gY⟩,⟨kp dH⟩,⟨bs HB⟩⟩
  case rest =>
   clear Gq
   try clear c1
   try clear c3
   try clear bN
   try clear fo
   try clear c4
   try clear dS
   try clear kW
   try clear c5
   try clear kv
   try clear wo
   try clear zK
   try clear Ir
   try clear Iu
   try clear Mc
   try clear Md
   try clear SC
   try clear SE
   try clear SF
   try clear SK
   try clear SL
   try clear SQ
   obtain ⟨kq,yZ,HA,Ci,gY,dH,HB⟩:=hcut
   cases kq with
   | zero=>exact absurd HA.out (by simp [gK.j0])
   | succ Dp =>
    have H:=HA.out;clear HA;simp only [gK.j0] at H
    revert H;refine qx ?_
    intro c17 oo H;have AX:decide (0<l1.length)=true:=decide_eq_true (by omega);clear c17;obtain ⟨wI,Wu⟩:∃ j_:Int,(wrap64 ((((av l1 0).f1).length:Int) - 1))=j_:=⟨_,rfl⟩
    replace H:(if 0≤(wI) then (if (wI)<(((av l1 0).f1).length:Int) then (if 0<(((aH ((av l1 0).f1) (wI)).f0).length:Int) then ((mV.f Dp (aX ByteArray.empty ((aH ((av l1 0).f1) (wI)).f0) 0) 0 100000).bind fun aay=>(if 1≤(l1.length:Int) then ((some (l1.drop 1:List (bA))).bind fun fO=>(gK.l0 Dp a0 fO (fO.length:Int) 0 a0 (aX ByteArray.empty ((aH ((av l1 0).f1) 0).f0) 0) yZ aay.1 ([]:List ByteArray) ([]:List (aY)))) else (none))) else (none)) else (none)) else (none))=some (r1,r2,r3,r4,r5,r6):=by first|(rw [Wu] at H;exact H)|(simp only [Wu] at H ⊢;exact H)
    have aEv:(IntKind.i64.wrap ((((av l1 0).f1).length:Int) - 1))=wI:=(fu _).trans Wu
    revert H;refine bu ?_
    intro sP H
    revert H;refine bu ?_
    intro ui H
    revert H;refine qx ?_
    intro c21 xH H;have Cx:decide (0<((aH ((av l1 0).f1) (wI)).f0).length)=true:=decide_eq_true (by omega);clear c21;replace H:=bo H;obtain ⟨⟨DD,axN⟩,BV,H⟩:=H;(try dsimp only at H)
    revert H;refine jE ?_
    intro c23 H;have ED:=eq_true c23;have aaH:decide (1≤(l1.length:Int))=true:=decide_eq_true c23;clear c23;obtain ⟨fO,acP⟩:∃ y_:List (bA),y_=(l1.drop 1):=⟨_,rfl⟩
    replace H:(gK.l0 Dp a0 fO (fO.length:Int) 0 a0 (aX ByteArray.empty ((aH ((av l1 0).f1) 0).f0) 0) yZ DD ([]:List ByteArray) ([]:List (aY)))=some (r1,r2,r3,r4,r5,r6):=ye acP H
    have afX:=am acP;clear acP;have H':=am H;clear H
    try go_wp2
    replace gY:=am (bg gY.out);replace dH:=am (bg dH.out);replace HB:=am (cO HB.out);have Xw:0≤(0:Int):=(by omega);have XD:0<(l1.length:Int):=oa;obtain ⟨ap6,azQ,aBp,e98,Fv,Dj,aiT,ais⟩:=lv HR1.out 0 Xw XD;have LV:=Dj
    (try rw [show ((0:Int)).toNat=0 from rfl] at LV)
    (try rw [show 0 * 2=0 from rfl] at LV)
    (try rw [Addr.add_zero'] at LV)
    have LU:=Fv
    (try rw [show ((0:Int)).toNat=0 from rfl] at LU)
    (try rw [show 0 * 2=0 from rfl] at LU)
    (try rw [Addr.add_zero'] at LU)
    obtain rfl:xz=ap6:=(by injection e98);have aIw:(0<l1.length)=True:=eq_true (by omega)
    (try rw [show ((0:Int)).toNat=0 from rfl] at Fv)
    (try rw [show 0 * 2=0 from rfl] at Fv)
    (try rw [Addr.add_zero'] at Fv)
    (try rw [show ((0:Int)).toNat=0 from rfl] at Dj)
    (try rw [show 0 * 2=0 from rfl] at Dj)
    (try rw [Addr.add_zero'] at Dj)
    replace Fv:=cb HB Fv;replace Dj:=cb HB Dj;have afl:=am ais;have aAA:=am aiT;clear ais aiT;replace Xw:=eq_true Xw;replace XD:=eq_true XD;have Xu:0≤(0:Int):=(by omega);have XB:0<(l1.length:Int):=oa;obtain ⟨apY,azJ,aBg,arQ,Fh,Di,aiM,ail⟩:=lv HR1.out 0 Xu XB;have LQ:=Di
    (try rw [show ((0:Int)).toNat=0 from rfl] at LQ)
    (try rw [show 0 * 2=0 from rfl] at LQ)
    (try rw [Addr.add_zero'] at LQ)
    have LP:=Fh
    (try rw [show ((0:Int)).toNat=0 from rfl] at LP)
    (try rw [show 0 * 2=0 from rfl] at LP)
    (try rw [Addr.add_zero'] at LP)
    obtain rfl:xz=apY:=(by injection arQ);have aIq:(0<l1.length)=True:=eq_true (by omega)
    (try rw [show ((0:Int)).toNat=0 from rfl] at Fh)
    (try rw [show 0 * 2=0 from rfl] at Fh)
    (try rw [Addr.add_zero'] at Fh)
    (try rw [show ((0:Int)).toNat=0 from rfl] at Di)
    (try rw [show 0 * 2=0 from rfl] at Di)
    (try rw [Addr.add_zero'] at Di)
    replace Fh:=cb HB Fh;replace Di:=cb HB Di;have aoa:=am ail;have aAs:=am aiM;clear ail aiM;replace Xu:=eq_true Xu;replace XB:=eq_true XB;(try (have ea_:=Option.some.inj (Dj.symm.trans Di);injection ea_ with ea_ en_ ec_;subst ea_;subst ec_;clear en_));obtain ⟨avX,awc,aAQ,azK,VO,arR,R5,aiN,aim⟩:=wi (lZ afl.out (wI));have abW:=R5
    cases arR
    replace R5:=cb HB R5;have afh:=am aim;have aAt:=am aiN;clear aim aiN;refine il 14 (aJ (cb HB LU) (aJ (cb HB LV) (aJ (cb HB LP) (aJ (cb HB LQ) (hc (cb HB abW)))))) (fun hHeld=>?_);refine gq gK.yV gK.ym (fun HT_ HW_=>?_)
    generalize wc.drew=JP at gY dH HB afl aoa afh Fv Dj Fh Di R5 hHeld ⊢
    refine kZ 0 ?_;refine kZ 4 ?_;refine ta 3 ?_;refine ta 7 ?_;refine kZ 8 ?_;refine ta 11 ?_;refine oA 12 6 HT_ (fun K hK=>?_);refine Vl ?hg (N:=6) ?hd (cs:=#[.slice none 0 0]) (t:=97) ?hr ?_;(case hd=>rfl);(case hg=>rfl);(case hr=>first|(go_simp;done)|(go_simp;rfl));intro zI hg Nb hbox hb;have jv:=am (hbox);have Kl:=gw hg HB;replace HB:=bq HB hb;have aaf:=na hg gY;have aah:=nc hg gY;replace gY:=bb gY hb;have OB:=na hg dH;have OD:=nc hg dH;replace dH:=bb dH hb;clear hb hbox hg;refine hK.out _ _ (aJ (cb HB LU) (aJ (cb HB LV) (aJ (cb HB LP) (aJ (cb HB LQ) (hc (cb HB abW)))))).out (fun hHeld=>?_);clear hK K;refine nA 6 ?_;refine nG (i:=13) (N:=none) #[true,true,true,true,true,true,true,true,true,true,true,true,true,true] rfl rfl (vB HT_.out (by kernel_rfl)) (by decide) (fun K hK=>?_);have aHH:Nb.cell? ⟨zI,0,none⟩=some (.slice none 0 0):=(az jv.out 0).trans rfl;have aDg:=aV jv.out 0;have aG5:=aaf.out;have aG6:=OB.out;have aER:=aah.out;have aES:=OD.out;refine vD (w1:=?_) (by rfl) rfl ?_ ?_
    rotate_left
    ·go_simp
     rfl
    refine hK.out _ _ ⟨((cell_far (p:=⟨zI,_,none⟩) (by exact nl LU Kl) _).trans (hHeld.1)),((cell_far (p:=⟨zI,_,none⟩) (by exact nl LV Kl) _).trans (hHeld.2.1)),((cell_far (p:=⟨zI,_,none⟩) (by exact nl LP Kl) _).trans (hHeld.2.2.1)),((cell_far (p:=⟨zI,_,none⟩) (by exact nl LQ Kl) _).trans (hHeld.2.2.2.1)),((cell_far (p:=⟨zI,_,none⟩) (by exact nl abW Kl) _).trans (hHeld.2.2.2.2))⟩ (fun hHeld=>?_);clear hK K;refine fq (gp HT_.out (by kernel_rfl)) ?_;have ajc:=aah.out;have ajo:=aaf.out;have QO:=OD.out;have QQ:=OB.out;have Ih:=uV jv;have Xv:0≤(0:Int):=(by omega);have XC:0<(((aH ((av l1 0).f1) (wI)).f0).length:Int):=oa;obtain ⟨OU,arS,Fj⟩:=Kd.iZ afh.out 0 Xv XC
    cases arS
    have aIr:(0<((aH ((av l1 0).f1) (wI)).f0).length)=True:=eq_true (by omega)
    (try rw [show ((0:Int)).toNat=0 from rfl] at Fj)
    (try rw [Addr.add_zero'] at Fj)
    have aiW:OU.block≠zI:=nl Fj Kl;replace Fj:=cb HB Fj;replace Fj:=(cell_far (p:=⟨zI,0,none⟩) (by exact nz aiW) (.slice (some OU) ((aH ((av l1 0).f1) (wI)).f0).length VO)).trans Fj;clear aiW;replace Xv:=eq_true Xv;replace XC:=eq_true XC
    try go_wp2_with (first|((go_at_call 87;(with_reducible refine (mV.calls Dp (aX ByteArray.empty ((aH ((av l1 0).f1) (wI)).f0) 0) 0 100000 DD axN _ (oJ HTP (bs HB)) BV.out).mono ?_);rintro e qJ ⟨rfl,hb⟩);replace gY:=bb gY hb;replace dH:=bb dH hb;replace jv:=am (aZ (g:=zI) (o:=.cells #[.slice (some OU) ((aH ((av l1 0).f1) (wI)).f0).length VO] 97 (0,0)) (kp jv) hb);replace HB:=bq HB hb;(try clear hb);have QP:=KE.out;have QR:=KF.out;have aCt:qJ.cell? ⟨ic,0,none⟩=some (.int .i64 a0):=(az dH.out 0).trans rfl;have aCu:qJ.cell? ⟨ic,1,none⟩=some (.string (aX ByteArray.empty ((aH ((av l1 0).f1) 0).f0) 0)):=(az dH.out 1).trans rfl;have aCv:qJ.cell? ⟨ic,2,none⟩=some (.string yZ):=(az dH.out 2).trans rfl;have aCw:qJ.cell? ⟨ic,3,none⟩=some (.int .i64 0):=(az dH.out 3).trans rfl;have aCx:qJ.cell? ⟨ic,4,none⟩=some (.slice none 0 0):=(az dH.out 4).trans rfl;have aCy:qJ.cell? ⟨ic,5,none⟩=some (.slice none 0 0):=(az dH.out 5).trans rfl;have aEa:=aV dH.out 0;have aEb:=aV dH.out 1;have aEc:=aV dH.out 2;have aEd:=aV dH.out 3;have aEe:=aV dH.out 4;have aEf:=aV dH.out 5)|((with_reducible refine H8 (t:=2) (p:=55) rfl ?_);refine Jk (t:=2) (p:=55) (v:=?aJh) (w1:=(qJ.setCell ⟨ic,3,none⟩ (.int .i64 DD))) ?hg ?ho ?hn ?hr ?_;(case ho=>rfl);(case hg=>rfl);(case hn=>rfl);(case hr=>first|(go_simp;done)|(go_simp;rfl));intro DK hw;replace gY:af (DK.heap[Wi]? = some (.cells #[.int .i64 0,.string (⟨#[]⟩:ByteArray),.string (⟨#[]⟩:ByteArray),.int .i64 0,.slice none 0 0,.slice none 0 0] 45 (0,0))):=⟨(by rw [hw];exact (ks gY))⟩;replace dH:af (DK.heap[ic]? = some (.cells #[.int .i64 a0,.string (aX ByteArray.empty ((aH ((av l1 0).f1) 0).f0) 0),.string yZ,.int .i64 DD,.slice none 0 0,.slice none 0 0] 45 (0,0))):=⟨(by rw [hw];exact (kp dH))⟩;replace jv:af (DK.heap[zI]? = some (.cells #[.slice (some OU) ((aH ((av l1 0).f1) (wI)).f0).length VO] 97 (0,0))):=⟨(by rw [hw];exact (ks jv))⟩;replace HB:af (Below w.heap.size w DK):=⟨(by rw [hw];exact (bs HB))⟩;clear hw;have MO:(1:Int)≤((l1.length:Int):Int):=oa;obtain ⟨aIa,ah1,_,ajB,_⟩:=info_parts Sq;have abN:l1.length≤c1:=xc.out;have ahF:Kd.C kS _ (some xz) l1.length l1:=HR1.out;have asS:=arx (P:=Tryz.prog) 57 62 .i64 Tryz.underlying57 ah1 2 ajB (some xz) l1.length c1 1 (by omega) MO;have Q6:=Kd.amA (m:=(1:Int).toNat) (c:=c1) ahF (by omega) abN;obtain ⟨NW,Wm⟩:∃ Aq_,Aq_=(if c1=(1:Int).toNat then (some xz) else ((some xz):Option Addr).map (·.add ((1:Int).toNat * 2))):=⟨_,rfl⟩;obtain ⟨c34,hc34⟩:∃ cq_,cq_=c1 - (1:Int).toNat:=⟨_,rfl⟩;have hy34:fO.length=l1.length - (1:Int).toNat:=(by rw [afX.out,List.length_drop] <;> omega);rw [show (l1).drop (1:Int).toNat=fO from afX.out.symm] at Q6;replace Q6:Kd.C kS _ NW fO.length fO:=(by rw [Wm];exact Q6);rw [← hy34,← Wm,← hc34] at asS;have afi:=am Q6;have aAu:=am (show fO.length≤c34 from by rw [hy34,hc34];exact Nat.sub_le_sub_right abN _);clear Q6 ahF abN ah1 ajB hc34;have aAF:=am hy34;have aAE:=am Wm;clear hy34 Wm;replace MO:=eq_true MO))
    go_loopg [59] Dp (fun kq v59 w'=>∃ (gM:Int) (BO:List ByteArray) (BP:List (aY)) (FY:Value) (FZ:Value),v59=.int .i64 gM∧af (gK.l0 kq a0 fO (fO.length:Int) gM a0 (aX ByteArray.empty ((aH ((av l1 0).f1) 0).f0) 0) yZ DD BO BP=some (r1,r2,r3,r4,r5,r6))∧af (kq≤Dp)∧af (Kd.R Kd.string 9 w' w.heap.size (fun _=>True) FY BO)∧af (Kd.R iR 95 w' w.heap.size (fun _=>True) FZ BP)∧af (w'.heap[Wi]? = some (.cells #[.int .i64 0,.string (⟨#[]⟩:ByteArray),.string (⟨#[]⟩:ByteArray),.int .i64 0,(.slice none 0 0),(.slice none 0 0)] 45 (0,0)))∧af (w'.heap[ic]? = some (.cells #[.int .i64 a0,.string (aX ByteArray.empty ((aH ((av l1 0).f1) 0).f0) 0),.string yZ,.int .i64 DD,FY,FZ] 45 (0,0)))∧af (w'.heap[zI]? = some (.cells #[(.slice (some OU) ((aH ((av l1 0).f1) (wI)).f0).length VO)] 97 (0,0)))∧af (Below w.heap.size w w'))
    case atStart=>exact ⟨(0),(([]:List ByteArray)),(([]:List (aY))),(.slice none 0 0),(.slice none 0 0),fg,H',⟨Nat.le_refl _⟩,⟨by first|exact Kd.qj _ _ _ _ _|exact Kd.uN _ _ _ _ _|exact Kd.uS _ _ _ _ _|exact Kd.uO _ _ _ _ _|exact Kd.qO _ _ _ _ _⟩,⟨by first|exact Kd.qj _ _ _ _ _|exact Kd.uN _ _ _ _ _|exact Kd.uS _ _ _ _ _|exact Kd.uO _ _ _ _ _|exact Kd.qO _ _ _ _ _⟩,⟨ks gY⟩,⟨ks dH⟩,⟨ks jv⟩,⟨bs HB⟩⟩
    case round =>
     clear H'
     try clear c1
     try clear c3
     try clear bN
     try clear fo
     try clear c4
     try clear dS
     try clear kW
     try clear c5
     try clear kv
     try clear wo
     try clear c17
     try clear oo
     try clear AX
     try clear sP
     try clear ui
     try clear c21
     try clear xH
     try clear Cx
     try clear c23
     try clear ED
     try clear aaH
     try clear c34
     try clear MO
     try clear zK
     try clear Ih
     try clear Ir
     try clear Iu
     try clear Mc
     try clear Md
     try clear Fv
     try clear Dj
     try clear Fh
     try clear Di
     try clear R5
     try clear Fj
     try clear SC
     try clear SE
     try clear SF
     try clear Xw
     try clear Xu
     try clear avX
     try clear Xv
     try clear MO
     try clear SK
     try clear SL
     try clear SQ
     try clear XD
     try clear XB
     try clear awc
     try clear XC
     try clear gY
     try clear dH
     try clear jv
     obtain ⟨gM,BO,BP,FY,FZ,rfl,HA,cz,lq,lu,gY,dH,jv,HB⟩:=hrel
     cases gk with
     | zero=>exact absurd HA.out (by simp [gK.l0])
     | succ k2 =>
      have H:=HA.out;clear HA;simp only [gK.l0] at H
      revert H;refine cB ?_ ?_
      ·intro VM H
       revert H;refine bu ?_
       intro uk H
       revert H;refine bu ?_
       intro Cz H
       revert H;refine bL ?_ ?_
       ·intro EG Ht H
        revert H;refine qx ?_
        intro c39 Pd H;have agT:decide (0<((av fO gM).f1).length)=true:=decide_eq_true (by omega);clear c39
        revert H;refine qx ?_
        intro c40 zB H;have VN:decide (0<((aH ((av fO gM).f1) 0).f0).length)=true:=decide_eq_true (by omega);clear c40
        revert H;refine jE ?_
        intro c41 H;have aow:=am c41;clear c41;obtain ⟨ael,acJ⟩:∃ y_:List ByteArray,y_=(BO++[aX ByteArray.empty ((aH ((av fO gM).f1) 0).f0) 0]):=⟨_,rfl⟩
        replace H:(gK.l0 k2 a0 fO (fO.length:Int) (wrap64 (gM+1)) a0 (aX ByteArray.empty ((aH ((av l1 0).f1) 0).f0) 0) yZ DD ael BP)=some (r1,r2,r3,r4,r5,r6):=ye acJ H
        have apk:=am acJ;clear acJ;have H':=am H;clear H;obtain ⟨p91,q91,ap4,qc,qm,e91,Si,Sj,QK,Qo⟩:=wi (lv afi.out gM)
        cases e91
        replace Si:=cb HB Si;replace Sj:=cb HB Sj;have ZO:=am Qo;have aeW:=am QK;clear Qo QK
        try go_wp2_with (first|((with_reducible refine aN (N:=10) rfl ?_);refine bx 10 (cs:=#[.string (⟨#[]⟩:ByteArray),.slice none 0 0]) (t:=62) ?_;intro kC hg tJ hbox hb;replace lq:=am (Kd.dK (rs lq) hb);replace lu:=am (Kd.dK (rs lu) hb);have jV:=am (hbox);have amW:=gw hg HB;replace HB:=bq HB hb;have aae:=na hg gY;have aac:=nc hg gY;replace gY:=bb gY hb;have OA:=na hg dH;have OC:=nc hg dH;replace dH:=bb dH hb;have aag:=na hg jv;have aad:=nc hg jv;replace jv:=bb jv hb;clear hb hbox hg;have atH:=aac.out;have aud:=aae.out;have aFF:=OC.out;have aGq:=OA.out;have atI:=aad.out;have aue:=aag.out;have ahV:=gG jV))
        have bP:af (Kd.R Kd.string 9 ((tJ.setCell ⟨kC,0,none⟩ (.string ((av fO gM).f0))).setCell ⟨kC,1,none⟩ (.slice qc ((av fO gM).f1).length qm)) w.heap.size (fun _=>True) FY BO):=⟨Kd.dI (rf (Kd.lK lq.out jV.out (by decide))) (fun _ hk=>trivial)⟩;have bQ:af (Kd.R iR 95 ((tJ.setCell ⟨kC,0,none⟩ (.string ((av fO gM).f0))).setCell ⟨kC,1,none⟩ (.slice qc ((av fO gM).f1).length qm)) w.heap.size (fun _=>True) FZ BP):=⟨Kd.dI (rf (Kd.lK lu.out jV.out (by decide))) (fun _ hk=>trivial)⟩;have bU:=kz ((tJ.setCell ⟨kC,0,none⟩ (.string ((av fO gM).f0))).setCell ⟨kC,1,none⟩ (.slice qc ((av fO gM).f1).length qm)) gY;have gW:=kz ((tJ.setCell ⟨kC,0,none⟩ (.string ((av fO gM).f0))).setCell ⟨kC,1,none⟩ (.slice qc ((av fO gM).f1).length qm)) dH;have l9:=kz ((tJ.setCell ⟨kC,0,none⟩ (.string ((av fO gM).f0))).setCell ⟨kC,1,none⟩ (.slice qc ((av fO gM).f1).length qm)) jv;have uD:af (((tJ.setCell ⟨kC,0,none⟩ (.string ((av fO gM).f0))).setCell ⟨kC,1,none⟩ (.slice qc ((av fO gM).f1).length qm)).heap[kC]? = some (.cells #[.string ((av fO gM).f0),.slice qc ((av fO gM).f1).length qm] 62 (0,0))):=⟨kp jV⟩;have xR:af (Below w.heap.size w ((tJ.setCell ⟨kC,0,none⟩ (.string ((av fO gM).f0))).setCell ⟨kC,1,none⟩ (.slice qc ((av fO gM).f1).length qm))):=⟨bs HB⟩;(try clear lq);(try clear lu);(try clear gY);(try clear dH);(try clear jv);(try clear jV);(try clear HB)
        generalize ((tJ.setCell ⟨kC,0,none⟩ (.string ((av fO gM).f0))).setCell ⟨kC,1,none⟩ (.slice qc ((av fO gM).f1).length qm))=Tw at bP bQ bU gW l9 uD xR ⊢
        have lq:=bP;have lu:=bQ;have gY:=bU;have dH:=gW;have jv:=l9;have jV:=uD;have HB:=xR;clear bP bQ bU gW l9 uD xR;replace lq:=am (Kd.dY lq.out);replace lu:=am (Kd.dY lu.out);replace gY:=am (bg gY.out);replace dH:=am (bg dH.out);replace jv:=am (bg jv.out);replace jV:=am (bg jV.out);replace HB:=am (cO HB.out);have adb:0≤(0:Int):=(by omega);have adn:0<(((av fO gM).f1).length:Int):=oa;obtain ⟨aAR,azL,aBh,arT,Me,aiO,ain⟩:=lZ ZO.out 0 adb adn;have Io:=Me
        (try rw [show ((0:Int)).toNat=0 from rfl] at Io)
        (try rw [show 0 * 1=0 from rfl] at Io)
        (try rw [Addr.add_zero'] at Io)
        cases arT
        have aIs:(0<((av fO gM).f1).length)=True:=eq_true (by omega)
        (try rw [show ((0:Int)).toNat=0 from rfl] at Me)
        (try rw [Addr.add_zero'] at Me)
        replace Me:=cb HB Me;have afj:=am ain;have aAv:=am aiO;clear ain aiO;replace adb:=eq_true adb;replace adn:=eq_true adn;have adc:0≤(0:Int):=(by omega);have ado:0<(((aH ((av fO gM).f1) 0).f0).length:Int):=oa;obtain ⟨aAS,arU,Mf⟩:=Kd.iZ afj.out 0 adc ado;have Ip:=Mf
        (try rw [show ((0:Int)).toNat=0 from rfl] at Ip)
        (try rw [show 0 * 1=0 from rfl] at Ip)
        (try rw [Addr.add_zero'] at Ip)
        cases arU
        have aIt:(0<((aH ((av fO gM).f1) 0).f0).length)=True:=eq_true (by omega)
        (try rw [show ((0:Int)).toNat=0 from rfl] at Mf)
        (try rw [Addr.add_zero'] at Mf)
        replace Mf:=cb HB Mf;replace adc:=eq_true adc;replace ado:=eq_true ado;refine Af 13 [12] (oF dH (Ia jV (aJ (cb HB Io) (hc (cb HB Ip))))) (fun hHeld=>?_);refine gq gK.Tu gK.OY (fun HT_ HW_=>?_)
        generalize Tw.drew=Tx at lq lu gY dH jv jV HB afj Me Mf hHeld ⊢
        refine bV 0 ?_;refine bV 2 ?_;refine ta 1 ?_;refine ta 3 ?_;refine jm 4 ?_;refine ta 6 ?_;refine bV 7 ?_;refine ta 8 ?_;refine oA 9 75 HT_ (fun K hK=>?_);refine DF (w1:=?_) (v:=?_) (by rfl) rfl ?_ ?_
        rotate_left 2
        ·go_simp
         constructor
         ·rfl
         ·rfl
        refine hK.out _ _ ⟨(az (eu dH.out _) 0).trans rfl,(az (eu dH.out _) 1).trans rfl,(az (eu dH.out _) 2).trans rfl,(az (eu dH.out _) 3).trans rfl,(az (eu dH.out _) 4).trans rfl,(az (eu dH.out _) 5).trans rfl,(az (eu jV.out _) 0).trans rfl,(az (eu jV.out _) 1).trans rfl,(World.cell?_alloc_lt _ _ _ (World.block_lt_of_cell? _ _ (((cb HB Io).trans rfl)))).trans (((cb HB Io).trans rfl)),(World.cell?_alloc_lt _ _ _ (World.block_lt_of_cell? _ _ (((cb HB Ip).trans rfl)))).trans (((cb HB Ip).trans rfl))⟩ (fun hHeld=>?_);clear hK K;refine nA 75 ?_;refine oA 10 76 HT_ (fun K hK=>?_);refine Kd.U1 Kd.string (w0:=w) w.heap.size (by rfl) (.tmp 67) (.tmp 75) 42 9 (.string ⟨#[]⟩) 16 rfl Tryz.underlying42 xQ rfl (by decide) (by omega) FY BO (aX ByteArray.empty ((aH ((av fO gM).f1) 0).f0) 0) [.string (aX ByteArray.empty ((aH ((av fO gM).f1) 0).f0) 0)] (fun _=>True) (fun _=>False) rfl rfl ?aP (fun _ hk=>hk.elim) ?aF ?aO ?aB ?aS ?aL ?_
        (case aP=>exact rfl)
        (case aB=>exact (bs HB))
        (case aF=>exact (fun _ _=>trivial))
        (case aO=>exact (rs lq))
        (case aS=>exact (bC (bs HB)))
        (case aL=>have:=aow.out;omega)
        intro aJb Nh ho hb hg hat
        rw [← apk.out] at ho
        replace lu:=am (Kd.Er (rs lu) (Kd.GX (rs lq)) (by decide) hg);replace gY:=am (fG (ks gY) hg (Kd.jy lq.out gY.out (by decide)));replace dH:=am (fG (ks dH) hg (Kd.jy lq.out dH.out (by decide)));replace jv:=am (fG (ks jv) hg (Kd.jy lq.out jv.out (by decide)));replace jV:=am (fG (ks jV) hg (Kd.jy lq.out jV.out (by decide)));replace HB:=am (hb);have afc:=am (ho);clear lq;clear ho hb hg hat;obtain ⟨Uo,VV,PE⟩:=Kd.iy afc.out
        (first|subst PE|(injection PE with dZ iJ d9;have iK:=dZ.symm;have iL:=d9.symm;clear dZ iJ d9;subst iK;subst iL))
        refine hK.out _ _ (oF dH (Ia jV (aJ (cb HB Io) (hc (cb HB Ip))))).out (fun hHeld=>?_);clear hK K;refine nA 76 ?_;refine bV 11 ?_;refine FC (i:=12) (N:=none) #[true,true,true,true,true,true,true,true,true,true,true,true,true] rfl rfl (vB HT_.out (by kernel_rfl)) (by decide) (fun K hK=>?_);have auv:Nh.cell? ⟨ic,4,none⟩=some (FY):=(az dH.out 4).trans rfl;have ati:=aV dH.out 4;have aur:=KF.out;have aHi:=OD.out;have aHj:=OC.out;have att:=KE.out;have aE4:=OB.out;have aE5:=OA.out;refine vD (w1:=?_) (by rfl) rfl ?_ ?_
        rotate_left
        ·go_simp
         rfl
        refine hK.out _ _ ?_;clear hK K;refine fq (gp HT_.out (by kernel_rfl)) ?_
        try go_wp2
        go_roundg k2
        case measure=>have:=Ci.out;have:=cz.out;omega
        case rel=>exact ⟨(wrap64 (gM+1)),(ael),(BP),(.slice Uo ael.length VV),(FZ),fg,H',⟨by have:=Ci.out;have:=cz.out;omega⟩,⟨Kd.dI (rf (Kd.lK afc.out dH.out (by decide))) (fun _ hk=>trivial)⟩,⟨Kd.dI (rf (Kd.lK lu.out dH.out (by decide))) (fun _ hk=>trivial)⟩,⟨ks gY⟩,⟨kp dH⟩,⟨ks jv⟩,⟨bs HB⟩⟩
       ·intro EF EG Ht H;replace H:=bo H;obtain ⟨⟨Tm,Tn,Tp,Tq,Tt⟩,A52,H⟩:=H;(try dsimp only at H)
        revert H;refine jE ?_
        intro c53 H;have aoy:=am c53;clear c53;obtain ⟨aem,acK⟩:∃ y_:List (aY),y_=(BP++[(⟨Tm,Tn,Tp,Tq,Tt⟩:aY)]):=⟨_,rfl⟩
        replace H:(gK.l0 k2 a0 fO (fO.length:Int) (wrap64 (gM+1)) a0 (aX ByteArray.empty ((aH ((av l1 0).f1) 0).f0) 0) yZ DD BO aem)=some (r1,r2,r3,r4,r5,r6):=ye acK H
        have apl:=am acK;clear acK;have H':=am H;clear H;obtain ⟨p91,q91,ap4,qc,qm,e91,Si,Sj,QK,Qo⟩:=wi (lv afi.out gM)
        cases e91
        replace Si:=cb HB Si;replace Sj:=cb HB Sj;have ZO:=am Qo;have aeW:=am QK;clear Qo QK
        try go_wp2_with (first|((with_reducible refine aN (N:=10) rfl ?_);refine bx 10 (cs:=#[.string (⟨#[]⟩:ByteArray),.slice none 0 0]) (t:=62) ?_;intro kC hg DN hbox hb;replace lq:=am (Kd.dK (rs lq) hb);replace lu:=am (Kd.dK (rs lu) hb);have jV:=am (hbox);have amW:=gw hg HB;replace HB:=bq HB hb;have aae:=na hg gY;have aac:=nc hg gY;replace gY:=bb gY hb;have OA:=na hg dH;have OC:=nc hg dH;replace dH:=bb dH hb;have aag:=na hg jv;have aad:=nc hg jv;replace jv:=bb jv hb;clear hb hbox hg;have ajh:=aac.out;have ajt:=aae.out;have aFJ:=OC.out;have aGu:=OA.out;have aFK:=aad.out;have aGv:=aag.out;have aCE:=gG jV))
        have bP:af (Kd.R Kd.string 9 ((DN.setCell ⟨kC,0,none⟩ (.string ((av fO gM).f0))).setCell ⟨kC,1,none⟩ (.slice qc ((av fO gM).f1).length qm)) w.heap.size (fun _=>True) FY BO):=⟨Kd.dI (rf (Kd.lK lq.out jV.out (by decide))) (fun _ hk=>trivial)⟩;have bQ:af (Kd.R iR 95 ((DN.setCell ⟨kC,0,none⟩ (.string ((av fO gM).f0))).setCell ⟨kC,1,none⟩ (.slice qc ((av fO gM).f1).length qm)) w.heap.size (fun _=>True) FZ BP):=⟨Kd.dI (rf (Kd.lK lu.out jV.out (by decide))) (fun _ hk=>trivial)⟩;have bU:=kz ((DN.setCell ⟨kC,0,none⟩ (.string ((av fO gM).f0))).setCell ⟨kC,1,none⟩ (.slice qc ((av fO gM).f1).length qm)) gY;have gW:=kz ((DN.setCell ⟨kC,0,none⟩ (.string ((av fO gM).f0))).setCell ⟨kC,1,none⟩ (.slice qc ((av fO gM).f1).length qm)) dH;have l9:=kz ((DN.setCell ⟨kC,0,none⟩ (.string ((av fO gM).f0))).setCell ⟨kC,1,none⟩ (.slice qc ((av fO gM).f1).length qm)) jv;have uD:af (((DN.setCell ⟨kC,0,none⟩ (.string ((av fO gM).f0))).setCell ⟨kC,1,none⟩ (.slice qc ((av fO gM).f1).length qm)).heap[kC]? = some (.cells #[.string ((av fO gM).f0),.slice qc ((av fO gM).f1).length qm] 62 (0,0))):=⟨kp jV⟩;have xR:af (Below w.heap.size w ((DN.setCell ⟨kC,0,none⟩ (.string ((av fO gM).f0))).setCell ⟨kC,1,none⟩ (.slice qc ((av fO gM).f1).length qm))):=⟨bs HB⟩;(try clear lq);(try clear lu);(try clear gY);(try clear dH);(try clear jv);(try clear jV);(try clear HB)
        generalize ((DN.setCell ⟨kC,0,none⟩ (.string ((av fO gM).f0))).setCell ⟨kC,1,none⟩ (.slice qc ((av fO gM).f1).length qm))=w59 at bP bQ bU gW l9 uD xR ⊢
        have lq:=bP;have lu:=bQ;have gY:=bU;have dH:=gW;have jv:=l9;have jV:=uD;have HB:=xR;clear bP bQ bU gW l9 uD xR;replace lq:=am (Kd.dY lq.out);replace lu:=am (Kd.dY lu.out);replace gY:=am (bg gY.out);replace dH:=am (bg dH.out);replace jv:=am (bg jv.out);replace jV:=am (bg jV.out);replace HB:=am (cO HB.out);refine Af 9 [8] (oF dH (hb2 jV)) (fun hHeld=>?_);refine gq gK.wP gK.vY (fun HT_ HW_=>?_)
        generalize w59.drew=w60 at lq lu gY dH jv jV HB hHeld ⊢
        refine bV 0 ?_;refine bV 2 ?_;refine ta 1 ?_;refine ta 3 ?_;refine oA 4 82 HT_ (fun K hK=>?_);refine gA Tryz.func88 #[.int .i64 a0,.agg #[.string ((av fO gM).f0),.slice qc ((av fO gM).f1).length qm]] ?_;(with_reducible refine (qU.calls k2 a0 ((av fO gM).f0) _ _ ((av fO gM).f1) Tm Tn Tp Tq Tt _ ?aI ?aW (oJ HTP (bs HB)) A52.out).mono ?_)
        (case aI=>exact sd (Kd.bJ ZO.out HB.out))
        (case aW=>exact aeW.out)
        rintro e w61 ⟨rfl,hb⟩;refine ⟨_,rfl,?_⟩;replace lq:=am (Kd.dK (rs lq) hb);replace lu:=am (Kd.dK (rs lu) hb);replace gY:=bb gY hb;replace dH:=bb dH hb;replace jv:=bb jv hb;replace jV:=bb jV hb;replace HB:=bq HB hb;(try clear hb);refine hK.out _ _ (oF dH (hb2 jV)).out (fun hHeld=>?_);clear hK K;refine nA 82 ?_;refine oA 5 83 HT_ (fun K hK=>?_);refine DF (w1:=?_) (v:=?_) (by rfl) rfl ?_ ?_
        rotate_left 2
        ·go_simp
         constructor
         ·rfl
         ·rfl
        refine hK.out _ _ ⟨(az (eu dH.out _) 0).trans rfl,(az (eu dH.out _) 1).trans rfl,(az (eu dH.out _) 2).trans rfl,(az (eu dH.out _) 3).trans rfl,(az (eu dH.out _) 4).trans rfl,(az (eu dH.out _) 5).trans rfl,(az (eu jV.out _) 0).trans rfl,(az (eu jV.out _) 1).trans rfl⟩ (fun hHeld=>?_);clear hK K;refine nA 83 ?_;refine oA 6 84 HT_ (fun K hK=>?_);refine Kd.U1 iR (w0:=w) w.heap.size (by rfl) (.tmp 79) (.tmp 83) 43 95 (.agg #[(.int .i64 0),(.string ⟨#[]⟩),(.int .i64 0),(.int .i64 0),(.string ⟨#[]⟩)]) 56 rfl Tryz.underlying43 Xg rfl (by decide) (by omega) FZ BP (⟨Tm,Tn,Tp,Tq,Tt⟩:aY) [.int .i64 Tm,.string Tn,.int .i64 Tp,.int .i64 Tq,.string Tt] (fun _=>True) (fun _=>False) rfl rfl ?aP (fun _ hk=>hk.elim) ?aF ?aO ?aB ?aS ?aL ?_
        (case aP=>exact Su _ _ _ (⟨Tm,Tn,Tp,Tq,Tt⟩:aY))
        (case aB=>exact (bs HB))
        (case aF=>exact (fun _ _=>trivial))
        (case aO=>exact (rs lu))
        (case aS=>exact (bC (bs HB)))
        (case aL=>have:=aoy.out;omega)
        intro aJc w62 ho hb hg hat
        rw [← apl.out] at ho
        replace lq:=am (Kd.Er (rs lq) (Kd.GX (rs lu)) (by decide) hg);replace gY:=am (fG (ks gY) hg (Kd.jy lu.out gY.out (by decide)));replace dH:=am (fG (ks dH) hg (Kd.jy lu.out dH.out (by decide)));replace jv:=am (fG (ks jv) hg (Kd.jy lu.out jv.out (by decide)));replace jV:=am (fG (ks jV) hg (Kd.jy lu.out jV.out (by decide)));replace HB:=am (hb);have afd:=am (ho);clear lu;clear ho hb hg hat;obtain ⟨amx,ars,ahp⟩:=Kd.iy afd.out
        (first|subst ahp|(injection ahp with dZ iJ d9;have iK:=dZ.symm;have iL:=d9.symm;clear dZ iJ d9;subst iK;subst iL))
        refine hK.out _ _ (oF dH (hb2 jV)).out (fun hHeld=>?_);clear hK K;refine nA 84 ?_;refine bV 7 ?_;refine FC (i:=8) (N:=none) #[true,true,true,true,true,true,true,true,true] rfl rfl (vB HT_.out (by kernel_rfl)) (by decide) (fun K hK=>?_);have aHY:w62.cell? ⟨ic,5,none⟩=some (FZ):=(az dH.out 5).trans rfl;have aDw:=aV dH.out 5;have aHp:=KF.out;have aHq:=OD.out;have aHr:=OC.out;have aFb:=KE.out;have aFc:=OB.out;have aFd:=OA.out;refine vD (w1:=?_) (by rfl) rfl ?_ ?_
        rotate_left
        ·go_simp
         rfl
        refine hK.out _ _ ?_;clear hK K;refine fq (gp HT_.out (by kernel_rfl)) ?_
        try go_wp2
        go_roundg k2
        case measure=>have:=Ci.out;have:=cz.out;omega
        case rel=>exact ⟨(wrap64 (gM+1)),(BO),(aem),(FY),(.slice amx aem.length ars),fg,H',⟨by have:=Ci.out;have:=cz.out;omega⟩,⟨Kd.dI (rf (Kd.lK lq.out dH.out (by decide))) (fun _ hk=>trivial)⟩,⟨Kd.dI (rf (Kd.lK afd.out dH.out (by decide))) (fun _ hk=>trivial)⟩,⟨ks gY⟩,⟨kp dH⟩,⟨ks jv⟩,⟨bs HB⟩⟩
      ·intro VM H;replace H:=MV H;obtain ⟨rfl,rfl,rfl,rfl,rfl,rfl⟩:=H;have aFO:=KE.out;have aGz:=KF.out;have aFP:=OB.out;have aGA:=OD.out;have aCH:=dC dH;have atN:=aaf.out;have auj:=aah.out;have as0:=dC gY;obtain ⟨amy,art,asi⟩:=Kd.iy lq.out;subst asi;obtain ⟨amz,aru,asj⟩:=Kd.iy lu.out;subst asj
       go_wp2
       refine bodyPost_ret (results_cell_row rfl _ _ Wi 45 #[.int .i64 a0,.string (aX ByteArray.empty ((aH ((av l1 0).f1) 0).f0) 0),.string yZ,.int .i64 DD,.slice amy BO.length art,.slice amz BP.length aru] (0,0) _ rfl (kp gY) Tryz.underlying45 rfl (by kernel_rfl)) rfl ?_
       exact ⟨_,_,by first|rfl|(simp [ou,oz] <;> rfl)|(simp only [← Wu];first|rfl|(simp [ou,oz] <;> rfl))|(simp [*,ou,oz] <;> rfl),Kd.dI (rf (Kd.lK lq.out gY.out (by decide))) (fun _ hk=>trivial),Kd.dI (rf (Kd.lK lu.out gY.out (by decide))) (fun _ hk=>trivial),bs HB⟩
 ·rw [if_neg c3] at H
  exact absurd H (by simp)
end Go.Proofs.YtapilmimgiaglaaGreatDoor.QA
namespace Go.Proofs.YtapilmimgiaglaaGreatDoor.QA
open Go.RowKit Go.Proofs.bB.fA Go.Proofs.bB.PrintLast Go.Proofs.bB.PrintMore
attribute [local go_sem] o6 pg o9 pE o8 pz o7 pq   -- for this text's walks alone
attribute [local go_sem high] ahq
theorem uF.calls (k:Nat) (A0:Option Addr) (c0:Nat) (l0:List ByteArray) (A1:Option Addr) (c1:Nat) (l1:List ByteArray) (r:Bool) (w:World) (hr0:Kd.C Kd.string w A0 l0.length l0) (hc0:l0.length≤c0) (hr1:Kd.C Kd.string w A1 l1.length l1) (hc1:l1.length≤c1) (H:uF.f k l0 l1=some r) :
  Calls Tryz.prog 85 #[.slice A0 l0.length c0,.slice A1 l1.length c1] w fun e w'=>e=.returned (.bool r)∧aT w w':=by
 have fZ:=am hr0;have ku:=am hc0;clear hr0 hc0;have HR1:=am hr1;have xc:=am hc1;clear hr1 hc1;unfold uF.f at H
 revert H;refine Dk ?_ ?_
 ·intro c3 bN fo H
  have sS:(l0.length == l1.length)=true:=by first|simpa using c3|(simp at c3 ⊢;omega)
  clear c3;have H':=am H;clear H
  go_in
  go_wp2
  repeat (go_quiet (fail);try go_wp2)
  go_loopg [13] k (fun kq v13 w'=>∃ (jg:Int),v13=.int .i64 jg∧af (uF.l0 kq l0 l1 (l0.length:Int) jg=some r)∧af (kq≤k)∧aT w w')
  case atStart=>exact ⟨(0),fg,H',⟨Nat.le_refl _⟩,by repeat (first|exact aT.refl _|apply aT.step)⟩
  case round =>
   clear H'
   try clear c1
   try clear c3
   try clear bN
   try clear fo
   try clear sS
   obtain ⟨jg,rfl,HA,aU,⟨m1,rfl⟩⟩:=hrel
   cases gk with
   | zero=>exact absurd HA.out (by simp [uF.l0])
   | succ k1 =>
    have H:=HA.out;clear HA;simp only [uF.l0] at H
    revert H;refine cB ?_ ?_
    ·intro dS H
     revert H;refine bu ?_
     intro kv H
     revert H;refine bu ?_
     intro gQ H
     revert H;refine bu ?_
     intro kJ H
     revert H;refine bL ?_ ?_
     ·intro jR uU H;have H':=am H;clear H;obtain ⟨p9,q9,yj,e9,nD⟩:=wi (Kd.iZ fZ.out jg)
      cases e9
      obtain ⟨jS,jL,aao,e10,WF⟩:=wi (Kd.iZ HR1.out jg)
      cases e10
      go_wp2
      repeat (go_quiet (fail);try go_wp2)
      go_roundg k1
      case measure=>have:=aU.out;omega
      case rel=>exact ⟨(wrap64 (jg+1)),fg,H',⟨by have:=aU.out;omega⟩,by repeat (first|exact aT.refl _|apply aT.step)⟩
     ·intro c8 jR uU H;obtain rfl:=si H;obtain ⟨p9,q9,yj,e9,nD⟩:=wi (Kd.iZ fZ.out jg)
      cases e9
      obtain ⟨jS,jL,aao,e10,WF⟩:=wi (Kd.iZ HR1.out jg)
      cases e10
      go_wp2
      repeat (go_quiet (fail);try go_wp2)
      go_ret
      exact ⟨fg,dr⟩
    ·intro dS H;obtain rfl:=si H
     go_wp2
     repeat (go_quiet (fail);try go_wp2)
     go_ret
     exact ⟨fg,dr⟩
 ·intro c3 bN fo H
  have sS:(l0.length == l1.length)=false:=by first|simpa using c3|(simp at c3 ⊢;omega)
  obtain rfl:=si H
  go_in
  go_wp2
  repeat (go_quiet (fail);try go_wp2)
  go_ret
  exact ⟨fg,dr⟩
theorem uq.calls (k:Nat) (A0:Option Addr) (c0:Nat) (l0:List (aY)) (A1:Option Addr) (c1:Nat) (l1:List (aY)) (r:Bool) (w:World) (hr0:Kd.C iR w A0 l0.length l0) (hc0:l0.length≤c0) (hr1:Kd.C iR w A1 l1.length l1) (hc1:l1.length≤c1) (H:uq.f k l0 l1=some r) :
  Calls Tryz.prog 86 #[.slice A0 l0.length c0,.slice A1 l1.length c1] w fun e w'=>e=.returned (.bool r)∧aT w w':=by
 have Bh:=Tryz.underlying95;have fZ:=am hr0;have ku:=am hc0;clear hr0 hc0;have HR1:=am hr1;have xc:=am hc1;clear hr1 hc1;unfold uq.f at H
 revert H;refine Dk ?_ ?_
 ·intro c3 bN fo H
  have sS:(l0.length == l1.length)=true:=by first|simpa using c3|(simp at c3 ⊢;omega)
  clear c3;have H':=am H;clear H
  go_in
  go_wp2
  repeat (go_quiet (fail);try go_wp2)
  go_loopg [13] k (fun kq v13 w'=>∃ (jg:Int),v13=.int .i64 jg∧af (uq.l0 kq l0 l1 (l0.length:Int) jg=some r)∧af (kq≤k)∧aT w w')
  case atStart=>exact ⟨(0),fg,H',⟨Nat.le_refl _⟩,by repeat (first|exact aT.refl _|apply aT.step)⟩
  case round =>
   clear H'
   try clear c1
   try clear c3
   try clear bN
   try clear fo
   try clear sS
   obtain ⟨jg,rfl,HA,aU,⟨m1,rfl⟩⟩:=hrel
   cases gk with
   | zero=>exact absurd HA.out (by simp [uq.l0])
   | succ k1 =>
    have H:=HA.out;clear HA;simp only [uq.l0] at H
    revert H;refine cB ?_ ?_
    ·intro dS H
     revert H;refine bu ?_
     intro kv H
     revert H;refine bu ?_
     intro gQ H
     revert H;refine bu ?_
     intro kJ H
     revert H;refine gz ?_ ?_
     ·intro c8 H;have jR:(!(((ai l0 jg).f0) == ((ai l1 jg).f0)) || (!((((ai l0 jg).f1).toList) == (((ai l1 jg).f1).toList)) || (!(((ai l0 jg).f2) == ((ai l1 jg).f2)) || (!(((ai l0 jg).f3) == ((ai l1 jg).f3)) || (!((((ai l0 jg).f4).toList) == (((ai l1 jg).f4).toList)))))))=true:=c8;clear c8;obtain rfl:=si H;obtain ⟨p9,q9,yj,e9,nD,qw,wG,zU,zV⟩:=wi (rM fZ.out jg)
      cases e9
      obtain ⟨jS,jL,aao,e10,WF,ajF,ajG,ajH,ajI⟩:=wi (rM HR1.out jg)
      cases e10
      go_wp2
      repeat (go_quiet (fail);try go_wp2)
      go_ret
      exact ⟨fg,dr⟩
     ·intro c8 H
      have jR:(!(((ai l0 jg).f0) == ((ai l1 jg).f0)) || (!((((ai l0 jg).f1).toList) == (((ai l1 jg).f1).toList)) || (!(((ai l0 jg).f2) == ((ai l1 jg).f2)) || (!(((ai l0 jg).f3) == ((ai l1 jg).f3)) || (!((((ai l0 jg).f4).toList) == (((ai l1 jg).f4).toList)))))))=false:=by simpa using c8
      clear c8;have H':=am H;clear H;obtain ⟨p9,q9,yj,e9,nD,qw,wG,zU,zV⟩:=wi (rM fZ.out jg)
      cases e9
      obtain ⟨jS,jL,aao,e10,WF,ajF,ajG,ajH,ajI⟩:=wi (rM HR1.out jg)
      cases e10
      go_wp2
      repeat (go_quiet (fail);try go_wp2)
      go_roundg k1
      case measure=>have:=aU.out;omega
      case rel=>exact ⟨(wrap64 (jg+1)),fg,H',⟨by have:=aU.out;omega⟩,by repeat (first|exact aT.refl _|apply aT.step)⟩
    ·intro dS H;obtain rfl:=si H
     go_wp2
     repeat (go_quiet (fail);try go_wp2)
     go_ret
     exact ⟨fg,dr⟩
 ·intro c3 bN fo H
  have sS:(l0.length == l1.length)=false:=by first|simpa using c3|(simp at c3 ⊢;omega)
  obtain rfl:=si H
  go_in
  go_wp2
  repeat (go_quiet (fail);try go_wp2)
  go_ret
  exact ⟨fg,dr⟩
end Go.Proofs.YtapilmimgiaglaaGreatDoor.QA
