-- Merged by a program of this session (wip/tool/pack.py) out of its own texts for this claim.
import Derived.Test.YtapilmimgiaglaaGreatDoorKFnExactParcelRight15
set_option maxHeartbeats 8000000
set_option maxRecDepth 100000
set_option linter.unusedSimpArgs false
set_option linter.unusedVariables false
namespace Go.Proofs.YtapilmimgiaglaaGreatDoor.QA
open Go.RowKit Go.Proofs.bB.fA Go.Proofs.bB.PrintLast Go.Proofs.bB.PrintMore
attribute [local go_sem] o6 pg o9 pE o8 pz o7 pq   -- for this text's walks alone
theorem Xf (g:Nat) (x:Int) (w:World):Calls Tryz.prog 112 #[.pointer (some ⟨g,0,none⟩),.int .i32 x] w fun e w'=>e=.returned (.pointer (some ⟨g,if x=73 then 1 else 4,none⟩))∧w'=w:=by
 have hu:=Tryz.underlying95
 by_cases c:x=73
 ·subst c
  go_enter Tryz.func112,Tryz.ntmps112
  go_wp2
  go_ret
  exact ⟨rfl,rfl⟩
 ·have c1:(x == 73)=false:=beq_eq_false_iff_ne.mpr c;rw [if_neg c]
  go_enter Tryz.func112,Tryz.ntmps112
  go_wp2
  go_ret
  exact ⟨rfl,rfl⟩
theorem Mr (g:Nat) (x:Int) (w:World):Calls Tryz.prog 113 #[.pointer (some ⟨g,0,none⟩),.int .i32 x] w fun e w'=>e=.returned (.pointer (some ⟨g,if x=78 then 0 else if x=81 then 2 else 3,none⟩))∧w'=w:=by
 have hu:=Tryz.underlying95
 by_cases c:x=78
 ·subst c
  go_enter Tryz.func113,Tryz.ntmps113
  go_wp2
  go_ret
  exact ⟨rfl,rfl⟩
 ·have c1:(x == 78)=false:=beq_eq_false_iff_ne.mpr c;rw [if_neg c]
  by_cases d:x=81
  ·subst d
   go_enter Tryz.func113,Tryz.ntmps113
   go_wp2
   go_ret
   exact ⟨rfl,rfl⟩
  ·have d1:(x == 81)=false:=beq_eq_false_iff_ne.mpr d;rw [if_neg d]
   go_enter Tryz.func113,Tryz.ntmps113
   go_wp2
   go_ret
   exact ⟨rfl,rfl⟩
theorem akb {s:ByteArray} {p:Nat} {c:UInt8} {cs:List UInt8} (h:s.data.toList.drop p=c :: cs):∃ hp:p<s.size,s[p]'hp=c∧s.data.toList.drop (p+1)=cs:=by
 have hl:=congrArg List.length h
 rw [List.length_drop,List.length_cons] at hl
 have hs:s.data.toList.length=s.size:=rfl
 have hp:p<s.size:=by omega
 have e:=List.drop_eq_getElem_cons (l:=s.data.toList) (i:=p) (by omega)
 rw [h] at e
 injection e with e1 e2
 exact ⟨hp,by rw [e1];rfl,e2.symm⟩
theorem IK {s:ByteArray} {p k kb:Nat} {W:World} {t:TypeId} {cs:Array Value} {z:Nat × Nat} (hit:W.heap[kb]? = some (.stringIter s p)) (h:W.heap[k]? = some (.cells cs t z)):k≠kb:=by
 rintro rfl
 rw [hit] at h
 cases h
theorem auN {α:Type} {d:Kd α} {e base:Nat} {ok:Nat→Prop} {W:World} {v:Value} {xs:List α} {s:ByteArray} {p kb:Nat} (q:Nat) (h:d.R e W base ok v xs) (hit:W.heap[kb]? = some (.stringIter s p)):d.R e (W.iterAt kb s q) base ok v xs :=
 Kd.dI (Kd.OH (Kd.tY h) (fun k hk _=>by
  obtain ⟨_,_,_,_,_,c,hc⟩:=hk
  exact Lib.iterAt_other W kb k s q (IK hit hc))) (fun _ hk=>hk.1)
theorem Sn {α:Type} {d:Kd α} {e base:Nat} {ok:Nat→Prop} {W:World} {v:Value} {xs:List α} {s:ByteArray} {p kb:Nat} (h:d.R e W base ok v xs) (hit:W.heap[kb]? = some (.stringIter s p)):some kb≠v.ownBlock:=fun e_=>by
 obtain ⟨c,hc⟩:=Kd.GX h kb e_.symm
 exact IK hit hc rfl
theorem akc {s:ByteArray} {p kb:Nat} {W:World} (hit:W.heap[kb]? = some (.stringIter s p)):kb<W.heap.size:=by
 obtain ⟨h,_⟩:=Array.getElem?_eq_some_iff.mp hit
 exact h
theorem Mq {s:ByteArray} {p kb:Nat} {W W1:World} (hit:W.heap[kb]? = some (.stringIter s p)) (hb:Below W.heap.size W W1):W1.heap[kb]? = some (.stringIter s p):=(hb.block kb (akc hit)).trans hit
theorem Sm {s:ByteArray} {p kb:Nat} {W W1:World} {row:Option Nat} (hit:W.heap[kb]? = some (.stringIter s p)) (hg:W.grownBy W1 row) (hne:some kb≠row):W1.heap[kb]? = some (.stringIter s p):=(hg.block kb (akc hit) hne).trans hit
theorem nE.calls (k:Nat) (a0:Int) (f0:Int) (f1:ByteArray) (f2 f3:Int) (f4:ByteArray) (r:List ByteArray) (w:World) (hTF:sM w) (h:nE.f k a0 f0 f1 f2 f3 f4=some r) :
  Calls Tryz.prog 81 #[.int .i64 a0,.agg #[.int .i64 f0,.string f1,.int .i64 f2,.int .i64 f3,.string f4]] w fun e w'=>∃ kT:Value,e=.returned (kT)∧Kd.R Kd.string 9 w' w.heap.size (fun _=>True) kT r∧Below w.heap.size w w':=by
 have HTF:=am hTF;clear hTF;have hu:=Tryz.underlying95;have hu9:=Tryz.underlying9;have HB:=am (Below.refl w.heap.size w);obtain ⟨s,A1,H⟩:=Option.bind_eq_some_iff.mp (show (qy.f k a0).bind (fun s=>nE.l0 f0 f1 f2 f3 f4 s.data.toList [])=some r from h);clear h;replace A1:=am A1;replace H:=am H
 go_in
 go_wp2_with (first|((with_reducible refine aN (N:=3) rfl ?_);refine bx 3 (cs:=#[.int .i64 f0,.string f1,.int .i64 f2,.int .i64 f3,.string f4]) (t:=95) ?_;intro gb hg w3 hbox hb;have BK:=am (hbox);have GE:=am ((gs hg (bs HB)));replace HB:=bq HB hb;clear hb hbox hg)|((with_reducible refine aN (N:=8) rfl ?_);refine rl Kd.string 9 (N:=8) (xs:=([]:List ByteArray)) (inner:=[]) ?hp ?_;(case hp=>exact (aQ.none _ _));intro v1 w6 wy hb hg_ hnew_;clear hg_ hnew_;have HO:=am (Kd.gU wy (bC (bs HB)));replace BK:=am (aZ (ks BK) hb);replace HB:=bq HB hb;clear hb wy)|(go_at_call 110;(with_reducible refine (qy.calls k a0 s _ A1.out).mono ?_);rintro e w' ⟨rfl,⟨nd,rfl⟩⟩))
 have hbk:gb<w6.heap.size:=rO BK.out;have hit:((w6.drewN nd).iter s 0).heap[w6.heap.size]? = some (.stringIter s 0):=World.iter_heap (w6.drewN nd) s 0;have hge:w.heap.size≤w6.heap.size:=HB.out.size;replace HO:=am (show Kd.R Kd.string 9 ((w6.drewN nd).iter s 0) w.heap.size (fun _=>True) v1 [] from by show Kd.R Kd.string 9 ((w6.drewN nd).alloc (.stringIter s 0)) w.heap.size (fun _=>True) v1 [];exact rs HO);replace BK:=am (show ((w6.drewN nd).iter s 0).heap[gb]? = _ from eu (lw BK.out _) _);replace HB:=am (show Below w.heap.size w ((w6.drewN nd).iter s 0) from by show Below w.heap.size w ((w6.drewN nd).alloc (.stringIter s 0));exact bs HB)
 generalize (w6.drewN nd).iter s 0=W at hit HO BK HB ⊢
 generalize w6.heap.size=kb at hit hge hbk ⊢
 go_loopg [5] s.size (fun gk v5 wx=>∃ (p:Nat) (acc:List ByteArray),af (nE.l0 f0 f1 f2 f3 f4 (s.data.toList.drop p) acc=some r)∧af (s.size≤p+gk)∧af (Kd.R Kd.string 9 wx w.heap.size (fun _=>True) v5 acc)∧af (wx.heap[kb]? = some (.stringIter s p))∧af (wx.heap[gb]? = some (.cells #[.int .i64 f0,.string f1,.int .i64 f2,.int .i64 f3,.string f4] 95 (0,0)))∧af (Below w.heap.size w wx))
 case atStart=>exact ⟨0,[],H,⟨by omega⟩,HO,⟨hit⟩,BK,HB⟩
 case round =>
  clear H HO BK HB hit;obtain ⟨p,acc,H,HG,HO,hit,BK,HB⟩:=hrel
  cases hd:s.data.toList.drop p with
  | nil =>
   have hp:¬ p<s.size:=by have:=congrArg List.length hd;rw [List.length_drop,List.length_nil,show s.data.toList.length=s.size from rfl] at this;omega
   replace H:=H.out;rw [hd] at H;obtain rfl:=si H;clear H
   have hnx:∀ ty,(Instr.next (.pointer (some ⟨kb,0,none⟩)) true ty).run Tryz.prog wr=_:=fun ty=>Lib.run_next_end_at wr kb s p ty hit.out hp
   go_wp2
   go_ret
   exact ⟨_,rfl,HO.out,HB.out⟩
  | cons c cs =>
   obtain ⟨hp,hc,hdr⟩:=akb hd;replace H:=H.out;rw [hd] at H;clear hd
   unfold nE.l0 at H
   revert H;refine jE ?_
   intro hl H;replace hl:=am hl
   have HU:∀ z:Nat,c.toNat=z→z<128→∀ ty,(Instr.next (.pointer (some ⟨kb,0,none⟩)) true ty).run Tryz.prog wr=.ok (.tuple #[.bool true,.int .i64 p,.int .i32 z]) (wr.iterAt kb s (p+1)):=by
    intro z hz hlt ty;have e:=decode_ascii s p hp (by rw [hc];omega)
    rw [hc,hz] at e
    have:=Lib.run_next_any_at (P:=Tryz.prog) wr kb s p ty hit.out hp
    rw [e] at this
    exact this
   have hit2:=Lib.iterAt_heap wr kb s p (p+1) hit.out;have eO:=am (show (wr.iterAt kb s (p+1)).heap[gb]? = _ from (Lib.iterAt_other wr kb gb s (p+1) (IK hit.out BK.out)).trans BK.out);replace HO:=am (auN (p+1) HO.out hit.out);replace HB:=am (Lib.below_iterAt HB.out (k:=kb) hge s (p+1));clear hit BK hc
   generalize wr.iterAt kb s (p+1)=W1 at HU hit2 eO HO HB
   replace hit2:=am hit2;replace hdr:=am hdr;obtain ⟨g1,rfl⟩:∃ g1,gk=g1+1:=⟨gk - 1,by have:=HG.out;omega⟩
   revert H;refine gz ?_ ?_
   ·intro c1 H;have hnx:=HU 77 (by rw [c1];rfl) (by omega);clear HU
    revert H;refine gz ?_ ?_
    ·intro c2 H;have H':=am H;clear H;have hcz:=jY eO;have b0:(f3 == 0)=true:=beq_iff_eq.mpr c2;have b1:(f3 != 0)=false:=bne_eq_false_iff_eq.mpr c2;clear c1 c2
     go_wp2
     go_roundg g1
     case measure=>omega
     case rel=>exact ⟨p+1,acc,by rw [hdr.out];exact H',⟨by have:=HG.out;omega⟩,HO,hit2,eO,HB⟩
    ·intro c2 H;replace H:=bo H;obtain ⟨d,A2,H⟩:=H;have H':=am H;clear H;have hcz:=jY eO;have b0:(f3 == 0)=false:=beq_eq_false_iff_ne.mpr c2;have b1:(f3 != 0)=true:=bne_iff_ne.mpr c2;clear c1 c2
     go_wp2_with (first|(go_at_call 111;(with_reducible refine (xP.calls _ false _ rfl).mono ?_);rintro e w' ⟨rfl,⟨ig,rfl⟩⟩;replace hit2:=am (show (W1.drewN ig).heap[kb]? = _ from hit2.out);replace eO:=am (lw eO.out ig);replace HO:=am (Kd.jk HO.out ig);replace HB:=am (jc HB.out ig))|(go_at_call 113;refine (Mr gb _ _).mono ?_;rintro e w' ⟨rfl,rfl⟩)|(go_at_call 79;(with_reducible refine (wH.calls f3 d _ (vN HTF HB.out) A2.out).mono ?_);rintro e w8 ⟨rfl,hb⟩;replace hit2:=am (Mq hit2.out hb);replace eO:=bb eO hb;replace HO:=am (Kd.dK HO.out hb);replace HB:=am (fF HB.out hb);clear hb)|((with_reducible refine pX (b:=.append) (xs:=#[.tmp 15,.tmp 21]) rfl ?_);at_builtin;refine Kd.rH Kd.string (w0:=w) w.heap.size rfl (.tmp 15) (.tmp 21) 42 9 (.string ⟨#[]⟩) 16 rfl Tryz.underlying42 xQ rfl (by decide) (by omega) u5 acc d [.string d] (fun _=>True) (fun _=>False) rfl rfl ?aP (fun _ hk=>hk.elim) (fun _ _=>trivial) ?aO ?aB ?aS ?aL ?_;(case aP=>exact rfl);(case aB=>exact HB.out);(case aO=>exact HO.out);(case aS=>exact HB.out.size);(case aL=>have:=hl.out;omega);intro v2 w9 ho hb hg hat;replace hit2:=am (Sm hit2.out hg (Sn HO.out hit2.out));replace eO:=am (fG (ks eO) hg (Kd.jy HO.out eO.out (by decide)));replace HO:=am ho;replace HB:=am hb;clear ho hb hg hat))
     go_roundg g1
     case measure=>omega
     case rel=>exact ⟨p+1,acc++[d],by rw [hdr.out];exact H',⟨by have:=HG.out;omega⟩,HO,hit2,eO,HB⟩
   ·intro c1 H
    revert H;refine gz ?_ ?_
    ·intro c3 H;have hnx:=HU 84 (by rw [c3];rfl) (by omega);clear HU
     revert H;refine gz ?_ ?_
     ·intro c2 H;have H':=am H;clear H;have hcz:=jY eO;have b0:(f4.toList == ([]:List UInt8))=true:=beq_iff_eq.mpr c2;have b1:(f4.toList != ([]:List UInt8))=false:=bne_eq_false_iff_eq.mpr c2;have b2:f4.toList.isEmpty=true:=List.isEmpty_iff.mpr c2;clear c1 c2 c3
      go_wp2
      go_roundg g1
      case measure=>omega
      case rel=>exact ⟨p+1,acc,by rw [hdr.out];exact H',⟨by have:=HG.out;omega⟩,HO,hit2,eO,HB⟩
     ·intro c2 H;have H':=am H;clear H;have hcz:=jY eO;have b0:(f4.toList == ([]:List UInt8))=false:=beq_eq_false_iff_ne.mpr c2;have b1:(f4.toList != ([]:List UInt8))=true:=bne_iff_ne.mpr c2
      have b2:f4.toList.isEmpty=false:=by cases h:f4.toList with|nil=>exact absurd h c2|cons _ _=>rfl
      clear c1 c2 c3
      go_wp2_with (first|(go_at_call 111;(with_reducible refine (xP.calls _ true _ rfl).mono ?_);rintro e w' ⟨rfl,⟨ig,rfl⟩⟩;replace hit2:=am (show (W1.drewN ig).heap[kb]? = _ from hit2.out);replace eO:=am (lw eO.out ig);replace HO:=am (Kd.jk HO.out ig);replace HB:=am (jc HB.out ig))|(go_at_call 112;refine (Xf gb _ _).mono ?_;rintro e w' ⟨rfl,rfl⟩)|((with_reducible refine pX (b:=.append) (xs:=#[.tmp 43,.tmp 48]) rfl ?_);at_builtin;refine Kd.rH Kd.string (w0:=w) w.heap.size rfl (.tmp 43) (.tmp 48) 42 9 (.string ⟨#[]⟩) 16 rfl Tryz.underlying42 xQ rfl (by decide) (by omega) u5 acc f4 [.string f4] (fun _=>True) (fun _=>False) rfl rfl ?aP (fun _ hk=>hk.elim) (fun _ _=>trivial) ?aO ?aB ?aS ?aL ?_;(case aP=>exact rfl);(case aB=>exact HB.out);(case aO=>exact HO.out);(case aS=>exact HB.out.size);(case aL=>have:=hl.out;omega);intro v2 w9 ho hb hg hat;replace hit2:=am (Sm hit2.out hg (Sn HO.out hit2.out));replace eO:=am (fG (ks eO) hg (Kd.jy HO.out eO.out (by decide)));replace HO:=am ho;replace HB:=am hb;clear ho hb hg hat))
      go_roundg g1
      case measure=>omega
      case rel=>exact ⟨p+1,acc++[f4],by rw [hdr.out];exact H',⟨by have:=HG.out;omega⟩,HO,hit2,eO,HB⟩
    ·intro c3 H
     revert H;refine gz ?_ ?_
     ·intro c4 H;have hnx:=HU 73 (by rw [c4];rfl) (by omega);clear HU;have H':=am H;clear H;have hcz:=jY eO;clear c1 c3 c4
      go_wp2_with (first|(go_at_call 111;(with_reducible refine (xP.calls _ true _ rfl).mono ?_);rintro e w' ⟨rfl,⟨ig,rfl⟩⟩;replace hit2:=am (show (W1.drewN ig).heap[kb]? = _ from hit2.out);replace eO:=am (lw eO.out ig);replace HO:=am (Kd.jk HO.out ig);replace HB:=am (jc HB.out ig))|(go_at_call 112;refine (Xf gb _ _).mono ?_;rintro e w' ⟨rfl,rfl⟩)|((with_reducible refine pX (b:=.append) (xs:=#[.tmp 43,.tmp 48]) rfl ?_);at_builtin;refine Kd.rH Kd.string (w0:=w) w.heap.size rfl (.tmp 43) (.tmp 48) 42 9 (.string ⟨#[]⟩) 16 rfl Tryz.underlying42 xQ rfl (by decide) (by omega) u5 acc f1 [.string f1] (fun _=>True) (fun _=>False) rfl rfl ?aP (fun _ hk=>hk.elim) (fun _ _=>trivial) ?aO ?aB ?aS ?aL ?_;(case aP=>exact rfl);(case aB=>exact HB.out);(case aO=>exact HO.out);(case aS=>exact HB.out.size);(case aL=>have:=hl.out;omega);intro v2 w9 ho hb hg hat;replace hit2:=am (Sm hit2.out hg (Sn HO.out hit2.out));replace eO:=am (fG (ks eO) hg (Kd.jy HO.out eO.out (by decide)));replace HO:=am ho;replace HB:=am hb;clear ho hb hg hat))
      go_roundg g1
      case measure=>omega
      case rel=>exact ⟨p+1,acc++[f1],by rw [hdr.out];exact H',⟨by have:=HG.out;omega⟩,HO,hit2,eO,HB⟩
     ·intro c4 H
      revert H;refine gz ?_ ?_
      ·intro c5 H;have hnx:=HU 78 (by rw [c5];rfl) (by omega);clear HU;replace H:=bo H;obtain ⟨d,A2,H⟩:=H;have H':=am H;clear H;have hcz:=jY eO;clear c1 c3 c4 c5
       go_wp2_with (first|(go_at_call 111;(with_reducible refine (xP.calls _ false _ rfl).mono ?_);rintro e w' ⟨rfl,⟨ig,rfl⟩⟩;replace hit2:=am (show (W1.drewN ig).heap[kb]? = _ from hit2.out);replace eO:=am (lw eO.out ig);replace HO:=am (Kd.jk HO.out ig);replace HB:=am (jc HB.out ig))|(go_at_call 113;refine (Mr gb _ _).mono ?_;rintro e w' ⟨rfl,rfl⟩)|(go_at_call 79;(with_reducible refine (wH.calls f0 d _ (vN HTF HB.out) A2.out).mono ?_);rintro e w8 ⟨rfl,hb⟩;replace hit2:=am (Mq hit2.out hb);replace eO:=bb eO hb;replace HO:=am (Kd.dK HO.out hb);replace HB:=am (fF HB.out hb);clear hb)|((with_reducible refine pX (b:=.append) (xs:=#[.tmp 15,.tmp 21]) rfl ?_);at_builtin;refine Kd.rH Kd.string (w0:=w) w.heap.size rfl (.tmp 15) (.tmp 21) 42 9 (.string ⟨#[]⟩) 16 rfl Tryz.underlying42 xQ rfl (by decide) (by omega) u5 acc d [.string d] (fun _=>True) (fun _=>False) rfl rfl ?aP (fun _ hk=>hk.elim) (fun _ _=>trivial) ?aO ?aB ?aS ?aL ?_;(case aP=>exact rfl);(case aB=>exact HB.out);(case aO=>exact HO.out);(case aS=>exact HB.out.size);(case aL=>have:=hl.out;omega);intro v2 w9 ho hb hg hat;replace hit2:=am (Sm hit2.out hg (Sn HO.out hit2.out));replace eO:=am (fG (ks eO) hg (Kd.jy HO.out eO.out (by decide)));replace HO:=am ho;replace HB:=am hb;clear ho hb hg hat))
       go_roundg g1
       case measure=>omega
       case rel=>exact ⟨p+1,acc++[d],by rw [hdr.out];exact H',⟨by have:=HG.out;omega⟩,HO,hit2,eO,HB⟩
      ·intro c5 H
       revert H;refine gz ?_ ?_
       ·intro c6 H;have hnx:=HU 81 (by rw [c6];rfl) (by omega);clear HU;replace H:=bo H;obtain ⟨d,A2,H⟩:=H;have H':=am H;clear H;have hcz:=jY eO;clear c1 c3 c4 c5 c6
        go_wp2_with (first|(go_at_call 111;(with_reducible refine (xP.calls _ false _ rfl).mono ?_);rintro e w' ⟨rfl,⟨ig,rfl⟩⟩;replace hit2:=am (show (W1.drewN ig).heap[kb]? = _ from hit2.out);replace eO:=am (lw eO.out ig);replace HO:=am (Kd.jk HO.out ig);replace HB:=am (jc HB.out ig))|(go_at_call 113;refine (Mr gb _ _).mono ?_;rintro e w' ⟨rfl,rfl⟩)|(go_at_call 79;(with_reducible refine (wH.calls f2 d _ (vN HTF HB.out) A2.out).mono ?_);rintro e w8 ⟨rfl,hb⟩;replace hit2:=am (Mq hit2.out hb);replace eO:=bb eO hb;replace HO:=am (Kd.dK HO.out hb);replace HB:=am (fF HB.out hb);clear hb)|((with_reducible refine pX (b:=.append) (xs:=#[.tmp 15,.tmp 21]) rfl ?_);at_builtin;refine Kd.rH Kd.string (w0:=w) w.heap.size rfl (.tmp 15) (.tmp 21) 42 9 (.string ⟨#[]⟩) 16 rfl Tryz.underlying42 xQ rfl (by decide) (by omega) u5 acc d [.string d] (fun _=>True) (fun _=>False) rfl rfl ?aP (fun _ hk=>hk.elim) (fun _ _=>trivial) ?aO ?aB ?aS ?aL ?_;(case aP=>exact rfl);(case aB=>exact HB.out);(case aO=>exact HO.out);(case aS=>exact HB.out.size);(case aL=>have:=hl.out;omega);intro v2 w9 ho hb hg hat;replace hit2:=am (Sm hit2.out hg (Sn HO.out hit2.out));replace eO:=am (fG (ks eO) hg (Kd.jy HO.out eO.out (by decide)));replace HO:=am ho;replace HB:=am hb;clear ho hb hg hat))
        go_roundg g1
        case measure=>omega
        case rel=>exact ⟨p+1,acc++[d],by rw [hdr.out];exact H',⟨by have:=HG.out;omega⟩,HO,hit2,eO,HB⟩
       ·intro c6 H
        cases H
def gH.T13:Bool × List (List Nat × List Nat):=(true,[([],[]),([],[]),([1],[1]),([2],[2]),([],[]),([4],[4]),([],[]),([5,6,3],[5,6]),([3,7,7],[3,7]),([8],[8]),([0,9,8],[0,9]),([10,10,0,1,2,3,4,5,6,7,8,9,10],[0,10])])
def gH.B13:List Nat:=[0,0,2,6,0,16,0,126,254,510,1023,2047]
theorem gH.ayI:fJ .any (opsOf Tryz.f42 13)=gH.T13:=by kernel_rfl
theorem gH.aqd:iY gH.T13.2 gH.B13=true:=by kernel_rfl
theorem gH.CF (k:Nat) (ag:Int) (aj:ByteArray) (ak:ByteArray) (aD:Int) (bY:Option Addr) (bW:Nat) (ay:List ByteArray) (df:Option Addr) (bR:Nat) (ah:List (aY)) (r:List (bA)) (w:World) (ko:Kd.C Kd.string w bY ay.length ay) (j6:ay.length≤bW) (kr:Kd.C iR w df ah.length ah) (kg:ah.length≤bR) (hTF:sM w) (H:gH.f k ag aj ak aD ay ah=some r) :
  Calls Tryz.prog 42 #[.agg #[.int .i64 ag,.string aj,.string ak,.int .i64 aD,.slice bY ay.length bW,.slice df ah.length bR]] w fun e w'=>∃ kT:Value,e=.returned (kT)∧Kd.S qW 62 w' w.heap.size (fun k_=>(w.heap.size≤k_)) kT r∧Below w.heap.size w w':=by
 have HTF:=af.mk hTF;clear hTF
 have uX:=Tryz.underlying45;have Bh:=Tryz.underlying95;have ng:=af.mk ko;have pR:=af.mk j6;clear ko j6;have lW:=af.mk kr;have oM:=af.mk kg;clear kr kg;have HB:=af.mk (Below.refl w.heap.size w);unfold gH.f at H;obtain ⟨BS,acs⟩:∃ y_:List ByteArray,y_=(([aj]:List ByteArray)):=⟨_,rfl⟩
 replace H:((Bq.f ag).bind fun M8=>(if M8=true then (if BS.length<8796093022208 then (gH.j0 k (BS++[ak]) ag aj ak aD ay ah) else (none)) else (gH.j0 k BS ag aj ak aD ay ah)))=some r:=ye acs H
 have afM:=af.mk acs;clear acs;replace H:=bo H;obtain ⟨M8,A2,H⟩:=H
 go_in
 try go_wp2_with (first|((with_reducible refine aN (N:=1) rfl ?_);refine bx 1 (cs:=#[.int .i64 ag,.string aj,.string ak,.int .i64 aD,.slice bY ay.length bW,.slice df ah.length bR]) (t:=45) ?_;intro l7 hg w3 hbox hb;have cK:=af.mk (hbox);have aAf:=af.mk ((gs hg (bs HB)));have azZ:=af.mk ((gs hg (bs HB)));replace HB:=af.mk (fF (bs HB) hb);clear hb hbox hg;have P6:w3.cell? ⟨l7,0,none⟩=some (.int .i64 ag):=(az cK.out 0).trans rfl;have P7:w3.cell? ⟨l7,1,none⟩=some (.string aj):=(az cK.out 1).trans rfl;have abm:w3.cell? ⟨l7,2,none⟩=some (.string ak):=(az cK.out 2).trans rfl;have ahX:w3.cell? ⟨l7,3,none⟩=some (.int .i64 aD):=(az cK.out 3).trans rfl;have asW:w3.cell? ⟨l7,4,none⟩=some (.slice bY ay.length bW):=(az cK.out 4).trans rfl;have asX:w3.cell? ⟨l7,5,none⟩=some (.slice df ah.length bR):=(az cK.out 5).trans rfl;have P9:=aV cK.out 0;have Qa:=aV cK.out 1;have abo:=aV cK.out 2;have ah0:=aV cK.out 3;have atj:=aV cK.out 4;have atl:=aV cK.out 5)|((with_reducible refine aN (N:=11) rfl ?_);refine Kd.KI Kd.string _ 9 ?hg (N:=11) ?hd (xs:=([aj]:List ByteArray)) (inner:=[.string aj]) (ok:=fun _=>True) (okp:=fun _=>True) ?hr ?hp (fun _ hk=>hk) trivial (Below.refl _ _) (Nat.le_refl _) (by simp) ?_;(case hd=>rfl);(case hg=>rfl);(case hr=>first|(go_simp;done)|(go_simp;rfl));(case hp=>exact (aQ.one (show Kd.M Kd.string _ _ _ aj [.string aj] from rfl) (aQ.none _ _)));intro ay0 w5 Q3 hb hg_ hnew_;clear hg_ hnew_;(first|rw [← afM.out] at Q3|(simp only [Int.reduceToNat] at Q3;rw [← afM.out] at Q3));have UK:=af.mk (Kd.gU (Kd.KL (M:=fun k_=>(w.heap.size≤k_)) Q3 (bC (bs HB)) (fun k_ h_=>h_)) (bC (bs HB)));replace cK:=af.mk (aZ (ks cK) hb);replace HB:=af.mk (fF (bs HB) hb);clear hb Q3;have Bg:=dC cK))
 go_at_call 77;(with_reducible refine (Bq.calls ag M8 _ A2.out).mono ?_);rintro e w' ⟨rfl,⟨nd,rfl⟩⟩;have Zn:=af.mk H;clear H
 go_upto_if 14 with (fail)
 go_cut [3] (fun v3 wc=>∃ (kq:Nat) (TJ:List ByteArray),af (gH.j0 kq TJ ag aj ak aD ay ah=some r)∧af (kq≤k)∧af (Kd.R Kd.string 9 wc w.heap.size (fun k_=>(w.heap.size≤k_)) v3 TJ)∧af (wc.heap[l7]? = some (.cells #[.int .i64 ag,.string aj,.string ak,.int .i64 aD,(.slice bY ay.length bW),(.slice df ah.length bR)] 45 (0,0)))∧af (Below w.heap.size w wc))
 case first =>
  have H:=Zn.out;clear Zn
  obtain rfl|rfl:=bt M8
  ·replace H:=dE H
   revert H;refine jE ?_
   intro c10 H;have ZY:=af.mk c10;clear c10;obtain ⟨alY,acv⟩:∃ y_:List ByteArray,y_=(BS++[ak]):=⟨_,rfl⟩
   replace H:(gH.j0 k alY ag aj ak aD ay ah)=some r:=ye acv H
   have apb:=af.mk acv;clear acv;have H':=af.mk H;clear H;have Bd:=dC cK
   go_wp2_with (first|((with_reducible refine pX (b:=.append) (xs:=#[.tmp 15,.tmp 18]) rfl ?_);at_builtin;refine Kd.rH Kd.string (w0:=w) w.heap.size rfl (.tmp 15) (.tmp 18) 42 9 (.string ⟨#[]⟩) 16 rfl Tryz.underlying42 xQ rfl (by decide) (by omega) ay0 BS ak [.string ak] (fun k_=>(w.heap.size≤k_)) (fun _=>False) rfl rfl ?aP (fun _ hk=>hk.elim) ?aF ?aO ?aB ?aS ?aL ?_;(case aP=>exact rfl);(case aB=>exact (bs HB));(case aF=>exact (fun k_ hk=>(Nat.le_trans (bC (bs HB)) hk)));(case aO=>exact (by (with_reducible repeat (first|apply Kd.jW|apply Kd.jk|apply Kd.dY));exact Kd.dI UK.out (fun _ hk=>hk.1)));(case aS=>exact (bC (bs HB)));(case aL=>have:=ZY.out;omega);intro aI3 wS ho hb hg hat;rw [← apb.out] at ho;have bP:=af.mk (fG (ks cK) hg (Kd.jy UK.out cK.out (by decide)));have bQ:=af.mk (hb);have bU:=af.mk (ho);clear cK;clear HB;clear UK;have cK:=bP;have HB:=bQ;have anz:=bU;clear bP bQ bU;clear ho hb hg hat))
   go_meet
   case rel=>exact ⟨_,(alY),H',⟨fl⟩,⟨by (with_reducible repeat (first|apply Kd.jW|apply Kd.jk|apply Kd.dY));exact anz.out⟩,⟨ks cK⟩,⟨bs HB⟩⟩
  ·replace H:=dD H;have H':=af.mk H;clear H
   go_wp2
   go_meet
   case rel=>exact ⟨_,(BS),H',⟨fl⟩,⟨by (with_reducible repeat (first|apply Kd.jW|apply Kd.jk|apply Kd.dY));exact Kd.dI UK.out (fun _ hk=>hk.1)⟩,⟨ks cK⟩,⟨bs HB⟩⟩
 case rest =>
  clear Zn
  try clear Bg
  obtain ⟨kq,TJ,HA,UC,gu,cK,HB⟩:=hcut
  cases kq with
  | zero=>exact absurd HA.out (by simp [gH.j0])
  | succ IR =>
   have H:=HA.out;clear HA;simp only [gH.j0] at H;replace H:=bo H;obtain ⟨JB,ry,H⟩:=H
   revert H;refine gz ?_ ?_
   ·intro c14 H;have aok:=af.mk c14;clear c14;obtain ⟨Gj,acw⟩:∃ y_:List ByteArray,y_=(TJ++[JB]):=⟨_,rfl⟩
    replace H:((mW.f IR (⟨#[68,79,67]⟩:ByteArray) Gj).bind fun O1=>(gH.l0 IR (([(⟨O1.1,O1.2⟩:bA)]:List (bA))) ay (ay.length:Int) 0 ag aj ak aD ay ah))=some r:=ye acw H
    have apc:=af.mk acw;clear acw;replace H:=bo H;obtain ⟨⟨Tf,Tg⟩,Uh,H⟩:=H;(try dsimp only at H);obtain ⟨alZ,acy⟩:∃ y_:List (bA),y_=(([(⟨Tf,Tg⟩:bA)]:List (bA))):=⟨_,rfl⟩
    replace H:(gH.l0 IR alZ ay (ay.length:Int) 0 ag aj ak aD ay ah)=some r:=ye acy H
    have afP:=af.mk acy;clear acy;have H':=af.mk H;clear H;have EO:=dC cK
    go_wp2_with (first|((first|((with_reducible refine PM (f:=79) rfl ?_);refine PT (some 23) rfl rfl Tryz.func79 (by kernel_rfl) rfl #[.int .i64 aD] rfl (by (try simp only [List.map_toArray,List.map_cons,List.map_nil]);first|done|rfl|(simp only [List.length_drop,List.length_take];rfl)) ?_;(with_reducible refine (wH.calls aD JB _ (vN HTF (bs HB)) ry.out).mono ?_);rintro e JN ⟨rfl,hb⟩;refine ⟨_,rfl,?_⟩)|(go_at_call 79;(with_reducible refine (wH.calls aD JB _ (vN HTF (bs HB)) ry.out).mono ?_);rintro e JN ⟨rfl,hb⟩));replace gu:=af.mk (Kd.dK (rs gu) hb);replace cK:=af.mk (aZ (ks cK) hb);replace HB:=af.mk (fF (bs HB) hb);(try clear hb);(try clear hb2);(try clear hk);(try clear hi))|((with_reducible refine pX (b:=.append) (xs:=#[.tmp 20,.tmp 24]) rfl ?_);at_builtin;refine Kd.rH Kd.string (w0:=w) w.heap.size rfl (.tmp 20) (.tmp 24) 42 9 (.string ⟨#[]⟩) 16 rfl Tryz.underlying42 xQ rfl (by decide) (by omega) u3 TJ JB [.string JB] (fun k_=>(w.heap.size≤k_)) (fun _=>False) rfl rfl ?aP (fun _ hk=>hk.elim) ?aF ?aO ?aB ?aS ?aL ?_;(case aP=>exact rfl);(case aB=>exact (bs HB));(case aF=>exact (fun k_ hk=>(Nat.le_trans (bC (bs HB)) hk)));(case aO=>exact (rs gu));(case aS=>exact (bC (bs HB)));(case aL=>have:=aok.out;omega);intro aI4 xY ho hb hg hat;rw [← apc.out] at ho;have bP:=af.mk (fG (ks cK) hg (Kd.jy gu.out cK.out (by decide)));have bQ:=af.mk (hb);have bU:=af.mk (ho);clear cK;clear HB;clear gu;have cK:=bP;have HB:=bQ;have zn:=bU;clear bP bQ bU;clear ho hb hg hat;obtain ⟨N9,Pq,ar6⟩:=Kd.iy zn.out;subst ar6)|((first|((with_reducible refine PM (f:=78) rfl ?_);refine PT (some 26) rfl rfl Tryz.func78 (by kernel_rfl) rfl #[.string (⟨#[68,79,67]⟩:ByteArray),.slice N9 Gj.length Pq] rfl (by (try simp only [List.map_toArray,List.map_cons,List.map_nil]);first|done|rfl|(simp only [List.length_drop,List.length_take];rfl)) ?_;(with_reducible refine (mW.calls IR (⟨#[68,79,67]⟩:ByteArray) _ _ Gj Tf Tg _ ?aI ?aW Uh.out).mono ?_);(case aI=>repeat (first|exact (Kd.dU zn.out).2.2|(with_reducible refine Kd.pM ?_ _)|(with_reducible refine Kd.pQ ?_ _)|(with_reducible refine Kd.pO ?_)));(case aW=>exact (Kd.dU zn.out).2.1);rintro e BM ⟨ay1,rfl,ho0,hb⟩;refine ⟨_,rfl,?_⟩)|(go_at_call 78;(with_reducible refine (mW.calls IR (⟨#[68,79,67]⟩:ByteArray) _ _ Gj Tf Tg _ ?aI ?aW Uh.out).mono ?_);(case aI=>repeat (first|exact (Kd.dU zn.out).2.2|(with_reducible refine Kd.pM ?_ _)|(with_reducible refine Kd.pQ ?_ _)|(with_reducible refine Kd.pO ?_)));(case aW=>exact (Kd.dU zn.out).2.1);rintro e BM ⟨ay1,rfl,ho0,hb⟩));have ZE:=af.mk (Kd.mJ (Kd.fU (ok':=fun k_=>(w.heap.size≤k_)∧some k_≠(.slice N9 Gj.length Pq:Value).ownBlock∧k_≠l7) (Kd.uf ho0) (fun k_ hk_=>⟨(Nat.le_trans (bC (bs HB)) hk_.2.1),(Kd.fresh' (Kd.jX (rs zn)) k_ hk_.2.1),(Kd.sU (g:=l7) (o:=.cells #[.int .i64 ag,.string aj,.string ak,.int .i64 aD,.slice bY ay.length bW,.slice df ah.length bR] 45 (0,0)) (ks cK) k_ hk_.2.1)⟩)) (bC (bs HB)));replace zn:=af.mk (Kd.dK (rs zn) hb);replace cK:=af.mk (aZ (ks cK) hb);replace HB:=af.mk (fF (bs HB) hb);(try clear hb);(try clear hb2);(try clear hk);(try clear hi);(try clear ho0);obtain ⟨Ul,VS,V4⟩:=Kd.kI ZE.out;subst V4)|((with_reducible refine aN (N:=27) rfl ?_);refine Kd.af5 qW (w0:=w) w.heap.size 62 ?hg (N:=27) ?hd (xs:=([(⟨Tf,Tg⟩:bA)]:List (bA))) (inner:=[.string Tf,.slice Ul Tg.length VS]) (ok:=(fun k_=>(w.heap.size≤k_)∧some k_≠(.slice N9 Gj.length Pq:Value).ownBlock∧k_≠l7)) (fun j_ k_=>j_=0∧(fun k_=>(w.heap.size≤k_)∧some k_≠(.slice N9 Gj.length Pq:Value).ownBlock∧k_≠l7) k_) ?hr rfl ?hp (fun _ _ _ h1 h2=>h1.1.trans h2.1.symm) (fun _ _ h=>h.2) ((show ∀ k_,BM.heap.size≤k_→(fun k_=>(w.heap.size≤k_)∧some k_≠(.slice N9 Gj.length Pq:Value).ownBlock∧k_≠l7) k_ from fun k_ hk=>⟨(Nat.le_trans (bC (bs HB)) hk),Kd.fresh' (Kd.jX (rs zn)) k_ hk,Kd.sU (g:=l7) (o:=.cells #[.int .i64 ag,.string aj,.string ak,.int .i64 aD,.slice bY ay.length bW,.slice df ah.length bR] 45 (0,0)) (ks cK) k_ hk⟩) _ (Nat.le_refl _)) (bs HB) (bC (bs HB)) (by simp) ?_;(case hd=>rfl);(case hg=>rfl);(case hr=>first|(go_simp;done)|(go_simp;rfl));(case hp=>intro j_ x_ hx_;rcases j_ with _|j_;(obtain rfl:=Option.some.inj hx_;exact ⟨_,rfl,Kd.fU ZE.out (fun k_ hk=>⟨rfl,⟨hk.1,⟨hk.2.1,hk.2.2⟩⟩⟩)⟩);exact absurd hx_ (by simp));intro aI5 JO zN hb hg_ hnew_;clear hnew_;(first|rw [← afP.out] at zN|(simp only [Int.reduceToNat] at zN;rw [← afP.out] at zN));have bP:=True.intro;have bQ:=af.mk zN;have bU:=af.mk (fG (ks cK) hg_ (fun e_=>nomatch e_));have gW:=af.mk hb;clear zn;clear cK;clear HB;clear ZE;have zn:=bP;have anA:=bQ;have cK:=bU;have HB:=gW;clear bP bQ bU gW;clear hb zN hg_;have Li:=dC cK))
    go_loopg [4,31] IR (fun kq v4 v31 w'=>∃ (lU:List (bA)) (wV:Int),v31=.int .i64 wV∧af (gH.l0 kq lU ay (ay.length:Int) wV ag aj ak aD ay ah=some r)∧af (kq≤IR)∧af (Kd.S qW 62 w' w.heap.size (fun k_=>(w.heap.size≤k_)∧k_≠l7) v4 lU)∧af (w'.heap[l7]? = some (.cells #[.int .i64 ag,.string aj,.string ak,.int .i64 aD,(.slice bY ay.length bW),(.slice df ah.length bR)] 45 (0,0)))∧af (Below w.heap.size w w'))
    case atStart=>exact ⟨(alZ),(0),fg,H',⟨Nat.le_refl _⟩,⟨by (with_reducible repeat (first|apply Kd.fD|apply Kd.fE|apply Kd.dV));exact Kd.fU anA.out (fun _ hk=>⟨hk.1,hk.2.2⟩)⟩,⟨ks cK⟩,⟨bs HB⟩⟩
    case round =>
     clear H'
     try clear c2
     try clear c14
     try clear EO
     try clear Li
     try clear Bg
     try clear cK
     obtain ⟨lU,wV,rfl,HA,cz,fQ,cK,HB⟩:=hrel
     cases gk with
     | zero=>exact absurd HA.out (by simp [gH.l0])
     | succ k2 =>
      have H:=HA.out;clear HA;simp only [gH.l0] at H
      revert H;refine cB ?_ ?_
      ·intro AY H
       revert H;refine bu ?_
       intro O9 H
       revert H;refine bu ?_
       intro Hq H;obtain ⟨Kb,acz⟩:∃ y_:List ByteArray,y_=(([aX ByteArray.empty ay wV]:List ByteArray)):=⟨_,rfl⟩
       replace H:((mW.f k2 (⟨#[78,79,84]⟩:ByteArray) Kb).bind fun O3=>(if lU.length<3518437208883 then (gH.l0 k2 (lU++[(⟨O3.1,O3.2⟩:bA)]) ay (ay.length:Int) (wrap64 (wV+1)) ag aj ak aD ay ah) else (none)))=some r:=ye acz H
       have afQ:=af.mk acz;clear acz;replace H:=bo H;obtain ⟨⟨Ti,Tj⟩,Aq,H⟩:=H;(try dsimp only at H)
       revert H;refine jE ?_
       intro sQ H;have aos:=af.mk sQ;clear sQ;obtain ⟨al0,acB⟩:∃ y_:List (bA),y_=(lU++[(⟨Ti,Tj⟩:bA)]):=⟨_,rfl⟩
       replace H:(gH.l0 k2 al0 ay (ay.length:Int) (wrap64 (wV+1)) ag aj ak aD ay ah)=some r:=ye acB H
       have apd:=af.mk acB;clear acB;have H':=af.mk H;clear H;have ac9:0≤(wV:Int):=oa;have adl:wV<(ay.length:Int):=oa;obtain ⟨age,arL,ajT⟩:=Kd.iZ ng.out wV ac9 adl
       cases arL
       replace ajT:=cb HB ajT;replace ac9:=eq_true ac9;replace adl:=eq_true adl
       go_wp2_with (first|((with_reducible refine aN (N:=37) rfl ?_);refine Kd.KI Kd.string _ 9 ?hg (N:=37) ?hd (xs:=([aX ByteArray.empty ay wV]:List ByteArray)) (inner:=[.string (aX ByteArray.empty ay wV)]) (ok:=fun _=>True) (okp:=fun _=>True) ?hr ?hp (fun _ hk=>hk) trivial (Below.refl _ _) (Nat.le_refl _) (by simp) ?_;(case hd=>rfl);(case hg=>rfl);(case hr=>first|(go_simp;done)|(go_simp;rfl));(case hp=>exact (aQ.one (show Kd.M Kd.string _ _ _ (aX ByteArray.empty ay wV) [.string (aX ByteArray.empty ay wV)] from rfl) (aQ.none _ _)));intro aI6 qJ nC hb hg_ hnew_;clear hg_ hnew_;(first|rw [← afQ.out] at nC|(simp only [Int.reduceToNat] at nC;rw [← afQ.out] at nC));have bP:=af.mk (Kd.GY (by (with_reducible repeat (first|apply Kd.fD|apply Kd.fE|apply Kd.dV));exact fQ.out) (Kd.oO nC) hb);have bQ:=af.mk (Kd.gU (Kd.KL (M:=fun k_=>(w.heap.size≤k_)) nC (bC (bs HB)) (fun k_ h_=>h_)) (bC (bs HB)));have bU:=af.mk (aZ (ks cK) hb);have gW:=af.mk (fF (bs HB) hb);clear fQ;clear cK;clear HB;have fQ:=bP;have xq:=bQ;have cK:=bU;have HB:=gW;clear bP bQ bU gW;clear hb nC;obtain ⟨Ee,EI,H6⟩:=Kd.iy xq.out;subst H6)|((first|((with_reducible refine PM (f:=78) rfl ?_);refine PT (some 38) rfl rfl Tryz.func78 (by kernel_rfl) rfl #[.string (⟨#[78,79,84]⟩:ByteArray),.slice Ee Kb.length EI] rfl (by (try simp only [List.map_toArray,List.map_cons,List.map_nil]);first|done|rfl|(simp only [List.length_drop,List.length_take];rfl)) ?_;(with_reducible refine (mW.calls k2 (⟨#[78,79,84]⟩:ByteArray) _ _ Kb Ti Tj _ ?aI ?aW Aq.out).mono ?_);(case aI=>repeat (first|exact (Kd.dU xq.out).2.2|(with_reducible refine Kd.pM ?_ _)|(with_reducible refine Kd.pQ ?_ _)|(with_reducible refine Kd.pO ?_)));(case aW=>exact (Kd.dU xq.out).2.1);rintro e DK ⟨ay2,rfl,ho0,hb⟩;refine ⟨_,rfl,?_⟩)|(go_at_call 78;(with_reducible refine (mW.calls k2 (⟨#[78,79,84]⟩:ByteArray) _ _ Kb Ti Tj _ ?aI ?aW Aq.out).mono ?_);(case aI=>repeat (first|exact (Kd.dU xq.out).2.2|(with_reducible refine Kd.pM ?_ _)|(with_reducible refine Kd.pQ ?_ _)|(with_reducible refine Kd.pO ?_)));(case aW=>exact (Kd.dU xq.out).2.1);rintro e DK ⟨ay2,rfl,ho0,hb⟩));have bP:=af.mk (U7 (by (with_reducible repeat (first|apply Kd.fD|apply Kd.fE|apply Kd.dV));exact fQ.out) (Kd.KO ho0) hb);have bQ:=af.mk (Kd.dK (rs xq) hb);have bU:=af.mk (Kd.mJ (Kd.fU (ok':=fun k_=>((w.heap.size≤k_)∧some k_≠(u4:Value).ownBlock∧some k_≠(.slice Ee Kb.length EI:Value).ownBlock∧k_≠l7)∧qJ.heap.size≤k_) (Kd.uf ho0) (fun k_ hk_=>⟨⟨(Nat.le_trans (bC (bs HB)) hk_.2.1),(Kd.fresh' (Kd.KQ (by (with_reducible repeat (first|apply Kd.fD|apply Kd.fE|apply Kd.dV));exact fQ.out)) k_ hk_.2.1),(Kd.fresh' (Kd.jX (rs xq)) k_ hk_.2.1),(Kd.sU (g:=l7) (o:=.cells #[.int .i64 ag,.string aj,.string ak,.int .i64 aD,.slice (some age) ay.length bW,.slice df ah.length bR] 45 (0,0)) (ks cK) k_ hk_.2.1)⟩,hk_.2.1⟩)) (bC (bs HB)));have gW:=af.mk (aZ (ks cK) hb);have l9:=af.mk (fF (bs HB) hb);clear fQ;clear xq;clear cK;clear HB;have fQ:=bP;have xq:=bQ;have ZF:=bU;have cK:=gW;have HB:=l9;clear bP bQ bU gW l9;(try clear hb);(try clear hb2);(try clear hk);(try clear hi);(try clear ho0);obtain ⟨amu,aro,asc⟩:=Kd.kI ZF.out;subst asc)|((with_reducible refine pX (b:=.append) (xs:=#[.tmp 35,.tmp 39]) rfl ?_);at_builtin;refine Kd.U6 qW (w0:=w) w.heap.size rfl (.tmp 35) (.tmp 39) 57 62 (.agg #[(.string ⟨#[]⟩),(.slice none 0 0)]) 40 rfl Tryz.underlying57 Sq rfl (by decide) (by omega) u4 lU (⟨Ti,Tj⟩:bA) [.string Ti,.slice amu Tj.length aro] (fun k_=>(w.heap.size≤k_)∧some k_≠(.slice Ee Kb.length EI:Value).ownBlock∧k_≠l7) (fun k_=>(fun k_=>((fun k_=>(w.heap.size≤k_)∧some k_≠(.slice Ee Kb.length EI:Value).ownBlock∧k_≠l7)) k_∧some k_≠(u4:Value).ownBlock) k_∧qJ.heap.size≤k_) rfl rfl ?aP (fun _ hk=>hk.1) ?aF ?aO ?aB ?aS ?aL ?_;(case aP=>exact ⟨_,rfl,Kd.fU ZF.out (fun k_ hk=>⟨⟨⟨hk.1.1,⟨hk.1.2.2.1,hk.1.2.2.2⟩⟩,hk.1.2.1⟩,hk.2⟩)⟩);(case aB=>exact (bs HB));(case aF=>exact (fun k_ hk=>⟨(Nat.le_trans (bC (bs HB)) hk),Kd.fresh' (Kd.jX (rs xq)) k_ hk,Kd.sU (g:=l7) (o:=.cells #[.int .i64 ag,.string aj,.string ak,.int .i64 aD,.slice (some age) ay.length bW,.slice df ah.length bR] 45 (0,0)) (ks cK) k_ hk⟩));(case aO=>exact (by (with_reducible repeat (first|apply Kd.fD|apply Kd.fE|apply Kd.dV));exact Kd.fU fQ.out (fun _ hk=>⟨⟨hk.1.1.1.1,⟨hk.1.1.2,hk.1.1.1.2⟩⟩,fun hT_=>Nat.not_le_of_lt hk.2 hT_.2⟩)));(case aS=>exact (bC (bs HB)));(case aL=>have:=aos.out;omega);intro aI7 Ai ho hb hg hat;rw [← apd.out] at ho;have bP:=af.mk (fG (ks cK) hg (Kd.Cr fQ.out cK.out (by decide)));have bQ:=af.mk (Kd.Er (rs xq) (Kd.zt (by (with_reducible repeat (first|apply Kd.fD|apply Kd.fE|apply Kd.dV));exact fQ.out)) (by decide) hg);have bU:=af.mk (hb);have gW:=af.mk (ho);clear cK;clear xq;clear HB;clear fQ;clear ZF;have cK:=bP;have xq:=bQ;have HB:=bU;have anB:=gW;clear bP bQ bU gW;clear ho hb hg hat))
       go_roundg k2
       case measure=>have:=UC.out;have:=cz.out;omega
       case rel=>exact ⟨(al0),(wrap64 (wV+1)),fg,H',⟨by have:=UC.out;have:=cz.out;omega⟩,⟨by (with_reducible repeat (first|apply Kd.fD|apply Kd.fE|apply Kd.dV));exact Kd.fU anB.out (fun _ hk=>⟨hk.1,hk.2.2⟩)⟩,⟨ks cK⟩,⟨bs HB⟩⟩
      ·intro AY H;have H':=af.mk H;clear H;have Lj:=dC cK
       go_wp2
       go_loopg [4,45] k2 (fun kq v4 v45 w'=>∃ (ze:List (bA)) (fV:Int),v45=.int .i64 fV∧af (gH.l1 kq ze ah (ah.length:Int) fV ag aj ak aD ay ah=some r)∧af (kq≤k2)∧af (Kd.S qW 62 w' w.heap.size (fun k_=>(w.heap.size≤k_)∧k_≠l7) v4 ze)∧af (w'.heap[l7]? = some (.cells #[.int .i64 ag,.string aj,.string ak,.int .i64 aD,(.slice bY ay.length bW),(.slice df ah.length bR)] 45 (0,0)))∧af (Below w.heap.size w w'))
       case atStart=>exact ⟨(lU),(0),fg,H',⟨Nat.le_refl _⟩,⟨by (with_reducible repeat (first|apply Kd.fD|apply Kd.fE|apply Kd.dV));exact fQ.out⟩,⟨ks cK⟩,⟨bs HB⟩⟩
       case round =>
        clear H'
        try clear c2
        try clear c14
        try clear AY
        try clear EO
        try clear Li
        try clear Lj
        try clear Bg
        try clear cK
        obtain ⟨ze,fV,rfl,HA,pU,fQ,cK,HB⟩:=hrel
        cases gk with
        | zero=>exact absurd HA.out (by simp [gH.l1])
        | succ k3 =>
         have H:=HA.out;clear HA;simp only [gH.l1] at H
         revert H;refine cB ?_ ?_
         ·intro Cz H
          revert H;refine bu ?_
          intro EG H
          revert H;refine bu ?_
          intro Pd H;replace H:=bo H;obtain ⟨Tk,YM,H⟩:=H;replace H:=bo H;obtain ⟨FX,NY,H⟩:=H;replace H:=bo H;obtain ⟨⟨XU,XV⟩,YN,H⟩:=H;(try dsimp only at H)
          revert H;refine jE ?_
          intro c43 H;have aox:=af.mk c43;clear c43;obtain ⟨al1,acD⟩:∃ y_:List (bA),y_=(ze++[(⟨XU,XV⟩:bA)]):=⟨_,rfl⟩
          replace H:(gH.l1 k3 al1 ah (ah.length:Int) (wrap64 (fV+1)) ag aj ak aD ay ah)=some r:=ye acD H
          have apf:=af.mk acD;clear acD;have H':=af.mk H;clear H;have ada:0≤(fV:Int):=oa;have adm:fV<(ah.length:Int):=oa;obtain ⟨agf,arM,ajV,ajW,ajX,ajY,ajZ⟩:=rM lW.out fV ada adm
          cases arM
          replace ajV:=cb HB ajV;replace ajW:=cb HB ajW;replace ajX:=cb HB ajX;replace ajY:=cb HB ajY;replace ajZ:=cb HB ajZ;replace ada:=eq_true ada;replace adm:=eq_true adm
          try go_wp2_with (first|((with_reducible refine aN (N:=8) rfl ?_);refine bx 8 (cs:=#[.int .i64 0,.string (⟨#[]⟩:ByteArray),.int .i64 0,.int .i64 0,.string (⟨#[]⟩:ByteArray)]) (t:=95) ?_;intro jC hg DL hbox hb;have bP:=af.mk (Kd.rJ (Kd.apx (by (with_reducible repeat (first|apply Kd.fD|apply Kd.fE|apply Kd.dV));exact fQ.out) jC (Nat.le_of_eq hg.symm)) hb);have bQ:=af.mk (aZ (ks cK) hb);have bU:=af.mk (fF (bs HB) hb);have gW:=af.mk (hbox);have l9:=af.mk ((gs hg (bs HB)));have uD:=af.mk ((gs hg (bs HB)));have xR:=af.mk ((gn hg (ks cK)));have Sz:=af.mk ((gm hg (ks cK)));clear fQ;clear cK;clear HB;have fQ:=bP;have cK:=bQ;have HB:=bU;have kR:=gW;have aAi:=l9;have az0:=uD;have aoV:=xR;have aoW:=Sz;clear bP bQ bU gW l9 uD xR Sz;clear hb hbox hg;have atI:=aoW.out;have aue:=aoV.out;have ahV:=jY kR))
          have bP:af (Kd.S qW 62 (((((DL.setCell ⟨jC,0,none⟩ (.int .i64 ((ai ah fV).f0))).setCell ⟨jC,1,none⟩ (.string ((ai ah fV).f1))).setCell ⟨jC,2,none⟩ (.int .i64 ((ai ah fV).f2))).setCell ⟨jC,3,none⟩ (.int .i64 ((ai ah fV).f3))).setCell ⟨jC,4,none⟩ (.string ((ai ah fV).f4))) w.heap.size (fun k_=>(w.heap.size≤k_)∧k_≠l7∧k_≠jC) u4 ze):=⟨by (with_reducible repeat (first|apply Kd.fD|apply Kd.fE|apply Kd.dV));exact Kd.fU (Kd.iT (p:=⟨jC,4,none⟩) (Kd.iT (p:=⟨jC,3,none⟩) (Kd.iT (p:=⟨jC,2,none⟩) (Kd.iT (p:=⟨jC,1,none⟩) (Kd.iT (p:=⟨jC,0,none⟩) (Kd.fU fQ.out (fun k_ hk=>(⟨hk,hk.2⟩:_∧k_≠jC))) (fun _ hk=>hk.2) (.int .i64 ((ai ah fV).f0))) (fun _ hk=>hk.2) (.string ((ai ah fV).f1))) (fun _ hk=>hk.2) (.int .i64 ((ai ah fV).f2))) (fun _ hk=>hk.2) (.int .i64 ((ai ah fV).f3))) (fun _ hk=>hk.2) (.string ((ai ah fV).f4))) (fun _ hk=>⟨hk.1.1.1,⟨hk.1.1.2,hk.1.2⟩⟩)⟩;have bQ:=kz (((((DL.setCell ⟨jC,0,none⟩ (.int .i64 ((ai ah fV).f0))).setCell ⟨jC,1,none⟩ (.string ((ai ah fV).f1))).setCell ⟨jC,2,none⟩ (.int .i64 ((ai ah fV).f2))).setCell ⟨jC,3,none⟩ (.int .i64 ((ai ah fV).f3))).setCell ⟨jC,4,none⟩ (.string ((ai ah fV).f4))) cK;have bU:af ((((((DL.setCell ⟨jC,0,none⟩ (.int .i64 ((ai ah fV).f0))).setCell ⟨jC,1,none⟩ (.string ((ai ah fV).f1))).setCell ⟨jC,2,none⟩ (.int .i64 ((ai ah fV).f2))).setCell ⟨jC,3,none⟩ (.int .i64 ((ai ah fV).f3))).setCell ⟨jC,4,none⟩ (.string ((ai ah fV).f4))).heap[jC]? = some (.cells #[.int .i64 ((ai ah fV).f0),.string ((ai ah fV).f1),.int .i64 ((ai ah fV).f2),.int .i64 ((ai ah fV).f3),.string ((ai ah fV).f4)] 95 (0,0))):=⟨kp kR⟩;have gW:af (Below w.heap.size w (((((DL.setCell ⟨jC,0,none⟩ (.int .i64 ((ai ah fV).f0))).setCell ⟨jC,1,none⟩ (.string ((ai ah fV).f1))).setCell ⟨jC,2,none⟩ (.int .i64 ((ai ah fV).f2))).setCell ⟨jC,3,none⟩ (.int .i64 ((ai ah fV).f3))).setCell ⟨jC,4,none⟩ (.string ((ai ah fV).f4)))):=⟨bs HB⟩;(try clear fQ);(try clear cK);(try clear kR);(try clear HB)
          generalize (((((DL.setCell ⟨jC,0,none⟩ (.int .i64 ((ai ah fV).f0))).setCell ⟨jC,1,none⟩ (.string ((ai ah fV).f1))).setCell ⟨jC,2,none⟩ (.int .i64 ((ai ah fV).f2))).setCell ⟨jC,3,none⟩ (.int .i64 ((ai ah fV).f3))).setCell ⟨jC,4,none⟩ (.string ((ai ah fV).f4)))=Tw at bP bQ bU gW ⊢
          have fQ:=bP;have cK:=bQ;have kR:=bU;have HB:=gW;clear bP bQ bU gW;replace fQ:=af.mk (Kd.dV fQ.out);replace cK:=af.mk (bg cK.out);replace kR:=af.mk (bg kR.out);replace HB:=af.mk (cO HB.out);refine il 12 (oF cK (hb5 kR)) (fun hHeld=>?_);refine gq gH.ayI gH.aqd (fun HT_ HW_=>?_)
          generalize Tw.drew=Tx at fQ cK kR HB hHeld ⊢
          refine pA 0 49 HT_ ?_;refine pA 1 50 HT_ ?_;refine pA 4 53 HT_ ?_;refine tA 2 51 HT_ HW_ hHeld ?_;refine tA 5 54 HT_ HW_ hHeld ?_;refine tA 6 55 HT_ HW_ hHeld ?_;refine oA 3 52 HT_ (fun K hK=>?_);refine gA Tryz.func80 #[.int .i64 ag] ?_;(with_reducible refine (IL.calls k3 ag Tk _ YM.out).mono ?_);rintro e Nh ⟨rfl,hb⟩;refine ⟨_,rfl,?_⟩;have bP:=af.mk (Kd.rJ (by (with_reducible repeat (first|apply Kd.fD|apply Kd.fE|apply Kd.dV));exact fQ.out) hb);have bQ:=af.mk (aZ (ks cK) hb);have bU:=af.mk (aZ (ks kR) hb);have gW:=af.mk (fF (bs HB) hb);clear fQ;clear cK;clear kR;clear HB;have fQ:=bP;have cK:=bQ;have kR:=bU;have HB:=gW;clear bP bQ bU gW;(try clear hb);(try clear hb2);(try clear hk);(try clear hi);refine hK.out _ _ (oF cK (hb5 kR)).out (fun hHeld=>?_);clear hK K;refine nA 52 ?_;refine oA 7 56 HT_ (fun K hK=>?_);refine gA Tryz.func81 #[.int .i64 ag,.agg #[.int .i64 ((ai ah fV).f0),.string ((ai ah fV).f1),.int .i64 ((ai ah fV).f2),.int .i64 ((ai ah fV).f3),.string ((ai ah fV).f4)]] ?_;(with_reducible refine (nE.calls k3 ag ((ai ah fV).f0) ((ai ah fV).f1) ((ai ah fV).f2) ((ai ah fV).f3) ((ai ah fV).f4) FX _ (vN HTF (bs HB)) NY.out).mono ?_);rintro e Ty ⟨aI8,rfl,ho0,hb⟩;refine ⟨_,rfl,?_⟩;have bP:=af.mk (Kd.GY (by (with_reducible repeat (first|apply Kd.fD|apply Kd.fE|apply Kd.dV));exact fQ.out) (Kd.oO ho0) hb);have bQ:=af.mk (Kd.gU (Kd.KL (M:=fun k_=>(w.heap.size≤k_)) ho0 (bC (bs HB)) (fun k_ h_=>h_)) (bC (bs HB)));have bU:=af.mk (aZ (ks cK) hb);have gW:=af.mk (aZ (ks kR) hb);have l9:=af.mk (fF (bs HB) hb);clear fQ;clear cK;clear kR;clear HB;have fQ:=bP;have zo:=bQ;have cK:=bU;have kR:=gW;have HB:=l9;clear bP bQ bU gW l9;(try clear hb);(try clear hb2);(try clear hk);(try clear hi);(try clear ho0);obtain ⟨Oa,Ps,PG⟩:=Kd.iy zo.out
          (first|subst PG|(injection PG with dZ iJ d9;have iK:=dZ.symm;have iL:=d9.symm;clear dZ iJ d9;subst iK;subst iL))
          refine hK.out _ _ (oF cK (hb5 kR)).out (fun hHeld=>?_);clear hK K;refine nA 56 ?_;refine oA 8 57 HT_ (fun K hK=>?_);refine gA Tryz.func78 #[.string Tk,.slice Oa FX.length Ps] ?_;(with_reducible refine (mW.calls k3 Tk _ _ FX XU XV _ ?aI ?aW YN.out).mono ?_)
          (case aI=>repeat (first|exact (Kd.dU zo.out).2.2|(with_reducible refine Kd.pM ?_ _)|(with_reducible refine Kd.pQ ?_ _)|(with_reducible refine Kd.pO ?_)))
          (case aW=>exact (Kd.dU zo.out).2.1)
          rintro e w52 ⟨aI9,rfl,ho0,hb⟩;refine ⟨_,rfl,?_⟩;have bP:=af.mk (U7 (by (with_reducible repeat (first|apply Kd.fD|apply Kd.fE|apply Kd.dV));exact fQ.out) (Kd.KO ho0) hb);have bQ:=af.mk (Kd.dK (rs zo) hb);have bU:=af.mk (Kd.mJ (Kd.fU (ok':=fun k_=>((w.heap.size≤k_)∧some k_≠(u4:Value).ownBlock∧some k_≠(.slice Oa FX.length Ps:Value).ownBlock∧k_≠l7∧k_≠jC)∧Ty.heap.size≤k_) (Kd.uf ho0) (fun k_ hk_=>⟨⟨(Nat.le_trans (bC (bs HB)) hk_.2.1),(Kd.fresh' (Kd.KQ (by (with_reducible repeat (first|apply Kd.fD|apply Kd.fE|apply Kd.dV));exact fQ.out)) k_ hk_.2.1),(Kd.fresh' (Kd.jX (rs zo)) k_ hk_.2.1),(Kd.sU (g:=l7) (o:=.cells #[.int .i64 ag,.string aj,.string ak,.int .i64 aD,.slice bY ay.length bW,.slice (some agf) ah.length bR] 45 (0,0)) (ks cK) k_ hk_.2.1),(Kd.sU (g:=jC) (o:=.cells #[.int .i64 ((ai ah fV).f0),.string ((ai ah fV).f1),.int .i64 ((ai ah fV).f2),.int .i64 ((ai ah fV).f3),.string ((ai ah fV).f4)] 95 (0,0)) (ks kR) k_ hk_.2.1)⟩,hk_.2.1⟩)) (bC (bs HB)));have gW:=af.mk (aZ (ks cK) hb);have l9:=af.mk (aZ (ks kR) hb);have uD:=af.mk (fF (bs HB) hb);clear fQ;clear zo;clear cK;clear kR;clear HB;have fQ:=bP;have zo:=bQ;have ZG:=bU;have cK:=gW;have kR:=l9;have HB:=uD;clear bP bQ bU gW l9 uD;(try clear hb);(try clear hb2);(try clear hk);(try clear hi);(try clear ho0);obtain ⟨aeH,aha,PH⟩:=Kd.kI ZG.out
          (first|subst PH|(injection PH with dZ iJ d9;have iK:=dZ.symm;have iL:=d9.symm;clear dZ iJ d9;subst iK;subst iL))
          refine hK.out _ _ (oF cK (hb5 kR)).out (fun hHeld=>?_);clear hK K;refine nA 57 ?_;refine oA 9 58 HT_ (fun K hK=>?_);refine DF (w1:=?_) (v:=?_) (by rfl) rfl ?_ ?_
          rotate_left 2
          ·go_simp
           constructor
           ·rfl
           ·rfl
          refine hK.out _ _ ⟨(az (eu cK.out _) 0).trans rfl,(az (eu cK.out _) 1).trans rfl,(az (eu cK.out _) 2).trans rfl,(az (eu cK.out _) 3).trans rfl,(az (eu cK.out _) 4).trans rfl,(az (eu cK.out _) 5).trans rfl,(az (eu kR.out _) 0).trans rfl,(az (eu kR.out _) 1).trans rfl,(az (eu kR.out _) 2).trans rfl,(az (eu kR.out _) 3).trans rfl,(az (eu kR.out _) 4).trans rfl⟩ (fun hHeld=>?_);clear hK K;refine nA 58 ?_;refine oA 10 59 HT_ (fun K hK=>?_);refine Kd.KM qW (w0:=w) w.heap.size (by rfl) (.tmp 49) (.tmp 58) 57 62 (.agg #[(.string ⟨#[]⟩),(.slice none 0 0)]) 40 rfl Tryz.underlying57 Sq rfl (by decide) (by omega) u4 ze (⟨XU,XV⟩:bA) [.string XU,.slice aeH XV.length aha] (fun k_=>(w.heap.size≤k_)∧some k_≠(.slice Oa FX.length Ps:Value).ownBlock∧k_≠l7∧k_≠jC) (fun k_=>(fun k_=>((fun k_=>(w.heap.size≤k_)∧some k_≠(.slice Oa FX.length Ps:Value).ownBlock∧k_≠l7∧k_≠jC)) k_∧some k_≠(u4:Value).ownBlock) k_∧Ty.heap.size≤k_) rfl rfl ?aP (fun _ hk=>hk.1) ?aF ?aO ?aB ?aS ?aL ?_
          (case aP=>exact ⟨_,rfl,Kd.fU ZG.out (fun k_ hk=>⟨⟨⟨hk.1.1,⟨hk.1.2.2.1,⟨hk.1.2.2.2.1,hk.1.2.2.2.2⟩⟩⟩,hk.1.2.1⟩,hk.2⟩)⟩)
          (case aB=>exact (bs HB))
          (case aF=>exact (fun k_ hk=>⟨(Nat.le_trans (bC (bs HB)) hk),Kd.fresh' (Kd.jX (rs zo)) k_ hk,Kd.sU (g:=l7) (o:=.cells #[.int .i64 ag,.string aj,.string ak,.int .i64 aD,.slice bY ay.length bW,.slice (some agf) ah.length bR] 45 (0,0)) (ks cK) k_ hk,Kd.sU (g:=jC) (o:=.cells #[.int .i64 ((ai ah fV).f0),.string ((ai ah fV).f1),.int .i64 ((ai ah fV).f2),.int .i64 ((ai ah fV).f3),.string ((ai ah fV).f4)] 95 (0,0)) (ks kR) k_ hk⟩))
          (case aO=>exact (by (with_reducible repeat (first|apply Kd.fD|apply Kd.fE|apply Kd.dV));exact Kd.fU fQ.out (fun _ hk=>⟨⟨hk.1.1.1.1,⟨hk.1.1.2,⟨hk.1.1.1.2.1,hk.1.1.1.2.2⟩⟩⟩,fun hT_=>Nat.not_le_of_lt hk.2 hT_.2⟩)))
          (case aS=>exact (bC (bs HB)))
          (case aL=>have:=aox.out;omega)
          intro aJa w53 ho hb hg hat
          rw [← apf.out] at ho
          have bP:=af.mk (fG (ks cK) hg (Kd.Cr fQ.out cK.out (by decide)));have bQ:=af.mk (fG (ks kR) hg (Kd.Cr fQ.out kR.out (by decide)));have bU:=af.mk (Kd.Er (rs zo) (Kd.zt (by (with_reducible repeat (first|apply Kd.fD|apply Kd.fE|apply Kd.dV));exact fQ.out)) (by decide) hg);have gW:=af.mk (hb);have l9:=af.mk (ho);clear cK;clear kR;clear zo;clear HB;clear fQ;clear ZG;have cK:=bP;have kR:=bQ;have zo:=bU;have HB:=gW;have anC:=l9;clear bP bQ bU gW l9;clear ho hb hg hat;refine hK.out _ _ (oF cK (hb5 kR)).out (fun hHeld=>?_);clear hK K;refine nA 59 ?_;refine pA 11 4 HT_ ?_;refine fq (gp HT_.out (by kernel_rfl)) ?_
          try go_wp2
          go_roundg k3
          case measure=>have:=UC.out;have:=cz.out;have:=pU.out;omega
          case rel=>exact ⟨(al1),(wrap64 (fV+1)),fg,H',⟨by have:=UC.out;have:=cz.out;have:=pU.out;omega⟩,⟨by (with_reducible repeat (first|apply Kd.fD|apply Kd.fE|apply Kd.dV));exact Kd.fU anC.out (fun _ hk=>⟨hk.1,hk.2.2.1⟩)⟩,⟨ks cK⟩,⟨bs HB⟩⟩
         ·intro Cz H;obtain rfl:=si H
          go_wp2
          go_ret
          exact ⟨_,ff,by (with_reducible repeat (first|apply Kd.fD|apply Kd.fE|apply Kd.dV));exact Kd.fU fQ.out (fun _ hk=>hk.1),bs HB⟩
   ·intro c14 H
    exact absurd H (by simp)
theorem gH.calls (k:Nat) (ag:Int) (aj:ByteArray) (ak:ByteArray) (aD:Int) (bY:Option Addr) (bW:Nat) (ay:List ByteArray) (df:Option Addr) (bR:Nat) (ah:List (aY)) (r:List (bA)) (w:World) (ko:Kd.C Kd.string w bY ay.length ay) (j6:ay.length≤bW) (kr:Kd.C iR w df ah.length ah) (kg:ah.length≤bR) (hTF:sM w) (H:gH.f k ag aj ak aD ay ah=some r) :
  Calls Tryz.prog 42 #[.agg #[.int .i64 ag,.string aj,.string ak,.int .i64 aD,.slice bY ay.length bW,.slice df ah.length bR]] w fun e w'=>∃ kT:Value,e=.returned (kT)∧Kd.N kS 62 w' w.heap.size (fun k_=>(w.heap.size≤k_)) kT r∧Below w.heap.size w w':=by
 refine (gH.CF k ag aj ak aD bY bW ay df bR ah r w ko j6 kr kg hTF H).mono ?_
 rintro e w' ⟨v,he,hS,hb⟩
 exact ⟨v,he,akn hS,hb⟩
theorem Mk.calls (A0:Option Addr) (c0:Nat) (l0:List (bA)) (r:Bool) (w:World) (hr0:Kd.C kS w A0 l0.length l0) (hc0:l0.length≤c0) (H:Mk.f l0=some r) :
  Calls Tryz.prog 82 #[.slice A0 l0.length c0] w fun e w'=>e=.returned (.bool r)∧aT w w':=by
 have fZ:=am hr0;have ku:=am hc0;clear hr0 hc0;unfold Mk.f at H;obtain rfl:=si H
 go_in
 go_wp2
 go_ret
 exact ⟨fg,dr⟩
def zu (w:World):Prop:=∃ m,w.cell? ⟨1,0,none⟩=some (.int .i64 m)
theorem Ag {w W:World} (h:af (zu w)) (hb:Below w.heap.size w W):zu W:=by
 obtain ⟨m,h0⟩:=h.out
 exact ⟨m,(hb.cell (World.block_lt_of_cell? w _ h0)).trans h0⟩
theorem strings_Cut.calls (a0:ByteArray) (a1:ByteArray) (r1:ByteArray) (r2:ByteArray) (r3:Bool) (w:World) (hTC:zu w) (h:strings_Cut.f a0 a1=some (r1,r2,r3)) :
  Calls Tryz.prog 116 #[.string a0,.string a1] w fun e w'=>e=.returned (.tuple #[.string r1,.string r2,.bool r3])∧Below w.heap.size w w':=by
 unfold strings_Cut.f at h
 by_cases c1:a0.size<4294967281
 ·rw [if_pos c1] at h
  obtain ⟨rfl,rfl,rfl⟩:(⟨(Lib.cut a0.data.toList a1.data.toList).1.toArray⟩:ByteArray)=r1∧(⟨(Lib.cut a0.data.toList a1.data.toList).2.1.toArray⟩:ByteArray)=r2∧(Lib.cut a0.data.toList a1.data.toList).2.2=r3:=by simpa using h
  obtain ⟨m,hm⟩:=hTC;refine (show Calls Tryz.prog 116 #[.string a0,.string a1] w _ from Any.strings_Cut Tryz.akz a0 a1 m w c1 hm).mono ?_;rintro e w' ⟨rfl,k,rfl⟩
  exact ⟨rfl,jc (Below.refl _ _) k⟩
 ·rw [if_neg c1] at h;cases h
theorem strings_IndexByte.calls (a0:ByteArray) (a1:Int) (r:Int) (w:World) (h:strings_IndexByte.f a0 a1=some r) :
  Calls Tryz.prog 117 #[.string a0,.int .u8 a1] w fun e w'=>e=.returned (.int .i64 r)∧aT w w':=by
 obtain rfl:=Option.some.inj h;refine (show Calls Tryz.prog 117 #[.string a0,.int .u8 a1] w _ from Any.strings_IndexByte Tryz.aky a0 a1 w).mono ?_;rintro e w' ⟨rfl,rfl⟩
 exact ⟨rfl,aT.refl _⟩
theorem Ms.calls (a0:ByteArray) (r:Bool) (w:World) (H:Ms.f a0=some r) :
  Calls Tryz.prog 136 #[.string a0] w fun e w'=>e=.returned (.bool r)∧aT w w':=by
 unfold Ms.f at H;obtain rfl:=si H
 go_in
 go_wp2
 go_ret
 exact ⟨fg,dr⟩
theorem vE.calls (k:Nat) (A0:Option Addr) (c0:Nat) (l0:List ByteArray)  (r:Int) (w:World) (hr0:Kd.C Kd.string w A0 l0.length l0) (hc0:l0.length≤c0) (H:vE.f k l0=some r) :
  Calls Tryz.prog 154 #[.slice A0 l0.length c0,.func (.func 136) #[] #[]] w fun e w'=>e=.returned (.int .i64 r)∧aT w w':=by
 have fZ:=am hr0;have ku:=am hc0;clear hr0 hc0;unfold vE.f at H;have H':=am H;clear H
 go_in
 go_wp2
 go_loopg [8] k (fun kq v8 w'=>∃ (aA:Int),v8=.int .i64 aA∧af (vE.l0 kq l0 (l0.length:Int) aA=some r)∧af (kq≤k)∧aT w w')
 case atStart=>exact ⟨(0),fg,H',⟨Nat.le_refl _⟩,by repeat (first|exact aT.refl _|apply aT.step)⟩
 case round =>
  clear H'
  obtain ⟨aA,rfl,HA,aU,⟨m1,rfl⟩⟩:=hrel
  cases gk with
  | zero=>exact absurd HA.out (by simp [vE.l0])
  | succ k1 =>
   have H:=HA.out;clear HA;simp only [vE.l0] at H
   revert H;refine cB ?_ ?_
   ·intro bN H
    revert H;refine bu ?_
    intro dS H
    revert H;refine bu ?_
    intro kv H;replace H:=bo H;obtain ⟨t9,A6,H⟩:=H;obtain ⟨p7,q7,OV,e7,Sg⟩:=wi (Kd.iZ fZ.out aA)
    cases e7
    try go_wp2_with (fail)
    go_at_call 136;(with_reducible refine (Ms.calls (aX ByteArray.empty l0 aA) t9 _ A6.out).mono ?_);rintro e w' ⟨rfl,⟨nd,rfl⟩⟩
    obtain rfl|rfl:=bt t9
    ·replace H:=dE H;obtain rfl:=si H
     go_wp2
     go_ret
     exact ⟨fg,dr⟩
    ·replace H:=dD H;have H':=am H;clear H
     go_wp2
     go_roundg k1
     case measure=>have:=aU.out;omega
     case rel=>exact ⟨(wrap64 (aA+1)),fg,H',⟨by have:=aU.out;omega⟩,by repeat (first|exact aT.refl _|apply aT.step)⟩
   ·intro bN H;obtain rfl:=si H
    go_wp2
    go_ret
    exact ⟨fg,dr⟩
theorem MW.calls (k:Nat) (A0:Option Addr) (c0:Nat) (l0:List ByteArray)  (r:Bool) (w:World) (hr0:Kd.C Kd.string w A0 l0.length l0) (hc0:l0.length≤c0) (H:MW.f k l0=some r) :
  Calls Tryz.prog 135 #[.slice A0 l0.length c0,.func (.func 136) #[] #[]] w fun e w'=>e=.returned (.bool r)∧aT w w':=by
 have fZ:=am hr0;have ku:=am hc0;clear hr0 hc0;unfold MW.f at H;replace H:=bo H;obtain ⟨t4,A3,H⟩:=H;obtain rfl:=si H
 go_in
 go_wp2_with (first|((go_at_call 154;(with_reducible refine (vE.calls k _ _ l0  t4 _ ?aI ku.out A3.out).mono ?_);(case aI=>exact sd fZ.out);rintro e w' ⟨rfl,⟨nd,rfl⟩⟩)))
 go_ret
 exact ⟨fg,dr⟩
theorem Dn.calls (k:Nat) (A0:Option Addr) (c0:Nat) (l0:List ByteArray) (r:Bool) (w:World) (hr0:Kd.C Kd.string w A0 l0.length l0) (hc0:l0.length≤c0) (H:Dn.f k l0=some r) :
  Calls Tryz.prog 118 #[.slice A0 l0.length c0] w fun e w'=>e=.returned (.bool r)∧aT w w':=by
 have fZ:=am hr0;have ku:=am hc0;clear hr0 hc0;unfold Dn.f at H;replace H:=bo H;obtain ⟨t3,A2,H⟩:=H;obtain rfl:=si H
 go_in
 go_wp2_with (first|((go_at_call 135;(with_reducible refine (MW.calls k _ _ l0  t3 _ ?aI ku.out A2.out).mono ?_);(case aI=>exact sd fZ.out);rintro e w' ⟨rfl,⟨nd,rfl⟩⟩)))
 go_ret
 exact ⟨fg,dr⟩
theorem xO.calls (a0:Int) (r:Bool) (w:World) (H:xO.f a0=some r) :
  Calls Tryz.prog 93 #[.int .u8 a0] w fun e w'=>e=.returned (.bool r)∧aT w w':=by
 unfold xO.f at H
 revert H;refine gz ?_ ?_
 ·intro c2 H;have gJ:decide (65≤a0)=true:=decide_eq_true c2;clear c2;obtain rfl:=si H
  go_in
  go_wp2
  go_ret
  exact ⟨fg,dr⟩
 ·intro c2 H;have gJ:decide (65≤a0)=false:=decide_eq_false c2;clear c2;obtain rfl:=si H
  go_in
  go_wp2
  go_ret
  exact ⟨fg,dr⟩
theorem Dl.calls (a0:Int) (r:Bool) (w:World) (H:Dl.f a0=some r) :
  Calls Tryz.prog 94 #[.int .u8 a0] w fun e w'=>e=.returned (.bool r)∧aT w w':=by
 unfold Dl.f at H
 revert H;refine gz ?_ ?_
 ·intro c2 H;have gJ:decide (48≤a0)=true:=decide_eq_true c2;clear c2;obtain rfl:=si H
  go_in
  go_wp2
  go_ret
  exact ⟨fg,dr⟩
 ·intro c2 H;have gJ:decide (48≤a0)=false:=decide_eq_false c2;clear c2;obtain rfl:=si H
  go_in
  go_wp2
  go_ret
  exact ⟨fg,dr⟩
theorem oI.calls (k:Nat) (a0:ByteArray) (r:Bool) (w:World) (H:oI.f k a0=some r) :
  Calls Tryz.prog 47 #[.string a0] w fun e w'=>e=.returned (.bool r)∧aT w w':=by
 unfold oI.f at H;have H':=am H;clear H
 go_in
 go_wp2
 go_loopg [6] k (fun kq v6 w'=>∃ (dF:Int),v6=.int .i64 dF∧af (oI.l0 kq a0 (a0.size:Int) dF=some r)∧af (kq≤k)∧aT w w')
 case atStart=>exact ⟨(0),fg,H',⟨Nat.le_refl _⟩,by repeat (first|exact aT.refl _|apply aT.step)⟩
 case round =>
  clear H';obtain ⟨dF,rfl,HA,aU,⟨m1,rfl⟩⟩:=hrel
  cases gk with
  | zero=>exact absurd HA.out (by simp [oI.l0])
  | succ k1 =>
   have H:=HA.out;clear HA;simp only [oI.l0] at H
   revert H;refine cB ?_ ?_
   ·intro gJ H
    revert H;refine bu ?_
    intro bN H
    revert H;refine bu ?_
    intro dS H;replace H:=bo H;obtain ⟨t7,A6,H⟩:=H;have p5:0≤(dF:Int):=oa;have q5:dF<(a0.size:Int):=oa;have hx5:=gF a0 dF;replace p5:=eq_true p5;replace q5:=eq_true q5
    try go_wp2_with (fail)
    go_at_call 93;(with_reducible refine (xO.calls (bt a0 dF) t7 _ A6.out).mono ?_);rintro e w' ⟨rfl,⟨nd,rfl⟩⟩
    obtain rfl|rfl:=bt t7
    ·replace H:=dE H;have H':=am H;clear H
     go_wp2
     go_roundg k1
     case measure=>have:=aU.out;omega
     case rel=>exact ⟨(wrap64 (dF+1)),fg,H',⟨by have:=aU.out;omega⟩,by repeat (first|exact aT.refl _|apply aT.step)⟩
    ·replace H:=dD H
     revert H;refine bL ?_ ?_
     ·intro jR uU H;obtain rfl:=si H
      go_wp2
      go_ret
      exact ⟨fg,dr⟩
     ·intro c8 jR uU H;replace H:=bo H;obtain ⟨vG,qb,H⟩:=H;have p9:0≤(dF:Int):=oa;have q9:dF<(a0.size:Int):=oa;have hx9:=gF a0 dF;replace p9:=eq_true p9;replace q9:=eq_true q9
      try go_wp2_with (fail)
      go_at_call 94;(with_reducible refine (Dl.calls (bt a0 dF) vG _ qb.out).mono ?_);rintro e w' ⟨rfl,⟨nd,rfl⟩⟩
      obtain rfl|rfl:=bt vG
      ·replace H:=dE H;have H':=am H;clear H
       go_wp2
       go_roundg k1
       case measure=>have:=aU.out;omega
       case rel=>exact ⟨(wrap64 (dF+1)),fg,H',⟨by have:=aU.out;omega⟩,by repeat (first|exact aT.refl _|apply aT.step)⟩
      ·replace H:=dD H
       revert H;refine bL ?_ ?_
       ·intro lC zA H;have H':=am H;clear H;have iq:0≤(dF:Int):=oa;have ik:dF<(a0.size:Int):=oa;have wz:=gF a0 dF;replace iq:=eq_true iq;replace ik:=eq_true ik
        go_wp2
        go_roundg k1
        case measure=>have:=aU.out;omega
        case rel=>exact ⟨(wrap64 (dF+1)),fg,H',⟨by have:=aU.out;omega⟩,by repeat (first|exact aT.refl _|apply aT.step)⟩
       ·intro c13 lC zA H;obtain rfl:=si H;have iq:0≤(dF:Int):=oa;have ik:dF<(a0.size:Int):=oa;have wz:=gF a0 dF;replace iq:=eq_true iq;replace ik:=eq_true ik
        go_wp2
        go_ret
        exact ⟨fg,dr⟩
   ·intro gJ H;replace H:=bo H;obtain ⟨vH,zf,H⟩:=H;obtain rfl:=si H
    go_wp2_with (first|((go_at_call 41;(with_reducible refine (kY.calls (a0.size:Int) 1 12 vH _ zf.out).mono ?_);rintro e w' ⟨rfl,⟨nd,rfl⟩⟩)))
    go_ret
    exact ⟨fg,dr⟩
end Go.Proofs.YtapilmimgiaglaaGreatDoor.QA
