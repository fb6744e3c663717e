import Derived.Test.YtapilmimgiaglaaGreatDoorKFnExactParcelIx19
set_option maxHeartbeats 8000000
set_option maxRecDepth 100000
set_option linter.unusedSimpArgs false
set_option linter.unusedVariables false
namespace Go.Proofs.YtapilmimgiaglaaGreatDoor.QX
open Go.RowKit Go.Proofs.bB.eH Go.Proofs.bB.PrintLast Go.Proofs.bB.PrintMore
attribute [local go_sem] oU o5 oZ o8 oW o7 oV o6
def ay (w0 W:World)(g:Nat)(f0:Int)(f1:ByteArray)(f2 f3:Int)(f4:ByteArray):Prop:=W.heap[g]? = some (.cells #[.int .i64 f0,.string f1,.int .i64 f2,.int .i64 f3,.string f4] 95 (0,0))∧w0.heap.size≤g
theorem ay.grown {w0 W:World}{g:Nat}{f0:Int}{f1:ByteArray}{f2 f3:Int}{f4:ByteArray}{W1:World}{row:Option Nat}(h:ay w0 W g f0 f1 f2 f3 f4)(hw:W.grownBy W1 row)(hne:some g≠row):ay w0 W1 g f0 f1 f2 f3 f4:=by
 obtain ⟨hb,hg⟩:=h
 exact ⟨fV hb hw hne,hg⟩
theorem ay.kept {w0 W:World}{g:Nat}{f0:Int}{f1:ByteArray}{f2 f3:Int}{f4:ByteArray}{W1:World}{S:Nat→Prop}(h:ay w0 W g f0 f1 f2 f3 f4)(hk:Kept W W1 S)(hne:¬ S g):ay w0 W1 g f0 f1 f2 f3 f4:=by
 obtain ⟨hb,hg⟩:=h
 exact ⟨nC hb hk hne,hg⟩
theorem ay.below {w0 W:World}{g:Nat}{f0:Int}{f1:ByteArray}{f2 f3:Int}{f4:ByteArray}{W1:World}(h:ay w0 W g f0 f1 f2 f3 f4)(hw:Below W.heap.size W W1):ay w0 W1 g f0 f1 f2 f3 f4:=h.grown (akq hw none) (by simp)
theorem ay.alloc {w0 W:World}{g:Nat}{f0:Int}{f1:ByteArray}{f2 f3:Int}{f4:ByteArray}(h:ay w0 W g f0 f1 f2 f3 f4)(o:Obj):ay w0 (W.alloc o) g f0 f1 f2 f3 f4:=h.below (kG (Below.refl _ _) o)
theorem ay.drewN {w0 W:World}{g:Nat}{f0:Int}{f1:ByteArray}{f2 f3:Int}{f4:ByteArray}(h:ay w0 W g f0 f1 f2 f3 f4)(m:Nat):ay w0 (W.drewN m) g f0 f1 f2 f3 f4:=h
theorem ay.drew {w0 W:World}{g:Nat}{f0:Int}{f1:ByteArray}{f2 f3:Int}{f4:ByteArray}(h:ay w0 W g f0 f1 f2 f3 f4):ay w0 W.drew g f0 f1 f2 f3 f4:=h
theorem ay.at_ {w0 W:World}{g:Nat}{f0:Int}{f1:ByteArray}{f2 f3:Int}{f4:ByteArray}{w':World}{m:Nat}(hq:W.drewN m=w')(h:ay w0 W g f0 f1 f2 f3 f4):ay w0 w' g f0 f1 f2 f3 f4:=by subst hq;exact ay.drewN h m
theorem ay.apart {w0 W:World}{g:Nat}{f0:Int}{f1:ByteArray}{f2 f3:Int}{f4:ByteArray}{α:Type}{d:Kd α}{e base:Nat}{ok:Nat→Prop}{v:Value}{xs:List α}(h:ay w0 W g f0 f1 f2 f3 f4)(ho:d.R e W base ok v xs)(ht:∀ q,q ∈ e :: d.E→q≠95):d.R e W base (fun k=>ok k∧k≠g) v xs:=by
 obtain ⟨hb,hg⟩:=h
 exact Kd.mi ho hb ht
theorem ay.own_ne {w0 W:World}{g:Nat}{f0:Int}{f1:ByteArray}{f2 f3:Int}{f4:ByteArray}{α:Type}{d:Kd α}{e base:Nat}{ok:Nat→Prop}{v:Value}{xs:List α}(h:ay w0 W g f0 f1 f2 f3 f4)(ho:d.R e W base ok v xs)(ht:e≠95):some g≠v.ownBlock:=by
 obtain ⟨hb,hg⟩:=h
 exact Kd.ko ho hb ht
theorem ay.lt {w0 W:World}{g:Nat}{f0:Int}{f1:ByteArray}{f2 f3:Int}{f4:ByteArray}(h:ay w0 W g f0 f1 f2 f3 f4):g<W.heap.size:=by
 obtain ⟨hb,hg⟩:=h
 exact pR hb
theorem ay.ge {w0 W:World}{g:Nat}{f0:Int}{f1:ByteArray}{f2 f3:Int}{f4:ByteArray}(h:ay w0 W g f0 f1 f2 f3 f4):w0.heap.size≤g:=by
 obtain ⟨hb,hg⟩:=h
 exact hg
theorem ay.far {w0 W:World}{g:Nat}{f0:Int}{f1:ByteArray}{f2 f3:Int}{f4:ByteArray}{p:Addr}(h:ay w0 W g f0 f1 f2 f3 f4)(hne:g≠p.block)(u:Value):ay w0 (W.setCell p u) g f0 f1 f2 f3 f4:=by
 obtain ⟨hb,hg⟩:=h
 exact ⟨Kh hb hne u,hg⟩
theorem BI {W:World}{g:Nat}{f0:Int}{f1:ByteArray}{f2 f3:Int}{f4:ByteArray}(h:W.heap[g]? = some (.cells #[.int .i64 f0,.string f1,.int .i64 f2,.int .i64 f3,.string f4] 95 (0,0))):W.cell? ⟨g,0,none⟩=some (.int .i64 f0):=(aA h 0).trans rfl
theorem ay.sQ {w0 W:World}{g:Nat}{f0:Int}{f1:ByteArray}{f2 f3:Int}{f4:ByteArray}(h:ay w0 W g f0 f1 f2 f3 f4)(x:Int):ay w0 (W.setCell ⟨g,0,none⟩ (.int .i64 x)) g x f1 f2 f3 f4:=by
 obtain ⟨hb,hg⟩:=h
 exact ⟨by simpa using Ki hb 0 (.int .i64 x),hg⟩
theorem BJ {W:World}{g:Nat}{f0:Int}{f1:ByteArray}{f2 f3:Int}{f4:ByteArray}(h:W.heap[g]? = some (.cells #[.int .i64 f0,.string f1,.int .i64 f2,.int .i64 f3,.string f4] 95 (0,0))):W.cell? ⟨g,1,none⟩=some (.string f1):=(aA h 1).trans rfl
theorem ay.sS {w0 W:World}{g:Nat}{f0:Int}{f1:ByteArray}{f2 f3:Int}{f4:ByteArray}(h:ay w0 W g f0 f1 f2 f3 f4)(x:ByteArray):ay w0 (W.setCell ⟨g,1,none⟩ (.string x)) g f0 x f2 f3 f4:=by
 obtain ⟨hb,hg⟩:=h
 exact ⟨by simpa using Ki hb 1 (.string x),hg⟩
theorem BM {W:World}{g:Nat}{f0:Int}{f1:ByteArray}{f2 f3:Int}{f4:ByteArray}(h:W.heap[g]? = some (.cells #[.int .i64 f0,.string f1,.int .i64 f2,.int .i64 f3,.string f4] 95 (0,0))):W.cell? ⟨g,2,none⟩=some (.int .i64 f2):=(aA h 2).trans rfl
theorem ay.sU {w0 W:World}{g:Nat}{f0:Int}{f1:ByteArray}{f2 f3:Int}{f4:ByteArray}(h:ay w0 W g f0 f1 f2 f3 f4)(x:Int):ay w0 (W.setCell ⟨g,2,none⟩ (.int .i64 x)) g f0 f1 x f3 f4:=by
 obtain ⟨hb,hg⟩:=h
 exact ⟨by simpa using Ki hb 2 (.int .i64 x),hg⟩
theorem BN {W:World}{g:Nat}{f0:Int}{f1:ByteArray}{f2 f3:Int}{f4:ByteArray}(h:W.heap[g]? = some (.cells #[.int .i64 f0,.string f1,.int .i64 f2,.int .i64 f3,.string f4] 95 (0,0))):W.cell? ⟨g,3,none⟩=some (.int .i64 f3):=(aA h 3).trans rfl
theorem ay.sV {w0 W:World}{g:Nat}{f0:Int}{f1:ByteArray}{f2 f3:Int}{f4:ByteArray}(h:ay w0 W g f0 f1 f2 f3 f4)(x:Int):ay w0 (W.setCell ⟨g,3,none⟩ (.int .i64 x)) g f0 f1 f2 x f4:=by
 obtain ⟨hb,hg⟩:=h
 exact ⟨by simpa using Ki hb 3 (.int .i64 x),hg⟩
theorem BO {W:World}{g:Nat}{f0:Int}{f1:ByteArray}{f2 f3:Int}{f4:ByteArray}(h:W.heap[g]? = some (.cells #[.int .i64 f0,.string f1,.int .i64 f2,.int .i64 f3,.string f4] 95 (0,0))):W.cell? ⟨g,4,none⟩=some (.string f4):=(aA h 4).trans rfl
theorem ay.sW {w0 W:World}{g:Nat}{f0:Int}{f1:ByteArray}{f2 f3:Int}{f4:ByteArray}(h:ay w0 W g f0 f1 f2 f3 f4)(x:ByteArray):ay w0 (W.setCell ⟨g,4,none⟩ (.string x)) g f0 f1 f2 f3 x:=by
 obtain ⟨hb,hg⟩:=h
 exact ⟨by simpa using Ki hb 4 (.string x),hg⟩
theorem ay.new (w0 W:World)(f0:Int)(f1:ByteArray)(f2 f3:Int)(f4:ByteArray)(hB:Below w0.heap.size w0 W):ay w0 (W.alloc (.cells #[.int .i64 f0,.string f1,.int .i64 f2,.int .i64 f3,.string f4] 95)) W.heap.size f0 f1 f2 f3 f4:=⟨by simpa using heap_alloc_new W _,hB.size⟩
theorem Pq.calls (ag:Int)(aj:ByteArray)(ak aM:Int)(oh:ByteArray)(g:Nat)(uN:Int)(uh:ByteArray)(uO s1_3:Int)(uP:ByteArray)(r1:Bool)(r2:Int)(r3:ByteArray)(r4 r5:Int)(r6:ByteArray)(w0 w:World)(hI:ay w0 w g uN uh uO s1_3 uP)(hB:Below w0.heap.size w0 w)(H:Pq.f ag aj ak aM oh uN uh uO s1_3 uP=some (r1,r2,r3,r4,r5,r6)) :
  Calls Tryz.prog 92 #[.agg #[.int .i64 ag,.string aj,.int .i64 ak,.int .i64 aM,.string oh],.pointer (some ⟨g,0,none⟩)] w fun e w'=>e=.returned (.bool r1)∧ay w0 w' g r2 r3 r4 r5 r6∧Below w0.heap.size w0 w'∧gI w w' g none:=by
 have Dx:=Tryz.underlying95;have HI1:=am hI;have HK:=am (gI.refl w g none);have HL:=am hB.size;clear hI;have HW0:=am hB.size;have HB:=am hB;clear hB;unfold Pq.f at H;replace H:=PR H;obtain ⟨rfl,rfl,rfl,rfl,rfl,rfl⟩:=H
 go_in
 go_wp2_with (first|((with_reducible refine aJ (N:=2) rfl ?_);refine bx 2 (cs:=#[.int .i64 ag,.string aj,.int .i64 ak,.int .i64 aM,.string oh]) (t:=95) ?_;intro KH hg w3 hbox hb;replace HB:=am (gP (by repeat (first|(with_reducible first|exact HB.o|apply kG|apply jH|apply cZ|refine eX ?_ (ay.ge HI1.o))|exact HB.o)) hb);have yR:=am (hbox);have GW8:=am ((by rw [hg];exact (am7 (w:=w) (g:=g) (row:=none) (by repeat (first|(with_reducible first|exact HK.o|apply gI.zK|apply Au|apply Ar|apply Aq)|exact HK.o))):w.heap.size≤KH));have GE8:=am ((Nat.le_trans HW0.o (by rw [hg];exact (am7 (w:=w) (g:=g) (row:=none) (by repeat (first|(with_reducible first|exact HK.o|apply gI.zK|apply Au|apply Ar|apply Aq)|exact HK.o))):w.heap.size≤KH):w0.heap.size≤KH));replace HK:=am (gI.trans (by repeat (first|(with_reducible first|exact HK.o|apply gI.zK|apply Au|apply Ar|apply Aq)|exact HK.o)) (gI.of_below hb g none) (.inl rfl));have ail:=am ((by rw [hg];exact Nat.ne_of_lt (ay.lt (show ay w0 _ g uN uh uO s1_3 uP from by repeat (first|(with_reducible first|exact HI1.o|apply ay.alloc|apply ay.drewN|apply ay.drew|apply ay.sQ|apply ay.sS|apply ay.sU|apply ay.sV|apply ay.sW)|exact HI1.o))):g≠KH));have arW:=am ((by rw [hg];exact Nat.ne_of_gt (ay.lt (show ay w0 _ g uN uh uO s1_3 uP from by repeat (first|(with_reducible first|exact HI1.o|apply ay.alloc|apply ay.drewN|apply ay.drew|apply ay.sQ|apply ay.sS|apply ay.sU|apply ay.sV|apply ay.sW)|exact HI1.o))):KH≠g));replace HI1:=am (ay.below (by repeat (first|(with_reducible first|exact HI1.o|apply ay.alloc|apply ay.drewN|apply ay.drew|apply ay.sQ|apply ay.sS|apply ay.sU|apply ay.sV|apply ay.sW)|exact HI1.o)) hb);clear hb hbox hg;have aJa:=arW.o;have aJU:=ail.o;have BQ:=kW yR;obtain ⟨Bj,awD⟩:=HI1.o;have av7:=BI Bj;have av8:=BJ Bj;have aGf:=BM Bj;have aGg:=BN Bj;have aGh:=BO Bj;have awz:=bu Bj 0;have awC:=bu Bj 1;have aHO:=bu Bj 2;have aHP:=bu Bj 3;have aHQ:=bu Bj 4;clear Bj awD))
 go_ret
 exact ⟨ff,by repeat (first|(with_reducible first|exact HI1.o|apply ay.alloc|apply ay.drewN|apply ay.drew|apply ay.sQ|apply ay.sS|apply ay.sU|apply ay.sV|apply ay.sW|refine ay.far ?_ ail.o _)|exact HI1.o),by repeat (first|(with_reducible first|exact HB.o|apply kG|apply jH|apply cZ|refine eX ?_ (ay.ge HI1.o)|refine eX ?_ GE8.o)|exact HB.o),by repeat (first|(with_reducible first|exact HK.o|apply gI.zK|apply Au|apply Ar|apply Aq|refine ayi ?_ GW8.o _)|exact HK.o)⟩
theorem xA.calls (k:Nat)(A0:Option Addr)(c0:Nat)(l0:List aZ)(g:Nat)(uN:Int)(uh:ByteArray)(uO s1_3:Int)(uP:ByteArray)(r1 r2:Int)(r3:ByteArray)(r4 r5:Int)(r6:ByteArray)(w0 w:World)(hI:ay w0 w g uN uh uO s1_3 uP)(hB:Below w0.heap.size w0 w)(hr0:∀ W_,gI w W_ g none→Kd.C iA W_ A0 l0.length l0)(hc0:l0.length≤c0)(H:xA.f k l0 uN uh uO s1_3 uP=some (r1,r2,r3,r4,r5,r6)) :
  Calls Tryz.prog 122 #[.slice A0 l0.length c0,.func (.func 92) #[] #[.pointer (some ⟨g,0,none⟩)]] w fun e w'=>e=.returned (.int .i64 r1)∧ay w0 w' g r2 r3 r4 r5 r6∧Below w0.heap.size w0 w'∧gI w w' g none:=by
 have Dx:=Tryz.underlying95;have bG:=am hr0;have jC:=am hc0;clear hr0 hc0;have HI1:=am hI;have HK:=am (gI.refl w g none);have HL:=am hB.size;clear hI;have HW0:=am hB.size;have HB:=am hB;clear hB;unfold xA.f at H;have H':=am H;clear H
 go_in
 go_wp2
 go_loopg [8] k (fun kq v8 w'=>∃ (aD:Int) (aba:Int) (Gb:ByteArray) (rH:Int) (jR:Int) (abb:ByteArray),v8=.int .i64 aD∧af (xA.l0 kq l0 (l0.length:Int) aD aba Gb rH jR abb=some (r1,r2,r3,r4,r5,r6))∧af (kq≤k)∧af (ay w0 w' g aba Gb rH jR abb)∧af (gI w w' g none)∧af (Below w0.heap.size w0 w'))
 case atStart=>exact ⟨(0),(uN),(uh),(uO),(s1_3),(uP),fg,H',⟨Nat.le_refl _⟩,⟨by repeat (first|(with_reducible first|exact HI1.o|apply ay.alloc|apply ay.drewN|apply ay.drew|apply ay.sQ|apply ay.sS|apply ay.sU|apply ay.sV|apply ay.sW)|exact HI1.o)⟩,⟨by repeat (first|(with_reducible first|exact HK.o|apply gI.zK|apply Au|apply Ar|apply Aq)|exact HK.o)⟩,⟨by repeat (first|(with_reducible first|exact HB.o|apply kG|apply jH|apply cZ|refine eX ?_ (ay.ge HI1.o))|exact HB.o)⟩⟩
 case round =>
  clear H'
  obtain ⟨aD,aba,Gb,rH,jR,abb,rfl,HA,aQ,HI1,HK,HB⟩:=hrel
  cases gk with
  | zero=>exact absurd HA.o (by simp [xA.l0])
  | succ k1 =>
   have H:=HA.o;clear HA;simp only [xA.l0] at H
   revert H;refine bK ?_ ?_
   ·intro aY H
    revert H;refine bv ?_
    intro dF H
    revert H;refine bv ?_
    intro ja H;replace H:=bo H;obtain ⟨⟨qQ,t16,t17,lK,mG,t20⟩,A6,H⟩:=H;(try dsimp only at H);obtain ⟨p9,q9,xe,e9,l8,nP,yB,Cr,Cs⟩:=wi (uA (Kd.apt bG.o HK.o) aD)
    cases e9
    try go_wp2_with (fail)
    go_at_call 92;refine (Pq.calls ((ai l0 aD).f0) ((ai l0 aD).f1) ((ai l0 aD).f2) ((ai l0 aD).f3) ((ai l0 aD).f4) g aba Gb rH jR abb qQ t16 t17 lK mG t20 w0 _ ?aR ?bg A6.o).mono ?_;(case aR=>repeat (first|(with_reducible first|exact HI1.o|apply ay.alloc|apply ay.drewN|apply ay.drew|apply ay.sQ|apply ay.sS|apply ay.sU|apply ay.sV|apply ay.sW)|exact HI1.o));(case bg=>repeat (first|(with_reducible first|exact HB.o|apply kG|apply jH|apply cZ|refine eX ?_ (ay.ge HI1.o))|exact HB.o));rintro e w7 ⟨rfl,hi,hb,hk⟩;replace HK:=am (gI.trans (by repeat (first|(with_reducible first|exact HK.o|apply gI.zK|apply Au|apply Ar|apply Aq)|exact HK.o)) hk (.inl rfl));replace HB:=am (hb);replace HI1:=am (hi);(try clear hb);(try clear hk);(try clear hi)
    obtain rfl|rfl:=bt qQ
    ·replace H:=dm H;replace H:=PR H;obtain ⟨rfl,rfl,rfl,rfl,rfl,rfl⟩:=H
     go_wp2
     go_ret
     exact ⟨ff,by repeat (first|(with_reducible first|exact HI1.o|apply ay.alloc|apply ay.drewN|apply ay.drew|apply ay.sQ|apply ay.sS|apply ay.sU|apply ay.sV|apply ay.sW)|exact HI1.o),by repeat (first|(with_reducible first|exact HB.o|apply kG|apply jH|apply cZ|refine eX ?_ (ay.ge HI1.o))|exact HB.o),by repeat (first|(with_reducible first|exact HK.o|apply gI.zK|apply Au|apply Ar|apply Aq)|exact HK.o)⟩
    ·replace H:=di H;have H':=am H;clear H
     go_wp2
     go_roundg k1
     case measure=>have:=aQ.o;omega
     case rel=>exact ⟨(wrap64 (aD+1)),(t16),(t17),(lK),(mG),(t20),fg,H',⟨by have:=aQ.o;omega⟩,⟨by repeat (first|(with_reducible first|exact HI1.o|apply ay.alloc|apply ay.drewN|apply ay.drew|apply ay.sQ|apply ay.sS|apply ay.sU|apply ay.sV|apply ay.sW)|exact HI1.o)⟩,⟨by repeat (first|(with_reducible first|exact HK.o|apply gI.zK|apply Au|apply Ar|apply Aq)|exact HK.o)⟩,⟨by repeat (first|(with_reducible first|exact HB.o|apply kG|apply jH|apply cZ|refine eX ?_ (ay.ge HI1.o))|exact HB.o)⟩⟩
   ·intro aY H;replace H:=PR H;obtain ⟨rfl,rfl,rfl,rfl,rfl,rfl⟩:=H
    go_wp2
    go_ret
    exact ⟨ff,by repeat (first|(with_reducible first|exact HI1.o|apply ay.alloc|apply ay.drewN|apply ay.drew|apply ay.sQ|apply ay.sS|apply ay.sU|apply ay.sV|apply ay.sW)|exact HI1.o),by repeat (first|(with_reducible first|exact HB.o|apply kG|apply jH|apply cZ|refine eX ?_ (ay.ge HI1.o))|exact HB.o),by repeat (first|(with_reducible first|exact HK.o|apply gI.zK|apply Au|apply Ar|apply Aq)|exact HK.o)⟩
theorem Iw.calls (k:Nat)(A0:Option Addr)(c0:Nat)(l0:List aZ)(g:Nat)(uN:Int)(uh:ByteArray)(uO s1_3:Int)(uP:ByteArray)(r1:Bool)(r2:Int)(r3:ByteArray)(r4 r5:Int)(r6:ByteArray)(w0 w:World)(hI:ay w0 w g uN uh uO s1_3 uP)(hB:Below w0.heap.size w0 w)(hr0:∀ W_,gI w W_ g none→Kd.C iA W_ A0 l0.length l0)(hc0:l0.length≤c0)(H:Iw.f k l0 uN uh uO s1_3 uP=some (r1,r2,r3,r4,r5,r6)) :
  Calls Tryz.prog 91 #[.slice A0 l0.length c0,.func (.func 92) #[] #[.pointer (some ⟨g,0,none⟩)]] w fun e w'=>e=.returned (.bool r1)∧ay w0 w' g r2 r3 r4 r5 r6∧Below w0.heap.size w0 w'∧gI w w' g none:=by
 have bG:=am hr0;have jC:=am hc0;clear hr0 hc0;have HI1:=am hI;have HK:=am (gI.refl w g none);have HL:=am hB.size;clear hI;have HW0:=am hB.size;have HB:=am hB;clear hB;unfold Iw.f at H;replace H:=bo H;obtain ⟨⟨t8,t9,rG,sj,t12,CF⟩,A3,H⟩:=H;(try dsimp only at H);replace H:=PR H;obtain ⟨rfl,rfl,rfl,rfl,rfl,rfl⟩:=H
 go_in
 go_wp2_with (first|((go_at_call 122;refine (xA.calls k _ _ l0 g uN uh uO s1_3 uP t8 t9 rG sj t12 CF w0 _ ?aR ?bg ?jI jC.o A3.o).mono ?_;(case aR=>repeat (first|(with_reducible first|exact HI1.o|apply ay.alloc|apply ay.drewN|apply ay.drew|apply ay.sQ|apply ay.sS|apply ay.sU|apply ay.sV|apply ay.sW)|exact HI1.o));(case bg=>repeat (first|(with_reducible first|exact HB.o|apply kG|apply jH|apply cZ|refine eX ?_ (ay.ge HI1.o))|exact HB.o));(case jI=>exact Kd.apu bG.o (by repeat (first|(with_reducible first|exact HK.o|apply gI.zK|apply Au|apply Ar|apply Aq)|exact HK.o)));rintro e w4 ⟨rfl,hi,hb,hk⟩);replace HK:=am (gI.trans (by repeat (first|(with_reducible first|exact HK.o|apply gI.zK|apply Au|apply Ar|apply Aq)|exact HK.o)) hk (.inl rfl));replace HB:=am (hb);replace HI1:=am (hi);(try clear hb);(try clear hk);(try clear hi)))
 go_ret
 exact ⟨ff,by repeat (first|(with_reducible first|exact HI1.o|apply ay.alloc|apply ay.drewN|apply ay.drew|apply ay.sQ|apply ay.sS|apply ay.sU|apply ay.sV|apply ay.sW)|exact HI1.o),by repeat (first|(with_reducible first|exact HB.o|apply kG|apply jH|apply cZ|refine eX ?_ (ay.ge HI1.o))|exact HB.o),by repeat (first|(with_reducible first|exact HK.o|apply gI.zK|apply Au|apply Ar|apply Aq)|exact HK.o)⟩
def jd.T4:Bool × List (List Nat × List Nat):=(true,[([],[]),([0],[0]),([1],[1]),([2,2],[2]),([3],[3]),([4,3],[3,4]),([5,3,3],[3,5]),([6,3],[3,6]),([7,6,3],[3,7]),([8],[8]),([9,8],[8,9]),([10,8,8],[8,10]),([11],[11]),([12,11],[11,12]),([11],[11]),([14,11],[11,14]),([11],[11]),([16,11],[11,16]),([15,17,11],[11,15,17]),([18,11],[11,18]),([19,11],[11,19]),([13,20,11],[11,13,20]),([11,21,8],[8,11,21]),([8,22,3],[3,8,22]),([3,23],[3,23])])
def jd.B4:List Nat:=[0,1,3,7,15,31,63,127,255,511,1023,2047,4095,8191,4095,20479,4095,69631,249855,511999,1036287,2097151,4194303,8388607,16777215]
theorem jd.xQ:fD .any (opsOf Tryz.f46 4)=jd.T4:=by kernel_rfl
theorem jd.xg:jg jd.T4.2 jd.B4=true:=by kernel_rfl
theorem jd.calls (k:Nat)(ag:Int)(aj ak:ByteArray)(aM:Int)(dB:Option Addr)(dx:Nat)(az:List ByteArray)(dJ:Option Addr)(df:Nat)(ah:List aZ)(r:Int)(w:World)(lm:Kd.C Kd.string w dB az.length az)(kY:az.length≤dx)(lq:Kd.C iA w dJ ah.length ah)(kZ:ah.length≤df)(H:jd.f k ag aj ak aM az ah=some r) :
  Calls Tryz.prog 46 #[.agg #[.int .i64 ag,.string aj,.string ak,.int .i64 aM,.slice dB az.length dx,.slice dJ ah.length df]] w fun e w'=>e=.returned (.int .i64 r)∧Below w.heap.size w w':=by
 have xq:=Tryz.underlying45;have Dx:=Tryz.underlying95
 have hmf:∀ (fn:Fn) (first cap:Array Value) (w:World),(Instr.makeFunc fn first cap).run Tryz.prog w=.ok (.func fn first cap) w:=fun _ _ _ _=>rfl
 have oI:=am lm;have rR:=am kY;clear lm kY;have ni:=am lq;have qW:=am kZ;clear lq kZ;have HB:=am (Below.refl w.heap.size w);unfold jd.f at H;have H':=am H;clear H
 go_in
 go_wp2_with (first|((with_reducible refine aJ (N:=1) rfl ?_);refine bz 1 (cs:=#[.int .i64 ag,.string aj,.string ak,.int .i64 aM,.slice dB az.length dx,.slice dJ ah.length df]) (t:=45) HB ?_;clear HB;intro xn hg w2 bC abL hb HB;clear hb hg;have Ty:=dO bC))
 go_loopg [8] k (fun kq v8 w'=>∃ (aD:Int),v8=.int .i64 aD∧af (jd.l0 kq ah (ah.length:Int) aD ag aj ak aM az ah=some r)∧af (kq≤k)∧af (w'.heap[xn]? = some (.cells #[.int .i64 ag,.string aj,.string ak,.int .i64 aM,(.slice dB az.length dx),(.slice dJ ah.length df)] 45 (0,0)))∧af (Below w.heap.size w w'))
 case atStart=>exact ⟨(0),fg,H',⟨Nat.le_refl _⟩,⟨ks bC⟩,⟨bs HB⟩⟩
 case round =>
  clear H'
  try clear Ty
  try clear bC
  obtain ⟨aD,rfl,HA,aQ,bC,HB⟩:=hrel
  cases gk with
  | zero=>exact absurd HA.o (by simp [jd.l0])
  | succ k1 =>
   have H:=HA.o;clear HA;simp only [jd.l0] at H
   revert H;refine bK ?_ ?_
   ·intro dF H
    revert H;refine bv ?_
    intro ja H
    revert H;refine bv ?_
    intro gu H;have JE:=am H;clear H;obtain ⟨p42,q42,vv,e42,Fy,amC,amD,amE,amF⟩:=wi (uA ni.o aD)
    cases e42
    replace Fy:=cb HB Fy;replace amC:=cb HB amC;replace amD:=cb HB amD;replace amE:=cb HB amE;replace amF:=cb HB amF
    go_upto_region 4 with (first|((with_reducible refine aJ (N:=4) rfl ?_);refine bx 4 (cs:=#[.int .i64 0,.string (⟨#[]⟩:ByteArray),.int .i64 0,.int .i64 0,.string (⟨#[]⟩:ByteArray)]) (t:=95) ?_;intro dI hg w8 hbox hb;have Q5:=gw hg HB;have acP:=na hg bC;have Bt:=nc hg bC;replace bC:=bb bC hb;have dz:=am ((show ay w w8 dI 0 (⟨#[]⟩:ByteArray) 0 0 (⟨#[]⟩:ByteArray) from ⟨hbox,(gs hg (bs HB))⟩));replace HB:=bq HB hb;clear hb hbox hg;obtain ⟨Bl,awE⟩:=dz.o;have aGq:=BI Bl;have aGr:=BJ Bl;have aGs:=BM Bl;have aGt:=BN Bl;have aGu:=BO Bl;have aHV:=bu Bl 0;have aHW:=bu Bl 1;have aHX:=bu Bl 2;have aHY:=bu Bl 3;have aHZ:=bu Bl 4;clear Bl awE))
    (try simp only [Act.put,List.setIfInBounds_toArray,List.set_cons_zero,List.set_cons_succ])
    go_cut [37] (fun v37 wc=>∃ (kq:Nat) (abm:Bool),v37=.bool abm∧af (jd.j1 kq aD ah (ah.length:Int) aD abm ag aj ak aM az ah ((ai ah aD).f0) ((ai ah aD).f1) ((ai ah aD).f2) ((ai ah aD).f3) ((ai ah aD).f4)=some r)∧af (kq≤k1)∧af (wc.heap[xn]? = some (.cells #[.int .i64 ag,.string aj,.string ak,.int .i64 aM,(.slice dB az.length dx),(.slice (some vv) ah.length df)] 45 (0,0)))∧af (ay w wc dI ((ai ah aD).f0) ((ai ah aD).f1) ((ai ah aD).f2) ((ai ah aD).f3) ((ai ah aD).f4))∧af (Below w.heap.size w wc))
    case first =>
     have H:=JE.o;clear JE;replace H:=bo H;obtain ⟨t51,ul,H⟩:=H
     obtain rfl|rfl:=bt t51
     ·replace H:=dm H;replace H:=bo H;obtain ⟨t52,xU,H⟩:=H
      obtain rfl|rfl:=bt t52
      ·replace H:=dm H
       revert H;refine gT ?_ ?_
       ·intro c14 H;have ry:decide (0<aD)=true:=decide_eq_true c14;clear c14
        (first|rw [ry]|(simp only [fC,gK];rw [ry])|skip)
        obtain ⟨Ap,Oy⟩:∃ j_:Int,(wrap64 (aD - 1))=j_:=⟨_,rfl⟩
        replace H:(if 0≤(Ap) then (if (Ap)<(ah.length:Int) then (jd.j1 k1 aD ah (ah.length:Int) aD (decide (((ai ah aD).f0)≤((ai ah (Ap)).f0))) ag aj ak aM az ah ((ai ah aD).f0) ((ai ah aD).f1) ((ai ah aD).f2) ((ai ah aD).f3) ((ai ah aD).f4)) else none) else none)=some r:=by first|(rw [Oy] at H;exact H)|(simp only [Oy] at H ⊢;exact H)
        (try rw [Oy] at ul)
        (try rw [Oy] at xU)
        have aH0:(IntKind.i64.wrap (aD - 1))=Ap:=(fC _).trans Oy
        revert H;refine bv ?_
        intro yj H
        revert H;refine bv ?_
        intro qD H;have H':=am H;clear H
        try go_wp2
        have cK:=kz (((((w8.setCell ⟨dI,0,none⟩ (.int .i64 ((ai ah aD).f0))).setCell ⟨dI,1,none⟩ (.string ((ai ah aD).f1))).setCell ⟨dI,2,none⟩ (.int .i64 ((ai ah aD).f2))).setCell ⟨dI,3,none⟩ (.int .i64 ((ai ah aD).f3))).setCell ⟨dI,4,none⟩ (.string ((ai ah aD).f4))) bC;have cO:af (ay w (((((w8.setCell ⟨dI,0,none⟩ (.int .i64 ((ai ah aD).f0))).setCell ⟨dI,1,none⟩ (.string ((ai ah aD).f1))).setCell ⟨dI,2,none⟩ (.int .i64 ((ai ah aD).f2))).setCell ⟨dI,3,none⟩ (.int .i64 ((ai ah aD).f3))).setCell ⟨dI,4,none⟩ (.string ((ai ah aD).f4))) dI ((ai ah aD).f0) ((ai ah aD).f1) ((ai ah aD).f2) ((ai ah aD).f3) ((ai ah aD).f4)):=⟨by repeat (first|(with_reducible first|exact dz.o|apply ay.alloc|apply ay.drewN|apply ay.drew|apply ay.sQ|apply ay.sS|apply ay.sU|apply ay.sV|apply ay.sW|refine ay.far ?_ Bt.o _)|exact dz.o)⟩;have dw:af (Below w.heap.size w (((((w8.setCell ⟨dI,0,none⟩ (.int .i64 ((ai ah aD).f0))).setCell ⟨dI,1,none⟩ (.string ((ai ah aD).f1))).setCell ⟨dI,2,none⟩ (.int .i64 ((ai ah aD).f2))).setCell ⟨dI,3,none⟩ (.int .i64 ((ai ah aD).f3))).setCell ⟨dI,4,none⟩ (.string ((ai ah aD).f4)))):=⟨by repeat (first|(with_reducible first|exact HB.o|apply kG|apply jH|apply cZ|refine eX ?_ (ay.ge dz.o)|refine eX ?_ yS.o)|exact HB.o)⟩;(try clear bC);(try clear dz);(try clear HB)
        generalize (((((w8.setCell ⟨dI,0,none⟩ (.int .i64 ((ai ah aD).f0))).setCell ⟨dI,1,none⟩ (.string ((ai ah aD).f1))).setCell ⟨dI,2,none⟩ (.int .i64 ((ai ah aD).f2))).setCell ⟨dI,3,none⟩ (.int .i64 ((ai ah aD).f3))).setCell ⟨dI,4,none⟩ (.string ((ai ah aD).f4)))=xR at cK cO dw ⊢
        have bC:=cK;have dz:=cO;have HB:=dw;clear cK cO dw;replace bC:=am (bD bC.o);replace dz:=am (ay.drew dz.o);replace HB:=am (cZ HB.o);obtain ⟨p40,q40,asQ,e40,aaf,aag,aah,aai,aaj⟩:=wi (uA ni.o (Ap));have aeP:=aaj;have aeO:=aai;have aeN:=aah;have aeM:=aag;have aeL:=aaf;obtain rfl:vv=asQ:=(by injection e40);replace aaf:=cb HB aaf;replace aag:=cb HB aag;replace aah:=cb HB aah;replace aai:=cb HB aai;replace aaj:=cb HB aaj;refine PW (n:=25) (S:=fun w'=>aaK w' xn (.int .i64 ag) (.string aj) (.string ak) (.int .i64 aM) (.slice dB az.length dx) (.slice (some vv) ah.length df) (azx w' dI (.int .i64 ((ai ah aD).f0)) (.string ((ai ah aD).f1)) (.int .i64 ((ai ah aD).f2)) (.int .i64 ((ai ah aD).f3)) (.string ((ai ah aD).f4)) (qe5 w' (vv.add (((Ap)).toNat * 5)) (.int .i64 ((ai ah (Ap)).f0)) (.string ((ai ah (Ap)).f1)) (.int .i64 ((ai ah (Ap)).f2)) (.int .i64 ((ai ah (Ap)).f3)) (.string ((ai ah (Ap)).f4))))) (ds:=[]) _ (by kernel_rfl) rfl rfl (FX bC ⟨(by obtain ⟨hb_,_⟩:=dz.o;exact (BI hb_).trans rfl),(by obtain ⟨hb_,_⟩:=dz.o;exact (BJ hb_).trans rfl),(by obtain ⟨hb_,_⟩:=dz.o;exact (BM hb_).trans rfl),(by obtain ⟨hb_,_⟩:=dz.o;exact (BN hb_).trans rfl),(by obtain ⟨hb_,_⟩:=dz.o;exact (BO hb_).trans rfl),((cb HB aeL).trans rfl),((cb HB aeM).trans rfl),((cb HB aeN).trans rfl),((cb HB aeO).trans rfl),((cb HB aeP).trans rfl)⟩) (fun hHeld=>?_);refine fu jd.xQ jd.xg (fun HT_ HW_=>?_)
        generalize xR.drew=pz at bC dz HB aaf aag aah aai aaj hHeld ⊢
        refine bQ 0 ?_;refine ta 1 ?_;refine oA 2 15 HT_ (fun K hK=>?_);refine gA Tryz.func89 #[.int .i64 ag] ?_;(with_reducible refine (DK.calls ag true _ ul.o).mono ?_);rintro e w' ⟨rfl,⟨nd,rfl⟩⟩;refine ⟨_,rfl,?_⟩;refine hK.out _ _ (FX bC ⟨(by obtain ⟨hb_,_⟩:=dz.o;exact (BI hb_).trans rfl),(by obtain ⟨hb_,_⟩:=dz.o;exact (BJ hb_).trans rfl),(by obtain ⟨hb_,_⟩:=dz.o;exact (BM hb_).trans rfl),(by obtain ⟨hb_,_⟩:=dz.o;exact (BN hb_).trans rfl),(by obtain ⟨hb_,_⟩:=dz.o;exact (BO hb_).trans rfl),((cb HB aeL).trans rfl),((cb HB aeM).trans rfl),((cb HB aeN).trans rfl),((cb HB aeO).trans rfl),((cb HB aeP).trans rfl)⟩) (fun hHeld=>?_);clear hK K;refine nA 15 ?_;refine jU 3 ?_;refine ta 5 ?_;refine oA 6 19 HT_ (fun K hK=>?_);refine gA Tryz.func41 #[.int .i64 ((ai ah aD).f0),.int .i64 1,.int .i64 999] ?_;(with_reducible refine (l9.calls ((ai ah aD).f0) 1 999 true _ xU.o).mono ?_);rintro e w' ⟨rfl,⟨nd,rfl⟩⟩;refine ⟨_,rfl,?_⟩;refine hK.out _ _ (FX bC ⟨(by obtain ⟨hb_,_⟩:=dz.o;exact (BI hb_).trans rfl),(by obtain ⟨hb_,_⟩:=dz.o;exact (BJ hb_).trans rfl),(by obtain ⟨hb_,_⟩:=dz.o;exact (BM hb_).trans rfl),(by obtain ⟨hb_,_⟩:=dz.o;exact (BN hb_).trans rfl),(by obtain ⟨hb_,_⟩:=dz.o;exact (BO hb_).trans rfl),((cb HB aeL).trans rfl),((cb HB aeM).trans rfl),((cb HB aeN).trans rfl),((cb HB aeO).trans rfl),((cb HB aeP).trans rfl)⟩) (fun hHeld=>?_);clear hK K;refine nA 19 ?_;refine jV 7 ?_;refine jU 11 ?_;refine bQ 14 ?_;refine jU 16 ?_;refine ta 13 ?_;refine ta 15 ?_;refine jU 18 ?_;refine ta 20 ?_;refine jV 21 ?_;refine ek (fo HT_.o (by kernel_rfl)) ?_
        try go_wp2
        go_meet
        case rel=>exact ⟨_,(decide (((ai ah aD).f0)≤((ai ah (Ap)).f0))),(by first|rfl|(simp;done)|(simp only [← Oy] <;> (first|rfl|simp))|(simp [*];done)),H',⟨by have:=aQ.o;first|omega|exact Nat.le_refl _⟩,⟨ks bC⟩,⟨by repeat (first|(with_reducible first|exact dz.o|apply ay.alloc|apply ay.drewN|apply ay.drew|apply ay.sQ|apply ay.sS|apply ay.sU|apply ay.sV|apply ay.sW|refine ay.far ?_ Bt.o _)|exact dz.o)⟩,⟨by repeat (first|(with_reducible first|exact HB.o|apply kG|apply jH|apply cZ|refine eX ?_ (ay.ge dz.o)|refine eX ?_ yS.o)|exact HB.o)⟩⟩
       ·intro c14 H;have ry:decide (0<aD)=false:=decide_eq_false c14;clear c14
        (first|rw [ry]|(simp only [fC,gK];rw [ry])|skip)
        have H':=am H;clear H
        try go_wp2
        have cK:=kz (((((w8.setCell ⟨dI,0,none⟩ (.int .i64 ((ai ah aD).f0))).setCell ⟨dI,1,none⟩ (.string ((ai ah aD).f1))).setCell ⟨dI,2,none⟩ (.int .i64 ((ai ah aD).f2))).setCell ⟨dI,3,none⟩ (.int .i64 ((ai ah aD).f3))).setCell ⟨dI,4,none⟩ (.string ((ai ah aD).f4))) bC;have cO:af (ay w (((((w8.setCell ⟨dI,0,none⟩ (.int .i64 ((ai ah aD).f0))).setCell ⟨dI,1,none⟩ (.string ((ai ah aD).f1))).setCell ⟨dI,2,none⟩ (.int .i64 ((ai ah aD).f2))).setCell ⟨dI,3,none⟩ (.int .i64 ((ai ah aD).f3))).setCell ⟨dI,4,none⟩ (.string ((ai ah aD).f4))) dI ((ai ah aD).f0) ((ai ah aD).f1) ((ai ah aD).f2) ((ai ah aD).f3) ((ai ah aD).f4)):=⟨by repeat (first|(with_reducible first|exact dz.o|apply ay.alloc|apply ay.drewN|apply ay.drew|apply ay.sQ|apply ay.sS|apply ay.sU|apply ay.sV|apply ay.sW|refine ay.far ?_ Bt.o _)|exact dz.o)⟩;have dw:af (Below w.heap.size w (((((w8.setCell ⟨dI,0,none⟩ (.int .i64 ((ai ah aD).f0))).setCell ⟨dI,1,none⟩ (.string ((ai ah aD).f1))).setCell ⟨dI,2,none⟩ (.int .i64 ((ai ah aD).f2))).setCell ⟨dI,3,none⟩ (.int .i64 ((ai ah aD).f3))).setCell ⟨dI,4,none⟩ (.string ((ai ah aD).f4)))):=⟨by repeat (first|(with_reducible first|exact HB.o|apply kG|apply jH|apply cZ|refine eX ?_ (ay.ge dz.o)|refine eX ?_ yS.o)|exact HB.o)⟩;(try clear bC);(try clear dz);(try clear HB)
        generalize (((((w8.setCell ⟨dI,0,none⟩ (.int .i64 ((ai ah aD).f0))).setCell ⟨dI,1,none⟩ (.string ((ai ah aD).f1))).setCell ⟨dI,2,none⟩ (.int .i64 ((ai ah aD).f2))).setCell ⟨dI,3,none⟩ (.int .i64 ((ai ah aD).f3))).setCell ⟨dI,4,none⟩ (.string ((ai ah aD).f4)))=uj at cK cO dw ⊢
        have bC:=cK;have dz:=cO;have HB:=dw;clear cK cO dw;replace bC:=am (bD bC.o);replace dz:=am (ay.drew dz.o);replace HB:=am (cZ HB.o);refine PW (n:=25) (S:=fun w'=>aaK w' xn (.int .i64 ag) (.string aj) (.string ak) (.int .i64 aM) (.slice dB az.length dx) (.slice (some vv) ah.length df) (qk5 w' dI (.int .i64 ((ai ah aD).f0)) (.string ((ai ah aD).f1)) (.int .i64 ((ai ah aD).f2)) (.int .i64 ((ai ah aD).f3)) (.string ((ai ah aD).f4)))) (ds:=[]) _ (by kernel_rfl) rfl rfl (FX bC ⟨(by obtain ⟨hb_,_⟩:=dz.o;exact (BI hb_).trans rfl),(by obtain ⟨hb_,_⟩:=dz.o;exact (BJ hb_).trans rfl),(by obtain ⟨hb_,_⟩:=dz.o;exact (BM hb_).trans rfl),(by obtain ⟨hb_,_⟩:=dz.o;exact (BN hb_).trans rfl),(by obtain ⟨hb_,_⟩:=dz.o;exact (BO hb_).trans rfl)⟩) (fun hHeld=>?_);refine fu jd.xQ jd.xg (fun HT_ HW_=>?_)
        generalize uj.drew=CJ at bC dz HB hHeld ⊢
        refine bQ 0 ?_;refine ta 1 ?_;refine oA 2 15 HT_ (fun K hK=>?_);refine gA Tryz.func89 #[.int .i64 ag] ?_;(with_reducible refine (DK.calls ag true _ ul.o).mono ?_);rintro e w' ⟨rfl,⟨nd,rfl⟩⟩;refine ⟨_,rfl,?_⟩;refine hK.out _ _ (FX bC ⟨(by obtain ⟨hb_,_⟩:=dz.o;exact (BI hb_).trans rfl),(by obtain ⟨hb_,_⟩:=dz.o;exact (BJ hb_).trans rfl),(by obtain ⟨hb_,_⟩:=dz.o;exact (BM hb_).trans rfl),(by obtain ⟨hb_,_⟩:=dz.o;exact (BN hb_).trans rfl),(by obtain ⟨hb_,_⟩:=dz.o;exact (BO hb_).trans rfl)⟩) (fun hHeld=>?_);clear hK K;refine nA 15 ?_;refine jU 3 ?_;refine ta 5 ?_;refine oA 6 19 HT_ (fun K hK=>?_);refine gA Tryz.func41 #[.int .i64 ((ai ah aD).f0),.int .i64 1,.int .i64 999] ?_;(with_reducible refine (l9.calls ((ai ah aD).f0) 1 999 true _ xU.o).mono ?_);rintro e w' ⟨rfl,⟨nd,rfl⟩⟩;refine ⟨_,rfl,?_⟩;refine hK.out _ _ (FX bC ⟨(by obtain ⟨hb_,_⟩:=dz.o;exact (BI hb_).trans rfl),(by obtain ⟨hb_,_⟩:=dz.o;exact (BJ hb_).trans rfl),(by obtain ⟨hb_,_⟩:=dz.o;exact (BM hb_).trans rfl),(by obtain ⟨hb_,_⟩:=dz.o;exact (BN hb_).trans rfl),(by obtain ⟨hb_,_⟩:=dz.o;exact (BO hb_).trans rfl)⟩) (fun hHeld=>?_);clear hK K;refine nA 19 ?_;refine mF 7 ?_;refine mF 15 ?_;refine jU 23 ?_;refine ek (fo HT_.o (by kernel_rfl)) ?_
        try go_wp2
        go_meet
        case rel=>exact ⟨_,(false),fg,H',⟨by have:=aQ.o;first|omega|exact Nat.le_refl _⟩,⟨ks bC⟩,⟨by repeat (first|(with_reducible first|exact dz.o|apply ay.alloc|apply ay.drewN|apply ay.drew|apply ay.sQ|apply ay.sS|apply ay.sU|apply ay.sV|apply ay.sW|refine ay.far ?_ Bt.o _)|exact dz.o)⟩,⟨by repeat (first|(with_reducible first|exact HB.o|apply kG|apply jH|apply cZ|refine eX ?_ (ay.ge dz.o)|refine eX ?_ yS.o)|exact HB.o)⟩⟩
      ·replace H:=di H;have H':=am H;clear H
       try go_wp2
       have cK:=kz (((((w8.setCell ⟨dI,0,none⟩ (.int .i64 ((ai ah aD).f0))).setCell ⟨dI,1,none⟩ (.string ((ai ah aD).f1))).setCell ⟨dI,2,none⟩ (.int .i64 ((ai ah aD).f2))).setCell ⟨dI,3,none⟩ (.int .i64 ((ai ah aD).f3))).setCell ⟨dI,4,none⟩ (.string ((ai ah aD).f4))) bC;have cO:af (ay w (((((w8.setCell ⟨dI,0,none⟩ (.int .i64 ((ai ah aD).f0))).setCell ⟨dI,1,none⟩ (.string ((ai ah aD).f1))).setCell ⟨dI,2,none⟩ (.int .i64 ((ai ah aD).f2))).setCell ⟨dI,3,none⟩ (.int .i64 ((ai ah aD).f3))).setCell ⟨dI,4,none⟩ (.string ((ai ah aD).f4))) dI ((ai ah aD).f0) ((ai ah aD).f1) ((ai ah aD).f2) ((ai ah aD).f3) ((ai ah aD).f4)):=⟨by repeat (first|(with_reducible first|exact dz.o|apply ay.alloc|apply ay.drewN|apply ay.drew|apply ay.sQ|apply ay.sS|apply ay.sU|apply ay.sV|apply ay.sW|refine ay.far ?_ Bt.o _)|exact dz.o)⟩;have dw:af (Below w.heap.size w (((((w8.setCell ⟨dI,0,none⟩ (.int .i64 ((ai ah aD).f0))).setCell ⟨dI,1,none⟩ (.string ((ai ah aD).f1))).setCell ⟨dI,2,none⟩ (.int .i64 ((ai ah aD).f2))).setCell ⟨dI,3,none⟩ (.int .i64 ((ai ah aD).f3))).setCell ⟨dI,4,none⟩ (.string ((ai ah aD).f4)))):=⟨by repeat (first|(with_reducible first|exact HB.o|apply kG|apply jH|apply cZ|refine eX ?_ (ay.ge dz.o)|refine eX ?_ yS.o)|exact HB.o)⟩;(try clear bC);(try clear dz);(try clear HB)
       generalize (((((w8.setCell ⟨dI,0,none⟩ (.int .i64 ((ai ah aD).f0))).setCell ⟨dI,1,none⟩ (.string ((ai ah aD).f1))).setCell ⟨dI,2,none⟩ (.int .i64 ((ai ah aD).f2))).setCell ⟨dI,3,none⟩ (.int .i64 ((ai ah aD).f3))).setCell ⟨dI,4,none⟩ (.string ((ai ah aD).f4)))=CK at cK cO dw ⊢
       have bC:=cK;have dz:=cO;have HB:=dw;clear cK cO dw;replace bC:=am (bD bC.o);replace dz:=am (ay.drew dz.o);replace HB:=am (cZ HB.o);refine PW (n:=25) (S:=fun w'=>aaK w' xn (.int .i64 ag) (.string aj) (.string ak) (.int .i64 aM) (.slice dB az.length dx) (.slice (some vv) ah.length df) (qk5 w' dI (.int .i64 ((ai ah aD).f0)) (.string ((ai ah aD).f1)) (.int .i64 ((ai ah aD).f2)) (.int .i64 ((ai ah aD).f3)) (.string ((ai ah aD).f4)))) (ds:=[]) _ (by kernel_rfl) rfl rfl (FX bC ⟨(by obtain ⟨hb_,_⟩:=dz.o;exact (BI hb_).trans rfl),(by obtain ⟨hb_,_⟩:=dz.o;exact (BJ hb_).trans rfl),(by obtain ⟨hb_,_⟩:=dz.o;exact (BM hb_).trans rfl),(by obtain ⟨hb_,_⟩:=dz.o;exact (BN hb_).trans rfl),(by obtain ⟨hb_,_⟩:=dz.o;exact (BO hb_).trans rfl)⟩) (fun hHeld=>?_);refine fu jd.xQ jd.xg (fun HT_ HW_=>?_)
       generalize CK.drew=tH at bC dz HB hHeld ⊢
       refine bQ 0 ?_;refine ta 1 ?_;refine oA 2 15 HT_ (fun K hK=>?_);refine gA Tryz.func89 #[.int .i64 ag] ?_;(with_reducible refine (DK.calls ag true _ ul.o).mono ?_);rintro e w' ⟨rfl,⟨nd,rfl⟩⟩;refine ⟨_,rfl,?_⟩;refine hK.out _ _ (FX bC ⟨(by obtain ⟨hb_,_⟩:=dz.o;exact (BI hb_).trans rfl),(by obtain ⟨hb_,_⟩:=dz.o;exact (BJ hb_).trans rfl),(by obtain ⟨hb_,_⟩:=dz.o;exact (BM hb_).trans rfl),(by obtain ⟨hb_,_⟩:=dz.o;exact (BN hb_).trans rfl),(by obtain ⟨hb_,_⟩:=dz.o;exact (BO hb_).trans rfl)⟩) (fun hHeld=>?_);clear hK K;refine nA 15 ?_;refine jU 3 ?_;refine ta 5 ?_;refine oA 6 19 HT_ (fun K hK=>?_);refine gA Tryz.func41 #[.int .i64 ((ai ah aD).f0),.int .i64 1,.int .i64 999] ?_;(with_reducible refine (l9.calls ((ai ah aD).f0) 1 999 false _ xU.o).mono ?_);rintro e w' ⟨rfl,⟨nd,rfl⟩⟩;refine ⟨_,rfl,?_⟩;refine hK.out _ _ (FX bC ⟨(by obtain ⟨hb_,_⟩:=dz.o;exact (BI hb_).trans rfl),(by obtain ⟨hb_,_⟩:=dz.o;exact (BJ hb_).trans rfl),(by obtain ⟨hb_,_⟩:=dz.o;exact (BM hb_).trans rfl),(by obtain ⟨hb_,_⟩:=dz.o;exact (BN hb_).trans rfl),(by obtain ⟨hb_,_⟩:=dz.o;exact (BO hb_).trans rfl)⟩) (fun hHeld=>?_);clear hK K;refine nA 19 ?_;refine mF 7 ?_;refine mF 15 ?_;refine jU 23 ?_;refine ek (fo HT_.o (by kernel_rfl)) ?_
       try go_wp2
       go_meet
       case rel=>exact ⟨_,(true),fg,H',⟨by have:=aQ.o;first|omega|exact Nat.le_refl _⟩,⟨ks bC⟩,⟨by repeat (first|(with_reducible first|exact dz.o|apply ay.alloc|apply ay.drewN|apply ay.drew|apply ay.sQ|apply ay.sS|apply ay.sU|apply ay.sV|apply ay.sW|refine ay.far ?_ Bt.o _)|exact dz.o)⟩,⟨by repeat (first|(with_reducible first|exact HB.o|apply kG|apply jH|apply cZ|refine eX ?_ (ay.ge dz.o)|refine eX ?_ yS.o)|exact HB.o)⟩⟩
     ·replace H:=di H;have H':=am H;clear H
      try go_wp2
      have cK:=kz (((((w8.setCell ⟨dI,0,none⟩ (.int .i64 ((ai ah aD).f0))).setCell ⟨dI,1,none⟩ (.string ((ai ah aD).f1))).setCell ⟨dI,2,none⟩ (.int .i64 ((ai ah aD).f2))).setCell ⟨dI,3,none⟩ (.int .i64 ((ai ah aD).f3))).setCell ⟨dI,4,none⟩ (.string ((ai ah aD).f4))) bC;have cO:af (ay w (((((w8.setCell ⟨dI,0,none⟩ (.int .i64 ((ai ah aD).f0))).setCell ⟨dI,1,none⟩ (.string ((ai ah aD).f1))).setCell ⟨dI,2,none⟩ (.int .i64 ((ai ah aD).f2))).setCell ⟨dI,3,none⟩ (.int .i64 ((ai ah aD).f3))).setCell ⟨dI,4,none⟩ (.string ((ai ah aD).f4))) dI ((ai ah aD).f0) ((ai ah aD).f1) ((ai ah aD).f2) ((ai ah aD).f3) ((ai ah aD).f4)):=⟨by repeat (first|(with_reducible first|exact dz.o|apply ay.alloc|apply ay.drewN|apply ay.drew|apply ay.sQ|apply ay.sS|apply ay.sU|apply ay.sV|apply ay.sW|refine ay.far ?_ Bt.o _)|exact dz.o)⟩;have dw:af (Below w.heap.size w (((((w8.setCell ⟨dI,0,none⟩ (.int .i64 ((ai ah aD).f0))).setCell ⟨dI,1,none⟩ (.string ((ai ah aD).f1))).setCell ⟨dI,2,none⟩ (.int .i64 ((ai ah aD).f2))).setCell ⟨dI,3,none⟩ (.int .i64 ((ai ah aD).f3))).setCell ⟨dI,4,none⟩ (.string ((ai ah aD).f4)))):=⟨by repeat (first|(with_reducible first|exact HB.o|apply kG|apply jH|apply cZ|refine eX ?_ (ay.ge dz.o)|refine eX ?_ yS.o)|exact HB.o)⟩;(try clear bC);(try clear dz);(try clear HB)
      generalize (((((w8.setCell ⟨dI,0,none⟩ (.int .i64 ((ai ah aD).f0))).setCell ⟨dI,1,none⟩ (.string ((ai ah aD).f1))).setCell ⟨dI,2,none⟩ (.int .i64 ((ai ah aD).f2))).setCell ⟨dI,3,none⟩ (.int .i64 ((ai ah aD).f3))).setCell ⟨dI,4,none⟩ (.string ((ai ah aD).f4)))=CL at cK cO dw ⊢
      have bC:=cK;have dz:=cO;have HB:=dw;clear cK cO dw;replace bC:=am (bD bC.o);replace dz:=am (ay.drew dz.o);replace HB:=am (cZ HB.o);refine gD 25 (hb6 bC) (fun hHeld=>?_);refine fu jd.xQ jd.xg (fun HT_ HW_=>?_)
      generalize CL.drew=Je at bC dz HB hHeld ⊢
      refine bQ 0 ?_;refine ta 1 ?_;refine oA 2 15 HT_ (fun K hK=>?_);refine gA Tryz.func89 #[.int .i64 ag] ?_;(with_reducible refine (DK.calls ag false _ ul.o).mono ?_);rintro e w' ⟨rfl,⟨nd,rfl⟩⟩;refine ⟨_,rfl,?_⟩;refine hK.out _ _ (hb6 bC).o (fun hHeld=>?_);clear hK K;refine nA 15 ?_;refine mF 3 ?_;refine mF 11 ?_;refine jV 19 ?_;refine jU 23 ?_;refine ek (fo HT_.o (by kernel_rfl)) ?_
      try go_wp2
      go_meet
      case rel=>exact ⟨_,(false),fg,H',⟨by have:=aQ.o;first|omega|exact Nat.le_refl _⟩,⟨ks bC⟩,⟨by repeat (first|(with_reducible first|exact dz.o|apply ay.alloc|apply ay.drewN|apply ay.drew|apply ay.sQ|apply ay.sS|apply ay.sU|apply ay.sV|apply ay.sW|refine ay.far ?_ Bt.o _)|exact dz.o)⟩,⟨by repeat (first|(with_reducible first|exact HB.o|apply kG|apply jH|apply cZ|refine eX ?_ (ay.ge dz.o)|refine eX ?_ yS.o)|exact HB.o)⟩⟩
    case rest =>
     clear JE
     obtain ⟨kq,abm,rfl,HA,Ey,bC,dz,HB⟩:=hcut
     cases kq with
     | zero=>exact absurd HA.o (by simp [jd.j1])
     | succ DU =>
      have H:=HA.o;clear HA;simp only [jd.j1] at H
      obtain rfl|rfl:=bt abm
      ·replace H:=dm H;obtain rfl:=si H
       go_wp2
       go_ret
       exact ⟨ff,by repeat (first|(with_reducible first|exact HB.o|apply kG|apply jH|apply cZ|refine eX ?_ (ay.ge dz.o)|refine eX ?_ yS.o)|exact HB.o)⟩
      ·replace H:=di H;replace H:=bo H;obtain ⟨t48,A27,H⟩:=H;have UF:=acP.o;have UJ:=Bt.o;have KR:=dO bC
       try go_wp2_with (fail)
       go_at_call 90;refine (Ll.calls ag t48 _ A27.o).mono ?_;rintro e w' ⟨rfl,⟨nd,rfl⟩⟩
       obtain rfl|rfl:=bt t48
       ·replace H:=dm H
        revert H;refine ku ?_
        intro c31 H;have ajH:=eq_true c31;have atL:decide (0≤aD)=true:=decide_eq_true c31;clear c31
        revert H;refine ku ?_
        intro c32 H;have Sl:=eq_true c32;have Zc:decide (aD≤(ah.length:Int))=true:=decide_eq_true c32;clear c32;obtain ⟨y44,afi⟩:∃ y_:List aZ,y_=(ah.take (aD:Int).toNat):=⟨_,rfl⟩
        replace H:((Iw.f DU y44 ((ai ah aD).f0) ((ai ah aD).f1) ((ai ah aD).f2) ((ai ah aD).f3) ((ai ah aD).f4)).bind fun ade=>(if ade.1=true then (some aD) else (jd.l0 DU ah (ah.length:Int) (wrap64 (aD+1)) ag aj ak aM az ah)))=some r:=ye afi H
        have aiC:=am afi;clear afi;replace H:=bo H;obtain ⟨⟨t49,t53,t54,t55,t56,t57⟩,QO,H⟩:=H;(try dsimp only at H);have aez:=acP.o;have aeF:=Bt.o;have ZN:=dO bC;have q36:(aD:Int)≤((ah.length:Int):Int):=oa;obtain ⟨aLJ,ak0,_,axx,_⟩:=info_parts aat;have amq:ah.length≤df:=qW.o;have aks:Kd.C iA _ (some vv) ah.length ah:=ni.o;have avZ:=auD (P:=Tryz.prog) 43 95 .i64 Tryz.underlying43 ak0 (some vv) ah.length df aD (oa) q36 amq;have aeI:=Kd.apw (m:=(aD:Int).toNat) aks (by omega);have aff:y44.length=(aD:Int).toNat:=(by rw [aiC.o,List.length_take];omega)
        rw [← aiC.o] at aeI
        rw [← aff] at avZ
        have aq1:=am aeI;have ap8:=am (show y44.length≤df from by omega);clear aeI aks amq ak0 axx;have aEa:=am aff;clear aff;replace q36:=eq_true q36
        try go_wp2_with (fail)
        go_at_call 91;refine (Iw.calls DU _ _ y44 dI ((ai ah aD).f0) ((ai ah aD).f1) ((ai ah aD).f2) ((ai ah aD).f3) ((ai ah aD).f4) t49 t53 t54 t55 t56 t57 w _ ?aR ?bg ?jI ap8.o QO.o).mono ?_;(case aR=>repeat (first|(with_reducible first|exact dz.o|apply ay.alloc|apply ay.drewN|apply ay.drew|apply ay.sQ|apply ay.sS|apply ay.sU|apply ay.sV|apply ay.sW|refine ay.far ?_ Bt.o _)|exact dz.o));(case bg=>repeat (first|(with_reducible first|exact HB.o|apply kG|apply jH|apply cZ|refine eX ?_ (ay.ge dz.o)|refine eX ?_ yS.o)|exact HB.o));(case jI=>exact Kd.aps ayc aq1.o (by repeat (first|(with_reducible first|exact HB.o|apply kG|apply jH|apply cZ|refine eX ?_ (ay.ge dz.o)|refine eX ?_ yS.o)|exact HB.o)) (ay.ge dz.o));rintro e Qd ⟨rfl,hi,hb,hk⟩;replace bC:=am (gI.blk hk (g':=xn) (o:=.cells #[.int .i64 ag,.string aj,.string ak,.int .i64 aM,.slice dB az.length dx,.slice (some vv) ah.length df] 45 (0,0)) (ks bC) acP.o (by simp));replace HB:=am (hb);replace dz:=am (hi);(try clear hb);(try clear hk);(try clear hi)
        obtain rfl|rfl:=bt t49
        ·replace H:=dm H;obtain rfl:=si H
         go_wp2
         go_ret
         exact ⟨ff,by repeat (first|(with_reducible first|exact HB.o|apply kG|apply jH|apply cZ|refine eX ?_ (ay.ge dz.o)|refine eX ?_ yS.o)|exact HB.o)⟩
        ·replace H:=di H;have H':=am H;clear H
         go_wp2
         go_roundg DU
         case measure=>have:=aQ.o;have:=Ey.o;omega
         case rel=>exact ⟨(wrap64 (aD+1)),fg,H',⟨by have:=aQ.o;have:=Ey.o;omega⟩,⟨ks bC⟩,⟨by repeat (first|(with_reducible first|exact HB.o|apply kG|apply jH|apply cZ|refine eX ?_ (ay.ge dz.o)|refine eX ?_ yS.o)|exact HB.o)⟩⟩
       ·replace H:=di H;have H':=am H;clear H
        go_wp2
        go_roundg DU
        case measure=>have:=aQ.o;have:=Ey.o;omega
        case rel=>exact ⟨(wrap64 (aD+1)),fg,H',⟨by have:=aQ.o;have:=Ey.o;omega⟩,⟨ks bC⟩,⟨by repeat (first|(with_reducible first|exact HB.o|apply kG|apply jH|apply cZ|refine eX ?_ (ay.ge dz.o)|refine eX ?_ yS.o)|exact HB.o)⟩⟩
   ·intro dF H;obtain rfl:=si H
    go_wp2
    go_ret
    exact ⟨ff,bs HB⟩
def kD.T4:Bool × List (List Nat × List Nat):=(true,[([],[]),([0],[0]),([],[]),([1,2],[1,2]),([3],[3]),([4],[4]),([5,3],[5]),([6],[6]),([7,6],[6,7]),([6],[6]),([8,9,6,6],[6,8,9]),([6],[6]),([10,11,10,6],[6,10,11]),([6,12],[6,12]),([13,12],[13]),([14],[14]),([15,14,14],[14,15]),([16,14],[14,16]),([14,17],[14,17]),([18,16,0,1,2,3,4,5,6,7,8,9,10,11,12,13,14,15,16,17,18],[18])])
def kD.B4:List Nat:=[0,1,0,7,15,31,63,127,255,127,1023,127,4095,8191,16383,32767,65535,131071,262143,524287]
theorem kD.xQ:fD .any (opsOf Tryz.f23 4)=kD.T4:=by kernel_rfl
theorem kD.xg:jg kD.T4.2 kD.B4=true:=by kernel_rfl
theorem kD.calls (k:Nat)(ag:Int)(aj ak:ByteArray)(aM:Int)(dB:Option Addr)(dx:Nat)(az:List ByteArray)(dJ:Option Addr)(df:Nat)(ah:List aZ)(r:Bool)(w:World)(lm:Kd.C Kd.string w dB az.length az)(kY:az.length≤dx)(lq:Kd.C iA w dJ ah.length ah)(kZ:ah.length≤df)(hTC:zS w)(hTF:uz w)(hTP:vW w)(H:kD.f k ag aj ak aM az ah=some r) :
  Calls Tryz.prog 23 #[.agg #[.int .i64 ag,.string aj,.string ak,.int .i64 aM,.slice dB az.length dx,.slice dJ ah.length df]] w fun e w'=>e=.returned (.bool r)∧Below w.heap.size w w':=by
 have HTC:=am hTC;clear hTC;have HTF:=am hTF;clear hTF;have HTP:=am hTP;clear hTP
 have xq:=Tryz.underlying45
 have aGD:∀ (v0 v1 v2:Value) (W:World),(Instr.field 78 (.agg #[v0,v1,v2]) 2).run Tryz.prog W=.ok v2 W:=fun _ _ _ _=>by kernel_rfl
 have oI:=am lm;have rR:=am kY;clear lm kY;have ni:=am lq;have qW:=am kZ;clear lq kZ;have HB:=am (Below.refl w.heap.size w);unfold kD.f at H;have lY:=am H;clear H
 go_in
 go_upto_region 1 with (first|((with_reducible refine aJ (N:=1) rfl ?_);(try (refine jc (by rfl) ?_;dsimp only));refine bz 1 (cs:=#[.int .i64 ag,.string aj,.string ak,.int .i64 aM,.slice dB az.length dx,.slice dJ ah.length df]) (t:=45) HB ?_;clear HB;intro adY hg w3 jh aDJ hb HB;clear hb hg))
 (try simp only [Act.put,List.setIfInBounds_toArray,List.set_cons_zero,List.set_cons_succ])
 go_cut [19] (fun v19 wc=>∃ (kq:Nat) (abf:Bool),v19=.bool abf∧af (kD.j0 kq abf ag aj ak aM az ah=some r)∧af (kq≤k)∧af (wc.heap[adY]? = some (.cells #[.int .i64 ag,.string aj,.string ak,.int .i64 aM,(.slice dB az.length dx),(.slice dJ ah.length df)] 45 (0,0)))∧af (Below w.heap.size w wc))
 case first =>
  have H:=lY.o;clear lY;replace H:=bo H;obtain ⟨t61,A4,H⟩:=H;have BQ:=dO jh
  try go_wp2_with (fail)
  go_at_call 41;refine (l9.calls ag 1 7 t61 _ A4.o).mono ?_;rintro e w' ⟨rfl,⟨nd,rfl⟩⟩
  obtain rfl|rfl:=bt t61
  ·replace H:=dm H
   revert H;refine gT ?_ ?_
   ·intro c7 H;have kH:decide (2<(az.length:Int))=true:=decide_eq_true c7;have zV:decide (2<az.length)=true:=decide_eq_true (by omega);clear c7
    (first|rw [kH]|(simp only [fC,gK];rw [kH])|rw [zV]|skip)
    have H':=am H;clear H;have BU:=dO jh
    go_wp2
    go_meet
    case rel=>exact ⟨_,(true),fg,H',⟨fl⟩,⟨ks jh⟩,⟨bs HB⟩⟩
   ·intro c7 H;have kH:decide (2<(az.length:Int))=false:=decide_eq_false c7;have zV:decide (2<az.length)=false:=decide_eq_false (by omega);clear c7
    (first|rw [kH]|(simp only [fC,gK];rw [kH])|rw [zV]|skip)
    have H':=am H;clear H;have zZ:=dO jh
    go_wp2
    go_meet
    case rel=>exact ⟨_,(decide ((ah.length:Int)>20)),fg,H',⟨fl⟩,⟨ks jh⟩,⟨bs HB⟩⟩
  ·replace H:=di H;have H':=am H;clear H
   go_wp2
   go_meet
   case rel=>exact ⟨_,(true),fg,H',⟨fl⟩,⟨ks jh⟩,⟨bs HB⟩⟩
 case rest =>
  clear lY
  obtain ⟨kq,abf,rfl,HA,iL,jh,HB⟩:=hcut
  cases kq with
  | zero=>exact absurd HA.o (by simp [kD.j0])
  | succ mV =>
   have H:=HA.o;clear HA;simp only [kD.j0] at H
   obtain rfl|rfl:=bt abf
   ·replace H:=dm H;obtain rfl:=si H
    go_wp2
    go_ret
    exact ⟨ff,bs HB⟩
   ·replace H:=di H;replace H:=bo H;obtain ⟨t51,Js,H⟩:=H;have Fe:=dO jh
    try go_wp2_with (fail)
    go_at_call 42;refine (gZ.calls mV ag aj ak aM _ _ az _ _ ah t51 _ (Kd.bi oI.o (bs HB)) rR.o (Kd.bi ni.o (bs HB)) qW.o (uQ HTF (bs HB)) Js.o).mono ?_;rintro e tC ⟨v67,rfl,ho0,hb⟩;have kF:=am (Kd.aio (Kd.EE (ok':=fun k_=>k_≠adY) ho0 (fun k_ hk_=>(Kd.vC (g:=adY) (o:=.cells #[.int .i64 ag,.string aj,.string ak,.int .i64 aM,.slice dB az.length dx,.slice dJ ah.length df] 45 (0,0)) (ks jh) k_ hk_))) (bJ (bs HB)));replace jh:=bb jh hb;replace HB:=bq HB hb;(try clear hb);(try clear ho0);replace H:=bo H;obtain ⟨⟨t58,t59,t60⟩,Be,H⟩:=H;(try dsimp only at H)
    revert H;refine bH ?_ ?_
    ·intro vX Kq H;replace H:=bo H;obtain ⟨⟨t52,t53,t54,t55,t56,t57⟩,M9,H⟩:=H;(try dsimp only at H);replace H:=bo H;obtain ⟨t62,Jv,H⟩:=H
     obtain rfl|rfl:=bt t62
     ·replace H:=dm H;replace H:=bo H;obtain ⟨t63,A19,H⟩:=H;obtain rfl:=si H
      try go_wp2
      replace kF:=am (Kd.uw kF.o);replace jh:=am (bD jh.o);replace HB:=am (cZ HB.o);obtain ⟨XI,Zm,Zw⟩:=Kd.J8 kF.o
      (first|subst Zw|(injection Zw with fO jy fP;have jA:=fO.symm;have jB:=fP.symm;clear fO jy fP;subst jA;subst jB))
      refine gD 20 (hb6 jh) (fun hHeld=>?_);refine fu kD.xQ kD.xg (fun HT_ HW_=>?_)
      generalize tC.drew=uj at kF jh HB hHeld ⊢
      refine bQ 0 ?_;refine bQ 2 ?_;refine ta 1 ?_;refine oA 3 25 HT_ (fun K hK=>?_);refine gA Tryz.func43 #[.int .i64 ag,.slice XI t51.length Zm] ?_;(with_reducible refine (fH.calls mV ag _ _ t51 t58 t59 t60 _ ?aR ?bg (zM HTC (bs HB)) (pq HTP (bs HB)) Be.o).mono ?_)
      (case aR=>exact sd (Kd.xZ kF.o).2.2)
      (case bg=>exact (Kd.xZ kF.o).2.1)
      rintro e CK ⟨rfl,hb⟩;refine ⟨_,rfl,?_⟩;replace kF:=am (Kd.xY (by (with_reducible repeat (first|apply Kd.wY|apply Kd.wZ|apply Kd.uw));exact kF.o) hb);replace jh:=am (aU (ks jh) hb);replace HB:=am (gP (bs HB) hb);(try clear hb);refine hK.out _ _ (hb6 jh).o (fun hHeld=>?_);clear hK K;refine nA 25 ?_;refine jV 4 ?_;refine bQ 9 ?_;refine ta 8 ?_;refine ta 11 ?_;refine oA 10 32 HT_ (fun K hK=>?_);refine gA Tryz.func45 #[.int .i64 ag,.slice XI t51.length Zm] ?_;(with_reducible refine (ik.calls mV ag _ _ t51 t52 t53 t54 t55 t56 t57 _ ?aR ?bg (pq HTP (bs HB)) M9.o).mono ?_)
      (case aR=>exact sd (Kd.xZ kF.o).2.2)
      (case bg=>exact (Kd.xZ kF.o).2.1)
      rintro e tH ⟨v65,v66,rfl,ho0,ho1,hb⟩;refine ⟨_,rfl,?_⟩;replace kF:=am (Kd.EE (Kd.NF (Kd.NF (Kd.acW (by (with_reducible repeat (first|apply Kd.wY|apply Kd.wZ|apply Kd.uw));exact kF.o) hb) (Kd.qZ ho0)) (Kd.qZ ho1)) (fun _ h_=>h_.1));have yZ:=am (Kd.ic ho0 (bJ (bs HB)));have y5:=am (Kd.ic ho1 (bJ (bs HB)));replace jh:=am (aU (ks jh) hb);replace HB:=am (gP (bs HB) hb);(try clear hb);(try clear ho0);(try clear ho1);obtain ⟨apg,aur,aj8⟩:=Kd.gW yZ.o
      (first|subst aj8|(injection aj8 with fO jy fP;have jA:=fO.symm;have jB:=fP.symm;clear fO jy fP;subst jA;subst jB))
      obtain ⟨aph,aus,aj9⟩:=Kd.gW y5.o
      (first|subst aj9|(injection aj9 with fO jy fP;have jA:=fO.symm;have jB:=fP.symm;clear fO jy fP;subst jA;subst jB))
      refine hK.out _ _ (hb6 jh).o (fun hHeld=>?_);clear hK K;refine nA 32 ?_;refine oA 12 34 HT_ (fun K hK=>?_);refine gA Tryz.func44 #[.agg #[.int .i64 t52,.string t53,.string t54,.int .i64 t55,.slice apg t56.length aur,.slice aph t57.length aus],.agg #[.int .i64 ag,.string aj,.string ak,.int .i64 aM,.slice dB az.length dx,.slice dJ ah.length df]] ?_;(with_reducible refine (Iy.calls mV t52 t53 t54 t55 _ _ t56 _ _ t57 ag aj ak aM _ _ az _ _ ah true _ ?aR ?bg ?jI ?ma ?FY ?LZ ?FZ ?L6 Jv.o).mono ?_)
      (case aR=>exact sd (Kd.dH yZ.o).2.2)
      (case bg=>exact (Kd.dH yZ.o).2.1)
      (case jI=>exact sd (Kd.dH y5.o).2.2)
      (case ma=>exact (Kd.dH y5.o).2.1)
      (case FY=>exact sd (Kd.bi oI.o HB.o))
      (case LZ=>exact rR.o)
      (case FZ=>exact sd (Kd.bi ni.o HB.o))
      (case L6=>exact qW.o)
      rintro e Qc ⟨rfl,hb⟩;refine ⟨_,rfl,?_⟩;replace kF:=am (Kd.xY (by (with_reducible repeat (first|apply Kd.wY|apply Kd.wZ|apply Kd.uw));exact kF.o) hb);replace yZ:=am (Kd.cu (rs yZ) hb);replace y5:=am (Kd.cu (rs y5) hb);replace jh:=am (aU (ks jh) hb);replace HB:=am (gP (bs HB) hb);(try clear hb);refine hK.out _ _ (hb6 jh).o (fun hHeld=>?_);clear hK K;refine nA 34 ?_;refine jU 13 ?_;refine ta 15 ?_;refine oA 16 38 HT_ (fun K hK=>?_);refine gA Tryz.func46 #[.agg #[.int .i64 ag,.string aj,.string ak,.int .i64 aM,.slice dB az.length dx,.slice dJ ah.length df]] ?_;(with_reducible refine (jd.calls mV ag aj ak aM _ _ az _ _ ah t63 _ ?aR ?bg ?jI ?ma A19.o).mono ?_)
      (case aR=>exact sd (Kd.bi oI.o HB.o))
      (case bg=>exact rR.o)
      (case jI=>exact sd (Kd.bi ni.o HB.o))
      (case ma=>exact qW.o)
      rintro e Ec ⟨rfl,hb⟩;refine ⟨_,rfl,?_⟩;replace kF:=am (Kd.xY (by (with_reducible repeat (first|apply Kd.wY|apply Kd.wZ|apply Kd.uw));exact kF.o) hb);replace yZ:=am (Kd.cu (rs yZ) hb);replace y5:=am (Kd.cu (rs y5) hb);replace jh:=am (aU (ks jh) hb);replace HB:=am (gP (bs HB) hb);(try clear hb);refine hK.out _ _ (hb6 jh).o (fun hHeld=>?_);clear hK K;refine nA 38 ?_;refine jo 17 ?_;refine ek (fo HT_.o (by kernel_rfl)) ?_
      try go_wp2
      go_ret
      exact ⟨ff,bs HB⟩
     ·replace H:=di H;obtain rfl:=si H
      try go_wp2
      replace kF:=am (Kd.uw kF.o);replace jh:=am (bD jh.o);replace HB:=am (cZ HB.o);obtain ⟨ahu,ajV,aka⟩:=Kd.J8 kF.o
      (first|subst aka|(injection aka with fO jy fP;have jA:=fO.symm;have jB:=fP.symm;clear fO jy fP;subst jA;subst jB))
      refine gD 20 (hb6 jh) (fun hHeld=>?_);refine fu kD.xQ kD.xg (fun HT_ HW_=>?_)
      generalize tC.drew=MO at kF jh HB hHeld ⊢
      refine bQ 0 ?_;refine bQ 2 ?_;refine ta 1 ?_;refine oA 3 25 HT_ (fun K hK=>?_);refine gA Tryz.func43 #[.int .i64 ag,.slice ahu t51.length ajV] ?_;(with_reducible refine (fH.calls mV ag _ _ t51 t58 t59 t60 _ ?aR ?bg (zM HTC (bs HB)) (pq HTP (bs HB)) Be.o).mono ?_)
      (case aR=>exact sd (Kd.xZ kF.o).2.2)
      (case bg=>exact (Kd.xZ kF.o).2.1)
      rintro e uk ⟨rfl,hb⟩;refine ⟨_,rfl,?_⟩;replace kF:=am (Kd.xY (by (with_reducible repeat (first|apply Kd.wY|apply Kd.wZ|apply Kd.uw));exact kF.o) hb);replace jh:=am (aU (ks jh) hb);replace HB:=am (gP (bs HB) hb);(try clear hb);refine hK.out _ _ (hb6 jh).o (fun hHeld=>?_);clear hK K;refine nA 25 ?_;refine jV 4 ?_;refine bQ 9 ?_;refine ta 8 ?_;refine ta 11 ?_;refine oA 10 32 HT_ (fun K hK=>?_);refine gA Tryz.func45 #[.int .i64 ag,.slice ahu t51.length ajV] ?_;(with_reducible refine (ik.calls mV ag _ _ t51 t52 t53 t54 t55 t56 t57 _ ?aR ?bg (pq HTP (bs HB)) M9.o).mono ?_)
      (case aR=>exact sd (Kd.xZ kF.o).2.2)
      (case bg=>exact (Kd.xZ kF.o).2.1)
      rintro e MP ⟨v65,v66,rfl,ho0,ho1,hb⟩;refine ⟨_,rfl,?_⟩;replace kF:=am (Kd.EE (Kd.NF (Kd.NF (Kd.acW (by (with_reducible repeat (first|apply Kd.wY|apply Kd.wZ|apply Kd.uw));exact kF.o) hb) (Kd.qZ ho0)) (Kd.qZ ho1)) (fun _ h_=>h_.1));have yZ:=am (Kd.ic ho0 (bJ (bs HB)));have y5:=am (Kd.ic ho1 (bJ (bs HB)));replace jh:=am (aU (ks jh) hb);replace HB:=am (gP (bs HB) hb);(try clear hb);(try clear ho0);(try clear ho1);obtain ⟨Nc,Oe,Zx⟩:=Kd.gW yZ.o
      (first|subst Zx|(injection Zx with fO jy fP;have jA:=fO.symm;have jB:=fP.symm;clear fO jy fP;subst jA;subst jB))
      obtain ⟨XK,Zo,Oh⟩:=Kd.gW y5.o
      (first|subst Oh|(injection Oh with fO jy fP;have jA:=fO.symm;have jB:=fP.symm;clear fO jy fP;subst jA;subst jB))
      refine hK.out _ _ (hb6 jh).o (fun hHeld=>?_);clear hK K;refine nA 32 ?_;refine oA 12 34 HT_ (fun K hK=>?_);refine gA Tryz.func44 #[.agg #[.int .i64 t52,.string t53,.string t54,.int .i64 t55,.slice Nc t56.length Oe,.slice XK t57.length Zo],.agg #[.int .i64 ag,.string aj,.string ak,.int .i64 aM,.slice dB az.length dx,.slice dJ ah.length df]] ?_;(with_reducible refine (Iy.calls mV t52 t53 t54 t55 _ _ t56 _ _ t57 ag aj ak aM _ _ az _ _ ah false _ ?aR ?bg ?jI ?ma ?FY ?LZ ?FZ ?L6 Jv.o).mono ?_)
      (case aR=>exact sd (Kd.dH yZ.o).2.2)
      (case bg=>exact (Kd.dH yZ.o).2.1)
      (case jI=>exact sd (Kd.dH y5.o).2.2)
      (case ma=>exact (Kd.dH y5.o).2.1)
      (case FY=>exact sd (Kd.bi oI.o HB.o))
      (case LZ=>exact rR.o)
      (case FZ=>exact sd (Kd.bi ni.o HB.o))
      (case L6=>exact qW.o)
      rintro e CO ⟨rfl,hb⟩;refine ⟨_,rfl,?_⟩;replace kF:=am (Kd.xY (by (with_reducible repeat (first|apply Kd.wY|apply Kd.wZ|apply Kd.uw));exact kF.o) hb);replace yZ:=am (Kd.cu (rs yZ) hb);replace y5:=am (Kd.cu (rs y5) hb);replace jh:=am (aU (ks jh) hb);replace HB:=am (gP (bs HB) hb);(try clear hb);refine hK.out _ _ (hb6 jh).o (fun hHeld=>?_);clear hK K;refine nA 34 ?_;refine jV 13 ?_;refine jo 17 ?_;refine ek (fo HT_.o (by kernel_rfl)) ?_
      try go_wp2
      go_ret
      exact ⟨ff,bs HB⟩
    ·intro c15 vX Kq H;obtain rfl:=si H
     try go_wp2
     replace kF:=am (Kd.uw kF.o);replace jh:=am (bD jh.o);replace HB:=am (cZ HB.o);obtain ⟨ahv,ajW,Zy⟩:=Kd.J8 kF.o
     (first|subst Zy|(injection Zy with fO jy fP;have jA:=fO.symm;have jB:=fP.symm;clear fO jy fP;subst jA;subst jB))
     refine gD 20 (hb6 jh) (fun hHeld=>?_);refine fu kD.xQ kD.xg (fun HT_ HW_=>?_)
     generalize tC.drew=w35 at kF jh HB hHeld ⊢
     refine bQ 0 ?_;refine bQ 2 ?_;refine ta 1 ?_;refine oA 3 25 HT_ (fun K hK=>?_);refine gA Tryz.func43 #[.int .i64 ag,.slice ahv t51.length ajW] ?_;(with_reducible refine (fH.calls mV ag _ _ t51 t58 t59 t60 _ ?aR ?bg (zM HTC (bs HB)) (pq HTP (bs HB)) Be.o).mono ?_)
     (case aR=>exact sd (Kd.xZ kF.o).2.2)
     (case bg=>exact (Kd.xZ kF.o).2.1)
     rintro e Qd ⟨rfl,hb⟩;refine ⟨_,rfl,?_⟩;replace kF:=am (Kd.xY (by (with_reducible repeat (first|apply Kd.wY|apply Kd.wZ|apply Kd.uw));exact kF.o) hb);replace jh:=am (aU (ks jh) hb);replace HB:=am (gP (bs HB) hb);(try clear hb);refine hK.out _ _ (hb6 jh).o (fun hHeld=>?_);clear hK K;refine nA 25 ?_;refine mF 4 ?_;refine mF 12 ?_;refine ek (fo HT_.o (by kernel_rfl)) ?_
     try go_wp2
     go_ret
     exact ⟨ff,bs HB⟩
end Go.Proofs.YtapilmimgiaglaaGreatDoor.QX
