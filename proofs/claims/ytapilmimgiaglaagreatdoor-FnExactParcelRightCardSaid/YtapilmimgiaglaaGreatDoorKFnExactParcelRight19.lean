-- Merged by a program of this session (wip/tool/pack.py) out of its own texts for this claim.
import Derived.Test.YtapilmimgiaglaaGreatDoorKFnExactParcelRight18
set_option maxHeartbeats 8000000
set_option maxRecDepth 100000
set_option linter.unusedSimpArgs false
set_option linter.unusedVariables false
namespace Go.Proofs.YtapilmimgiaglaaGreatDoor.QA
open Go.RowKit Go.Proofs.bB.fA Go.Proofs.bB.PrintLast Go.Proofs.bB.PrintMore
attribute [local go_sem] o6 pg o9 pE o8 pz o7 pq   -- for this text's walks alone
theorem Fx.calls (k:Nat) (ag:Int) (aj:ByteArray) (ak:ByteArray) (aD:Int) (bY:Option Addr) (bW:Nat) (ay:List ByteArray) (df:Option Addr) (bR:Nat) (ah:List (aY)) (aM:Int) (dh:ByteArray) (dx:ByteArray) (ek:Int) (nL:Option Addr) (nQ:Nat) (iB:List ByteArray) (nM:Option Addr) (nR:Nat) (gD:List (aY)) (r:Bool) (w:World) (ko:Kd.C Kd.string w bY ay.length ay) (j6:ay.length≤bW) (kr:Kd.C iR w df ah.length ah) (kg:ah.length≤bR) (E9:Kd.C Kd.string w nL iB.length iB) (EM:iB.length≤nQ) (Fa:Kd.C iR w nM gD.length gD) (EN:gD.length≤nR) (H:Fx.f k ag aj ak aD ay ah aM dh dx ek iB gD=some r) :
  Calls Tryz.prog 44 #[.agg #[.int .i64 ag,.string aj,.string ak,.int .i64 aD,.slice bY ay.length bW,.slice df ah.length bR],.agg #[.int .i64 aM,.string dh,.string dx,.int .i64 ek,.slice nL iB.length nQ,.slice nM gD.length nR]] w fun e w'=>e=.returned (.bool r)∧Below w.heap.size w w':=by
 have uX:=Tryz.underlying45;have ng:=am ko;have pR:=am j6;clear ko j6;have lW:=am kr;have oM:=am kg;clear kr kg;have Kv:=am E9;have Uw:=am EM;clear E9 EM;have Kw:=am Fa;have Ux:=am EN;clear Fa EN;have HB:=am (Below.refl w.heap.size w);unfold Fx.f at H
 revert H;refine bL ?_ ?_
 ·intro bN fo H
  revert H;refine bL ?_ ?_
  ·intro dS kW H
   revert H;refine bL ?_ ?_
   ·intro kv wo H
    revert H;refine bL ?_ ?_
    ·intro gQ pW H;replace H:=bo H;obtain ⟨t39,A7,H⟩:=H
     go_in
     try go_wp2_with (first|((with_reducible refine aN (N:=2) rfl ?_);refine bz 2 (cs:=#[.int .i64 ag,.string aj,.string ak,.int .i64 aD,.slice bY ay.length bW,.slice df ah.length bR]) (t:=45) HB ?_;clear HB;intro wu hg w8 dz vS hb HB;clear hb hg)|((with_reducible refine aN (N:=3) rfl ?_);refine bz 3 (cs:=#[.int .i64 aM,.string dh,.string dx,.int .i64 ek,.slice nL iB.length nQ,.slice nM gD.length nR]) (t:=45) HB ?_;clear HB;intro cZ hg w9 Ar Oe hb HB;have Az:=na hg dz;have AC:=nc hg dz;replace dz:=bb dz hb;clear hb hg;have Wx:=Az.out;have Wz:=AC.out;have Bd:=dC dz;have CP:=dC Ar))
     go_at_call 85;(with_reducible refine (uF.calls k _ _ ay _ _ iB t39 _ (Kd.bJ ng.out (bs HB)) pR.out (Kd.bJ Kv.out (bs HB)) Uw.out A7.out).mono ?_);rintro e w' ⟨rfl,⟨nd,rfl⟩⟩
     obtain rfl|rfl:=bt t39
     ·replace H:=dE H;replace H:=bo H;obtain ⟨t40,zf,H⟩:=H;obtain rfl:=si H;have ai9:=Az.out;have ajl:=AC.out;have EO:=dC dz;have PW:=dC Ar
      go_wp2_with (first|(go_at_call 86;(with_reducible refine (uq.calls k _ _ ah _ _ gD t40 _ ?aI oM.out ?lh Ux.out zf.out).mono ?_);(case aI=>repeat (first|exact (Kd.bJ lW.out (bs HB))|(with_reducible refine Kd.pM ?_ _)|(with_reducible refine Kd.pQ ?_ _)|(with_reducible refine Kd.pO ?_)));(case lh=>repeat (first|exact (Kd.bJ Kw.out (bs HB))|(with_reducible refine Kd.pM ?_ _)|(with_reducible refine Kd.pQ ?_ _)|(with_reducible refine Kd.pO ?_)));rintro e w' ⟨rfl,⟨nd,rfl⟩⟩))
      go_ret
      exact ⟨ff,bs HB⟩
     ·replace H:=dD H;obtain rfl:=si H
      go_wp2
      go_ret
      exact ⟨ff,bs HB⟩
    ·intro c6 gQ pW H;obtain rfl:=si H
     go_in
     go_wp2_with (first|((with_reducible refine aN (N:=2) rfl ?_);refine bz 2 (cs:=#[.int .i64 ag,.string aj,.string ak,.int .i64 aD,.slice bY ay.length bW,.slice df ah.length bR]) (t:=45) HB ?_;clear HB;intro wu hg xY dz vS hb HB;clear hb hg)|((with_reducible refine aN (N:=3) rfl ?_);refine bz 3 (cs:=#[.int .i64 aM,.string dh,.string dx,.int .i64 ek,.slice nL iB.length nQ,.slice nM gD.length nR]) (t:=45) HB ?_;clear HB;intro cZ hg pG Ar Oe hb HB;have Az:=na hg dz;have AC:=nc hg dz;replace dz:=bb dz hb;clear hb hg;have atA:=Az.out;have at1:=AC.out;have ahQ:=dC dz;have abf:=dC Ar))
     go_ret
     exact ⟨ff,bs HB⟩
   ·intro c5 kv wo H;obtain rfl:=si H
    go_in
    go_wp2_with (first|((with_reducible refine aN (N:=2) rfl ?_);refine bz 2 (cs:=#[.int .i64 ag,.string aj,.string ak,.int .i64 aD,.slice bY ay.length bW,.slice df ah.length bR]) (t:=45) HB ?_;clear HB;intro wu hg tH dz vS hb HB;clear hb hg)|((with_reducible refine aN (N:=3) rfl ?_);refine bz 3 (cs:=#[.int .i64 aM,.string dh,.string dx,.int .i64 ek,.slice nL iB.length nQ,.slice nM gD.length nR]) (t:=45) HB ?_;clear HB;intro cZ hg JP Ar Oe hb HB;have Az:=na hg dz;have AC:=nc hg dz;replace dz:=bb dz hb;clear hb hg;have ajb:=Az.out;have ajn:=AC.out;have ahR:=dC dz;have PX:=dC Ar))
    go_ret
    exact ⟨ff,bs HB⟩
  ·intro c4 dS kW H;obtain rfl:=si H
   go_in
   go_wp2_with (first|((with_reducible refine aN (N:=2) rfl ?_);refine bz 2 (cs:=#[.int .i64 ag,.string aj,.string ak,.int .i64 aD,.slice bY ay.length bW,.slice df ah.length bR]) (t:=45) HB ?_;clear HB;intro wu hg JQ dz vS hb HB;clear hb hg)|((with_reducible refine aN (N:=3) rfl ?_);refine bz 3 (cs:=#[.int .i64 aM,.string dh,.string dx,.int .i64 ek,.slice nL iB.length nQ,.slice nM gD.length nR]) (t:=45) HB ?_;clear HB;intro cZ hg X7 Ar Oe hb HB;have Az:=na hg dz;have AC:=nc hg dz;replace dz:=bb dz hb;clear hb hg;have aFA:=Az.out;have aGl:=AC.out;have aCs:=dC dz;have PZ:=dC Ar))
   go_ret
   exact ⟨ff,bs HB⟩
 ·intro c3 bN fo H;obtain rfl:=si H
  go_in
  go_wp2_with (first|((with_reducible refine aN (N:=2) rfl ?_);refine bz 2 (cs:=#[.int .i64 ag,.string aj,.string ak,.int .i64 aD,.slice bY ay.length bW,.slice df ah.length bR]) (t:=45) HB ?_;clear HB;intro wu hg DK dz vS hb HB;clear hb hg)|((with_reducible refine aN (N:=3) rfl ?_);refine bz 3 (cs:=#[.int .i64 aM,.string dh,.string dx,.int .i64 ek,.slice nL iB.length nQ,.slice nM gD.length nR]) (t:=45) HB ?_;clear HB;intro cZ hg Ai Ar Oe hb HB;have Az:=na hg dz;have AC:=nc hg dz;replace dz:=bb dz hb;clear hb hg;have ajd:=Az.out;have ajp:=AC.out;have Lj:=dC dz;have abj:=dC Ar))
  go_ret
  exact ⟨ff,bs HB⟩
theorem Bp.calls (a0:Int) (r:Bool) (w:World) (H:Bp.f a0=some r) :
  Calls Tryz.prog 89 #[.int .i64 a0] w fun e w'=>e=.returned (.bool r)∧aT w w':=by
 unfold Bp.f at H;replace H:=bo H;obtain ⟨t3,A2,H⟩:=H;obtain rfl:=si H
 go_in
 go_wp2_with (first|((go_at_call 41;(with_reducible refine (kY.calls a0 1 4 t3 _ A2.out).mono ?_);rintro e w' ⟨rfl,⟨nd,rfl⟩⟩)))
 go_ret
 exact ⟨fg,dr⟩
theorem IP.calls (a0:Int) (r:Bool) (w:World) (H:IP.f a0=some r) :
  Calls Tryz.prog 90 #[.int .i64 a0] w fun e w'=>e=.returned (.bool r)∧aT w w':=by
 unfold IP.f at H
 revert H;refine bL ?_ ?_
 ·intro gJ ja H;obtain rfl:=si H
  go_in
  go_wp2
  go_ret
  exact ⟨fg,dr⟩
 ·intro c2 gJ ja H
  revert H;refine bL ?_ ?_
  ·intro bN fo H;obtain rfl:=si H
   go_in
   go_wp2
   go_ret
   exact ⟨fg,dr⟩
  ·intro c3 bN fo H;obtain rfl:=si H
   go_in
   go_wp2
   go_ret
   exact ⟨fg,dr⟩
def ax (w0 W:World) (g:Nat) (f0:Int) (f1:ByteArray) (f2:Int) (f3:Int) (f4:ByteArray):Prop:=W.heap[g]? = some (.cells #[.int .i64 f0,.string f1,.int .i64 f2,.int .i64 f3,.string f4] 95 (0,0))∧w0.heap.size≤g
theorem ax.grown {w0 W:World} {g:Nat} {f0:Int} {f1:ByteArray} {f2:Int} {f3:Int} {f4:ByteArray} {W1:World} {row:Option Nat} (h:ax w0 W g f0 f1 f2 f3 f4) (hw:W.grownBy W1 row) (hne:some g≠row):ax w0 W1 g f0 f1 f2 f3 f4:=by
 obtain ⟨hb,hg⟩:=h
 exact ⟨fG hb hw hne,hg⟩
theorem ax.kept {w0 W:World} {g:Nat} {f0:Int} {f1:ByteArray} {f2:Int} {f3:Int} {f4:ByteArray} {W1:World} {S:Nat→Prop} (h:ax w0 W g f0 f1 f2 f3 f4) (hk:Kept W W1 S) (hne:¬ S g):ax w0 W1 g f0 f1 f2 f3 f4:=by
 obtain ⟨hb,hg⟩:=h
 exact ⟨xB hb hk hne,hg⟩
theorem ax.below {w0 W:World} {g:Nat} {f0:Int} {f1:ByteArray} {f2:Int} {f3:Int} {f4:ByteArray} {W1:World} (h:ax w0 W g f0 f1 f2 f3 f4) (hw:Below W.heap.size W W1):ax w0 W1 g f0 f1 f2 f3 f4:=h.grown (ahE hw none) (by simp)
theorem ax.alloc {w0 W:World} {g:Nat} {f0:Int} {f1:ByteArray} {f2:Int} {f3:Int} {f4:ByteArray} (h:ax w0 W g f0 f1 f2 f3 f4) (o:Obj):ax w0 (W.alloc o) g f0 f1 f2 f3 f4:=h.below (jK (Below.refl _ _) o)
theorem ax.drewN {w0 W:World} {g:Nat} {f0:Int} {f1:ByteArray} {f2:Int} {f3:Int} {f4:ByteArray} (h:ax w0 W g f0 f1 f2 f3 f4) (m:Nat):ax w0 (W.drewN m) g f0 f1 f2 f3 f4:=h
theorem ax.drew {w0 W:World} {g:Nat} {f0:Int} {f1:ByteArray} {f2:Int} {f3:Int} {f4:ByteArray} (h:ax w0 W g f0 f1 f2 f3 f4):ax w0 W.drew g f0 f1 f2 f3 f4:=h
theorem ax.at_ {w0 W:World} {g:Nat} {f0:Int} {f1:ByteArray} {f2:Int} {f3:Int} {f4:ByteArray} {w':World} {m:Nat} (hq:W.drewN m=w') (h:ax w0 W g f0 f1 f2 f3 f4):ax w0 w' g f0 f1 f2 f3 f4:=by subst hq;exact ax.drewN h m
theorem ax.apart {w0 W:World} {g:Nat} {f0:Int} {f1:ByteArray} {f2:Int} {f3:Int} {f4:ByteArray} {α:Type} {d:Kd α} {e:Nat} {base:Nat} {ok:Nat→Prop} {v:Value} {xs:List α} (h:ax w0 W g f0 f1 f2 f3 f4) (ho:d.R e W base ok v xs) (ht:∀ q,q ∈ e :: d.E→q≠95):d.R e W base (fun k=>ok k∧k≠g) v xs:=by
 obtain ⟨hb,hg⟩:=h
 exact Kd.lK ho hb ht
theorem ax.own_ne {w0 W:World} {g:Nat} {f0:Int} {f1:ByteArray} {f2:Int} {f3:Int} {f4:ByteArray} {α:Type} {d:Kd α} {e:Nat} {base:Nat} {ok:Nat→Prop} {v:Value} {xs:List α} (h:ax w0 W g f0 f1 f2 f3 f4) (ho:d.R e W base ok v xs) (ht:e≠95):some g≠v.ownBlock:=by
 obtain ⟨hb,hg⟩:=h
 exact Kd.jy ho hb ht
theorem ax.lt {w0 W:World} {g:Nat} {f0:Int} {f1:ByteArray} {f2:Int} {f3:Int} {f4:ByteArray} (h:ax w0 W g f0 f1 f2 f3 f4):g<W.heap.size:=by
 obtain ⟨hb,hg⟩:=h
 exact rO hb
theorem ax.ge {w0 W:World} {g:Nat} {f0:Int} {f1:ByteArray} {f2:Int} {f3:Int} {f4:ByteArray} (h:ax w0 W g f0 f1 f2 f3 f4):w0.heap.size≤g:=by
 obtain ⟨hb,hg⟩:=h
 exact hg
theorem ax.far {w0 W:World} {g:Nat} {f0:Int} {f1:ByteArray} {f2:Int} {f3:Int} {f4:ByteArray} {p:Addr} (h:ax w0 W g f0 f1 f2 f3 f4) (hne:g≠p.block) (u:Value):ax w0 (W.setCell p u) g f0 f1 f2 f3 f4:=by
 obtain ⟨hb,hg⟩:=h
 exact ⟨G9 hb hne u,hg⟩
theorem zC {W:World} {g:Nat} {f0:Int} {f1:ByteArray} {f2:Int} {f3:Int} {f4:ByteArray} (h:W.heap[g]? = some (.cells #[.int .i64 f0,.string f1,.int .i64 f2,.int .i64 f3,.string f4] 95 (0,0))):W.cell? ⟨g,0,none⟩=some (.int .i64 f0):=(az h 0).trans rfl
theorem ax.qC {w0 W:World} {g:Nat} {f0:Int} {f1:ByteArray} {f2:Int} {f3:Int} {f4:ByteArray} (h:ax w0 W g f0 f1 f2 f3 f4) (x:Int):ax w0 (W.setCell ⟨g,0,none⟩ (.int .i64 x)) g x f1 f2 f3 f4:=by
 obtain ⟨hb,hg⟩:=h
 exact ⟨by simpa using Ha hb 0 (.int .i64 x),hg⟩
theorem zD {W:World} {g:Nat} {f0:Int} {f1:ByteArray} {f2:Int} {f3:Int} {f4:ByteArray} (h:W.heap[g]? = some (.cells #[.int .i64 f0,.string f1,.int .i64 f2,.int .i64 f3,.string f4] 95 (0,0))):W.cell? ⟨g,1,none⟩=some (.string f1):=(az h 1).trans rfl
theorem ax.qD {w0 W:World} {g:Nat} {f0:Int} {f1:ByteArray} {f2:Int} {f3:Int} {f4:ByteArray} (h:ax w0 W g f0 f1 f2 f3 f4) (x:ByteArray):ax w0 (W.setCell ⟨g,1,none⟩ (.string x)) g f0 x f2 f3 f4:=by
 obtain ⟨hb,hg⟩:=h
 exact ⟨by simpa using Ha hb 1 (.string x),hg⟩
theorem zF {W:World} {g:Nat} {f0:Int} {f1:ByteArray} {f2:Int} {f3:Int} {f4:ByteArray} (h:W.heap[g]? = some (.cells #[.int .i64 f0,.string f1,.int .i64 f2,.int .i64 f3,.string f4] 95 (0,0))):W.cell? ⟨g,2,none⟩=some (.int .i64 f2):=(az h 2).trans rfl
theorem ax.qE {w0 W:World} {g:Nat} {f0:Int} {f1:ByteArray} {f2:Int} {f3:Int} {f4:ByteArray} (h:ax w0 W g f0 f1 f2 f3 f4) (x:Int):ax w0 (W.setCell ⟨g,2,none⟩ (.int .i64 x)) g f0 f1 x f3 f4:=by
 obtain ⟨hb,hg⟩:=h
 exact ⟨by simpa using Ha hb 2 (.int .i64 x),hg⟩
theorem zG {W:World} {g:Nat} {f0:Int} {f1:ByteArray} {f2:Int} {f3:Int} {f4:ByteArray} (h:W.heap[g]? = some (.cells #[.int .i64 f0,.string f1,.int .i64 f2,.int .i64 f3,.string f4] 95 (0,0))):W.cell? ⟨g,3,none⟩=some (.int .i64 f3):=(az h 3).trans rfl
theorem ax.qF {w0 W:World} {g:Nat} {f0:Int} {f1:ByteArray} {f2:Int} {f3:Int} {f4:ByteArray} (h:ax w0 W g f0 f1 f2 f3 f4) (x:Int):ax w0 (W.setCell ⟨g,3,none⟩ (.int .i64 x)) g f0 f1 f2 x f4:=by
 obtain ⟨hb,hg⟩:=h
 exact ⟨by simpa using Ha hb 3 (.int .i64 x),hg⟩
theorem zH {W:World} {g:Nat} {f0:Int} {f1:ByteArray} {f2:Int} {f3:Int} {f4:ByteArray} (h:W.heap[g]? = some (.cells #[.int .i64 f0,.string f1,.int .i64 f2,.int .i64 f3,.string f4] 95 (0,0))):W.cell? ⟨g,4,none⟩=some (.string f4):=(az h 4).trans rfl
theorem ax.qG {w0 W:World} {g:Nat} {f0:Int} {f1:ByteArray} {f2:Int} {f3:Int} {f4:ByteArray} (h:ax w0 W g f0 f1 f2 f3 f4) (x:ByteArray):ax w0 (W.setCell ⟨g,4,none⟩ (.string x)) g f0 f1 f2 f3 x:=by
 obtain ⟨hb,hg⟩:=h
 exact ⟨by simpa using Ha hb 4 (.string x),hg⟩
theorem ax.new (w0 W:World) (f0:Int) (f1:ByteArray) (f2:Int) (f3:Int) (f4:ByteArray) (hB:Below w0.heap.size w0 W):ax w0 (W.alloc (.cells #[.int .i64 f0,.string f1,.int .i64 f2,.int .i64 f3,.string f4] 95)) W.heap.size f0 f1 f2 f3 f4:=⟨by simpa using heap_alloc_new W _,hB.size⟩
theorem Mw.calls (ag:Int) (aj:ByteArray) (ak:Int) (aD:Int) (mK:ByteArray) (g:Nat) (r9:Int) (qY:ByteArray) (sj:Int) (s1_3:Int) (su:ByteArray) (r1:Bool) (r2:Int) (r3:ByteArray) (r4:Int) (r5:Int) (r6:ByteArray) (w0 w:World) (hI:ax w0 w g r9 qY sj s1_3 su) (hB:Below w0.heap.size w0 w) (H:Mw.f ag aj ak aD mK r9 qY sj s1_3 su=some (r1,r2,r3,r4,r5,r6)) :
  Calls Tryz.prog 92 #[.agg #[.int .i64 ag,.string aj,.int .i64 ak,.int .i64 aD,.string mK],.pointer (some ⟨g,0,none⟩)] w fun e w'=>e=.returned (.bool r1)∧ax w0 w' g r2 r3 r4 r5 r6∧Below w0.heap.size w0 w'∧fT w w' g none:=by
 have Bh:=Tryz.underlying95;have HI1:=am hI;have HK:=am (fT.refl w g none);have HL:=am hB.size;clear hI;have HW0:=am hB.size;have HB:=am hB;clear hB;unfold Mw.f at H;replace H:=MV H;obtain ⟨rfl,rfl,rfl,rfl,rfl,rfl⟩:=H
 go_in
 go_wp2_with (first|((with_reducible refine aN (N:=2) rfl ?_);refine bx 2 (cs:=#[.int .i64 ag,.string aj,.int .i64 ak,.int .i64 aD,.string mK]) (t:=95) ?_;intro Lf hg w3 hbox hb;replace HB:=am (fF (by repeat (first|(with_reducible first|exact HB.out|apply jK|apply jc|apply cO|refine eD ?_ (ax.ge HI1.out))|exact HB.out)) hb);have Cg:=am (hbox);have GW8:=am ((by rw [hg];exact (akp (w:=w) (g:=g) (row:=none) (by repeat (first|(with_reducible first|exact HK.out|apply fT.xW|apply yK|apply yJ|apply yI)|exact HK.out))):w.heap.size≤Lf));have GE8:=am ((Nat.le_trans HW0.out (by rw [hg];exact (akp (w:=w) (g:=g) (row:=none) (by repeat (first|(with_reducible first|exact HK.out|apply fT.xW|apply yK|apply yJ|apply yI)|exact HK.out))):w.heap.size≤Lf):w0.heap.size≤Lf));replace HK:=am (fT.trans (by repeat (first|(with_reducible first|exact HK.out|apply fT.xW|apply yK|apply yJ|apply yI)|exact HK.out)) (fT.of_below hb g none) (.inl rfl));have afr:=am ((by rw [hg];exact Nat.ne_of_lt (ax.lt (show ax w0 _ g r9 qY sj s1_3 su from by repeat (first|(with_reducible first|exact HI1.out|apply ax.alloc|apply ax.drewN|apply ax.drew|apply ax.qC|apply ax.qD|apply ax.qE|apply ax.qF|apply ax.qG)|exact HI1.out))):g≠Lf));have aoX:=am ((by rw [hg];exact Nat.ne_of_gt (ax.lt (show ax w0 _ g r9 qY sj s1_3 su from by repeat (first|(with_reducible first|exact HI1.out|apply ax.alloc|apply ax.drewN|apply ax.drew|apply ax.qC|apply ax.qD|apply ax.qE|apply ax.qF|apply ax.qG)|exact HI1.out))):Lf≠g));replace HI1:=am (ax.below (by repeat (first|(with_reducible first|exact HI1.out|apply ax.alloc|apply ax.drewN|apply ax.drew|apply ax.qC|apply ax.qD|apply ax.qE|apply ax.qF|apply ax.qG)|exact HI1.out)) hb);clear hb hbox hg;have aFD:=aoX.out;have aGo:=afr.out;have Bf:=jY Cg;obtain ⟨zk,ato⟩:=HI1.out;have as1:=zC zk;have as2:=zD zk;have aCI:=zF zk;have aCJ:=zG zk;have aCK:=zH zk;have atm:=aV zk 0;have atn:=aV zk 1;have aEg:=aV zk 2;have aEh:=aV zk 3;have aEi:=aV zk 4;clear zk ato))
 go_ret
 exact ⟨ff,by repeat (first|(with_reducible first|exact HI1.out|apply ax.alloc|apply ax.drewN|apply ax.drew|apply ax.qC|apply ax.qD|apply ax.qE|apply ax.qF|apply ax.qG|refine ax.far ?_ afr.out _)|exact HI1.out),by repeat (first|(with_reducible first|exact HB.out|apply jK|apply jc|apply cO|refine eD ?_ (ax.ge HI1.out)|refine eD ?_ GE8.out)|exact HB.out),by repeat (first|(with_reducible first|exact HK.out|apply fT.xW|apply yK|apply yJ|apply yI|refine avf ?_ GW8.out _)|exact HK.out)⟩
theorem u6.calls (k:Nat) (A0:Option Addr) (c0:Nat) (l0:List (aY)) (g:Nat) (r9:Int) (qY:ByteArray) (sj:Int) (s1_3:Int) (su:ByteArray) (r1:Int) (r2:Int) (r3:ByteArray) (r4:Int) (r5:Int) (r6:ByteArray) (w0 w:World) (hI:ax w0 w g r9 qY sj s1_3 su) (hB:Below w0.heap.size w0 w) (hr0:∀ W_,fT w W_ g none→Kd.C iR W_ A0 l0.length l0) (hc0:l0.length≤c0) (H:u6.f k l0 r9 qY sj s1_3 su=some (r1,r2,r3,r4,r5,r6)) :
  Calls Tryz.prog 122 #[.slice A0 l0.length c0,.func (.func 92) #[] #[.pointer (some ⟨g,0,none⟩)]] w fun e w'=>e=.returned (.int .i64 r1)∧ax w0 w' g r2 r3 r4 r5 r6∧Below w0.heap.size w0 w'∧fT w w' g none:=by
 have Bh:=Tryz.underlying95;have fZ:=am hr0;have ku:=am hc0;clear hr0 hc0;have HI1:=am hI;have HK:=am (fT.refl w g none);have HL:=am hB.size;clear hI;have HW0:=am hB.size;have HB:=am hB;clear hB;unfold u6.f at H;have H':=am H;clear H
 go_in
 go_wp2
 go_loopg [8] k (fun kq v8 w'=>∃ (aA:Int) (Yb:Int) (DR:ByteArray) (pI:Int) (jg:Int) (Yd:ByteArray),v8=.int .i64 aA∧af (u6.l0 kq l0 (l0.length:Int) aA Yb DR pI jg Yd=some (r1,r2,r3,r4,r5,r6))∧af (kq≤k)∧af (ax w0 w' g Yb DR pI jg Yd)∧af (fT w w' g none)∧af (Below w0.heap.size w0 w'))
 case atStart=>exact ⟨(0),(r9),(qY),(sj),(s1_3),(su),fg,H',⟨Nat.le_refl _⟩,⟨by repeat (first|(with_reducible first|exact HI1.out|apply ax.alloc|apply ax.drewN|apply ax.drew|apply ax.qC|apply ax.qD|apply ax.qE|apply ax.qF|apply ax.qG)|exact HI1.out)⟩,⟨by repeat (first|(with_reducible first|exact HK.out|apply fT.xW|apply yK|apply yJ|apply yI)|exact HK.out)⟩,⟨by repeat (first|(with_reducible first|exact HB.out|apply jK|apply jc|apply cO|refine eD ?_ (ax.ge HI1.out))|exact HB.out)⟩⟩
 case round =>
  clear H'
  obtain ⟨aA,Yb,DR,pI,jg,Yd,rfl,HA,aU,HI1,HK,HB⟩:=hrel
  cases gk with
  | zero=>exact absurd HA.out (by simp [u6.l0])
  | succ k1 =>
   have H:=HA.out;clear HA;simp only [u6.l0] at H
   revert H;refine cB ?_ ?_
   ·intro bN H
    revert H;refine bu ?_
    intro dS H
    revert H;refine bu ?_
    intro kv H;replace H:=bo H;obtain ⟨⟨vH,t16,t17,mf,nW,t20⟩,A6,H⟩:=H;(try dsimp only at H);obtain ⟨p9,q9,yj,e9,nD,qw,wG,zU,zV⟩:=wi (rM (Kd.amC fZ.out HK.out) aA)
    cases e9
    try go_wp2_with (fail)
    go_at_call 92;(with_reducible refine (Mw.calls ((ai l0 aA).f0) ((ai l0 aA).f1) ((ai l0 aA).f2) ((ai l0 aA).f3) ((ai l0 aA).f4) g Yb DR pI jg Yd vH t16 t17 mf nW t20 w0 _ ?aI ?aW A6.out).mono ?_);(case aI=>repeat (first|(with_reducible first|exact HI1.out|apply ax.alloc|apply ax.drewN|apply ax.drew|apply ax.qC|apply ax.qD|apply ax.qE|apply ax.qF|apply ax.qG)|exact HI1.out));(case aW=>repeat (first|(with_reducible first|exact HB.out|apply jK|apply jc|apply cO|refine eD ?_ (ax.ge HI1.out))|exact HB.out));rintro e w7 ⟨rfl,hi,hb,hk⟩;replace HK:=am (fT.trans (by repeat (first|(with_reducible first|exact HK.out|apply fT.xW|apply yK|apply yJ|apply yI)|exact HK.out)) hk (.inl rfl));replace HB:=am (hb);replace HI1:=am (hi);(try clear hb);(try clear hk);(try clear hi)
    obtain rfl|rfl:=bt vH
    ·replace H:=dE H;replace H:=MV H;obtain ⟨rfl,rfl,rfl,rfl,rfl,rfl⟩:=H
     go_wp2
     go_ret
     exact ⟨ff,by repeat (first|(with_reducible first|exact HI1.out|apply ax.alloc|apply ax.drewN|apply ax.drew|apply ax.qC|apply ax.qD|apply ax.qE|apply ax.qF|apply ax.qG)|exact HI1.out),by repeat (first|(with_reducible first|exact HB.out|apply jK|apply jc|apply cO|refine eD ?_ (ax.ge HI1.out))|exact HB.out),by repeat (first|(with_reducible first|exact HK.out|apply fT.xW|apply yK|apply yJ|apply yI)|exact HK.out)⟩
    ·replace H:=dD H;have H':=am H;clear H
     go_wp2
     go_roundg k1
     case measure=>have:=aU.out;omega
     case rel=>exact ⟨(wrap64 (aA+1)),(t16),(t17),(mf),(nW),(t20),fg,H',⟨by have:=aU.out;omega⟩,⟨by repeat (first|(with_reducible first|exact HI1.out|apply ax.alloc|apply ax.drewN|apply ax.drew|apply ax.qC|apply ax.qD|apply ax.qE|apply ax.qF|apply ax.qG)|exact HI1.out)⟩,⟨by repeat (first|(with_reducible first|exact HK.out|apply fT.xW|apply yK|apply yJ|apply yI)|exact HK.out)⟩,⟨by repeat (first|(with_reducible first|exact HB.out|apply jK|apply jc|apply cO|refine eD ?_ (ax.ge HI1.out))|exact HB.out)⟩⟩
   ·intro bN H;replace H:=MV H;obtain ⟨rfl,rfl,rfl,rfl,rfl,rfl⟩:=H
    go_wp2
    go_ret
    exact ⟨ff,by repeat (first|(with_reducible first|exact HI1.out|apply ax.alloc|apply ax.drewN|apply ax.drew|apply ax.qC|apply ax.qD|apply ax.qE|apply ax.qF|apply ax.qG)|exact HI1.out),by repeat (first|(with_reducible first|exact HB.out|apply jK|apply jc|apply cO|refine eD ?_ (ax.ge HI1.out))|exact HB.out),by repeat (first|(with_reducible first|exact HK.out|apply fT.xW|apply yK|apply yJ|apply yI)|exact HK.out)⟩
theorem Fw.calls (k:Nat) (A0:Option Addr) (c0:Nat) (l0:List (aY)) (g:Nat) (r9:Int) (qY:ByteArray) (sj:Int) (s1_3:Int) (su:ByteArray) (r1:Bool) (r2:Int) (r3:ByteArray) (r4:Int) (r5:Int) (r6:ByteArray) (w0 w:World) (hI:ax w0 w g r9 qY sj s1_3 su) (hB:Below w0.heap.size w0 w) (hr0:∀ W_,fT w W_ g none→Kd.C iR W_ A0 l0.length l0) (hc0:l0.length≤c0) (H:Fw.f k l0 r9 qY sj s1_3 su=some (r1,r2,r3,r4,r5,r6)) :
  Calls Tryz.prog 91 #[.slice A0 l0.length c0,.func (.func 92) #[] #[.pointer (some ⟨g,0,none⟩)]] w fun e w'=>e=.returned (.bool r1)∧ax w0 w' g r2 r3 r4 r5 r6∧Below w0.heap.size w0 w'∧fT w w' g none:=by
 have fZ:=am hr0;have ku:=am hc0;clear hr0 hc0;have HI1:=am hI;have HK:=am (fT.refl w g none);have HL:=am hB.size;clear hI;have HW0:=am hB.size;have HB:=am hB;clear hB;unfold Fw.f at H;replace H:=bo H;obtain ⟨⟨t8,t9,pF,vG,t12,t13⟩,A3,H⟩:=H;(try dsimp only at H);replace H:=MV H;obtain ⟨rfl,rfl,rfl,rfl,rfl,rfl⟩:=H
 go_in
 go_wp2_with (first|((go_at_call 122;(with_reducible refine (u6.calls k _ _ l0 g r9 qY sj s1_3 su t8 t9 pF vG t12 t13 w0 _ ?aI ?aW ?lh ku.out A3.out).mono ?_);(case aI=>repeat (first|(with_reducible first|exact HI1.out|apply ax.alloc|apply ax.drewN|apply ax.drew|apply ax.qC|apply ax.qD|apply ax.qE|apply ax.qF|apply ax.qG)|exact HI1.out));(case aW=>repeat (first|(with_reducible first|exact HB.out|apply jK|apply jc|apply cO|refine eD ?_ (ax.ge HI1.out))|exact HB.out));(case lh=>exact Kd.amD fZ.out (by repeat (first|(with_reducible first|exact HK.out|apply fT.xW|apply yK|apply yJ|apply yI)|exact HK.out)));rintro e w4 ⟨rfl,hi,hb,hk⟩);replace HK:=am (fT.trans (by repeat (first|(with_reducible first|exact HK.out|apply fT.xW|apply yK|apply yJ|apply yI)|exact HK.out)) hk (.inl rfl));replace HB:=am (hb);replace HI1:=am (hi);(try clear hb);(try clear hk);(try clear hi)))
 go_ret
 exact ⟨ff,by repeat (first|(with_reducible first|exact HI1.out|apply ax.alloc|apply ax.drewN|apply ax.drew|apply ax.qC|apply ax.qD|apply ax.qE|apply ax.qF|apply ax.qG)|exact HI1.out),by repeat (first|(with_reducible first|exact HB.out|apply jK|apply jc|apply cO|refine eD ?_ (ax.ge HI1.out))|exact HB.out),by repeat (first|(with_reducible first|exact HK.out|apply fT.xW|apply yK|apply yJ|apply yI)|exact HK.out)⟩
def iN.T4:Bool × List (List Nat × List Nat):=(true,[([],[]),([0],[0]),([1],[1]),([2,2],[2]),([3],[3]),([4,3],[3,4]),([5,3,3],[3,5]),([6,3],[3,6]),([7,6,3],[3,7]),([8],[8]),([9,8],[8,9]),([10,8,8],[8,10]),([11],[11]),([12,11],[11,12]),([11],[11]),([14,11],[11,14]),([11],[11]),([16,11],[11,16]),([15,17,11],[11,15,17]),([18,11],[11,18]),([19,11],[11,19]),([13,20,11],[11,13,20]),([11,21,8],[8,11,21]),([8,22,3],[3,8,22]),([3,23],[3,23])])
def iN.B4:List Nat:=[0,1,3,7,15,31,63,127,255,511,1023,2047,4095,8191,4095,20479,4095,69631,249855,511999,1036287,2097151,4194303,8388607,16777215]
theorem iN.yV:fJ .any (opsOf Tryz.f46 4)=iN.T4:=by kernel_rfl
theorem iN.ym:iY iN.T4.2 iN.B4=true:=by kernel_rfl
theorem iN.calls (k:Nat) (ag:Int) (aj:ByteArray) (ak:ByteArray) (aD:Int) (bY:Option Addr) (bW:Nat) (ay:List ByteArray) (df:Option Addr) (bR:Nat) (ah:List (aY)) (r:Int) (w:World) (ko:Kd.C Kd.string w bY ay.length ay) (j6:ay.length≤bW) (kr:Kd.C iR w df ah.length ah) (kg:ah.length≤bR) (H:iN.f k ag aj ak aD ay ah=some r) :
  Calls Tryz.prog 46 #[.agg #[.int .i64 ag,.string aj,.string ak,.int .i64 aD,.slice bY ay.length bW,.slice df ah.length bR]] w fun e w'=>e=.returned (.int .i64 r)∧Below w.heap.size w w':=by
 have uX:=Tryz.underlying45;have Bh:=Tryz.underlying95
 have hmf:∀ (fn:Fn) (first cap:Array Value) (w:World),(Instr.makeFunc fn first cap).run Tryz.prog w=.ok (.func fn first cap) w:=fun _ _ _ _=>rfl
 have ng:=am ko;have pR:=am j6;clear ko j6;have lW:=am kr;have oM:=am kg;clear kr kg;have HB:=am (Below.refl w.heap.size w);unfold iN.f at H;have H':=am H;clear H
 go_in
 go_wp2_with (first|((with_reducible refine aN (N:=1) rfl ?_);refine bz 1 (cs:=#[.int .i64 ag,.string aj,.string ak,.int .i64 aD,.slice bY ay.length bW,.slice df ah.length bR]) (t:=45) HB ?_;clear HB;intro uW hg w2 bf YW hb HB;clear hb hg;have PY:=dC bf))
 go_loopg [8] k (fun kq v8 w'=>∃ (aA:Int),v8=.int .i64 aA∧af (iN.l0 kq ah (ah.length:Int) aA ag aj ak aD ay ah=some r)∧af (kq≤k)∧af (w'.heap[uW]? = some (.cells #[.int .i64 ag,.string aj,.string ak,.int .i64 aD,(.slice bY ay.length bW),(.slice df ah.length bR)] 45 (0,0)))∧af (Below w.heap.size w w'))
 case atStart=>exact ⟨(0),fg,H',⟨Nat.le_refl _⟩,⟨ks bf⟩,⟨bs HB⟩⟩
 case round =>
  clear H'
  try clear PY
  try clear bf
  obtain ⟨aA,rfl,HA,aU,bf,HB⟩:=hrel
  cases gk with
  | zero=>exact absurd HA.out (by simp [iN.l0])
  | succ k1 =>
   have H:=HA.out;clear HA;simp only [iN.l0] at H
   revert H;refine cB ?_ ?_
   ·intro dS H
    revert H;refine bu ?_
    intro kv H
    revert H;refine bu ?_
    intro gQ H;have Gs:=am H;clear H;obtain ⟨p42,q42,sO,e42,Dc,ajP,ajQ,ajR,ajS⟩:=wi (rM lW.out aA)
    cases e42
    replace Dc:=cb HB Dc;replace ajP:=cb HB ajP;replace ajQ:=cb HB ajQ;replace ajR:=cb HB ajR;replace ajS:=cb HB ajS
    go_upto_region 4 with (first|((with_reducible refine aN (N:=4) rfl ?_);refine bx 4 (cs:=#[.int .i64 0,.string (⟨#[]⟩:ByteArray),.int .i64 0,.int .i64 0,.string (⟨#[]⟩:ByteArray)]) (t:=95) ?_;intro cZ hg w8 hbox hb;have Oe:=gw hg HB;have aab:=na hg bf;have zq:=nc hg bf;replace bf:=bb bf hb;have bX:=am ((show ax w w8 cZ 0 (⟨#[]⟩:ByteArray) 0 0 (⟨#[]⟩:ByteArray) from ⟨hbox,(gs hg (bs HB))⟩));replace HB:=bq HB hb;clear hb hbox hg;obtain ⟨zl,atp⟩:=bX.out;have aCT:=zC zl;have aCU:=zD zl;have aCV:=zF zl;have aCW:=zG zl;have aCX:=zH zl;have aEn:=aV zl 0;have aEo:=aV zl 1;have aEp:=aV zl 2;have aEq:=aV zl 3;have aEr:=aV zl 4;clear zl atp))
    (try simp only [Act.put,List.setIfInBounds_toArray,List.set_cons_zero,List.set_cons_succ])
    go_cut [37] (fun v37 wc=>∃ (kq:Nat) (Yn:Bool),v37=.bool Yn∧af (iN.j1 kq aA ah (ah.length:Int) aA Yn ag aj ak aD ay ah ((ai ah aA).f0) ((ai ah aA).f1) ((ai ah aA).f2) ((ai ah aA).f3) ((ai ah aA).f4)=some r)∧af (kq≤k1)∧af (wc.heap[uW]? = some (.cells #[.int .i64 ag,.string aj,.string ak,.int .i64 aD,(.slice bY ay.length bW),(.slice (some sO) ah.length bR)] 45 (0,0)))∧af (ax w wc cZ ((ai ah aA).f0) ((ai ah aA).f1) ((ai ah aA).f2) ((ai ah aA).f3) ((ai ah aA).f4))∧af (Below w.heap.size w wc))
    case first =>
     have H:=Gs.out;clear Gs;replace H:=bo H;obtain ⟨t51,qb,H⟩:=H
     obtain rfl|rfl:=bt t51
     ·replace H:=dE H;replace H:=bo H;obtain ⟨t52,vQ,H⟩:=H
      obtain rfl|rfl:=bt t52
      ·replace H:=dE H
       revert H;refine gz ?_ ?_
       ·intro c14 H;have oU:decide (0<aA)=true:=decide_eq_true c14;clear c14
        (first|rw [oU]|(simp only [fu,gy];rw [oU])|skip)
        obtain ⟨yH,Lr⟩:∃ j_:Int,(wrap64 (aA - 1))=j_:=⟨_,rfl⟩
        replace H:(if 0≤(yH) then (if (yH)<(ah.length:Int) then (iN.j1 k1 aA ah (ah.length:Int) aA (decide (((ai ah aA).f0)≤((ai ah (yH)).f0))) ag aj ak aD ay ah ((ai ah aA).f0) ((ai ah aA).f1) ((ai ah aA).f2) ((ai ah aA).f3) ((ai ah aA).f4)) else (none)) else (none))=some r:=by first|(rw [Lr] at H;exact H)|(simp only [Lr] at H ⊢;exact H)
        (try rw [Lr] at qb)
        (try rw [Lr] at vQ)
        have aEs:(IntKind.i64.wrap (aA - 1))=yH:=(fu _).trans Lr
        revert H;refine bu ?_
        intro vZ H
        revert H;refine bu ?_
        intro oo H;have H':=am H;clear H
        try go_wp2
        have bP:=kz (((((w8.setCell ⟨cZ,0,none⟩ (.int .i64 ((ai ah aA).f0))).setCell ⟨cZ,1,none⟩ (.string ((ai ah aA).f1))).setCell ⟨cZ,2,none⟩ (.int .i64 ((ai ah aA).f2))).setCell ⟨cZ,3,none⟩ (.int .i64 ((ai ah aA).f3))).setCell ⟨cZ,4,none⟩ (.string ((ai ah aA).f4))) bf;have bQ:af (ax w (((((w8.setCell ⟨cZ,0,none⟩ (.int .i64 ((ai ah aA).f0))).setCell ⟨cZ,1,none⟩ (.string ((ai ah aA).f1))).setCell ⟨cZ,2,none⟩ (.int .i64 ((ai ah aA).f2))).setCell ⟨cZ,3,none⟩ (.int .i64 ((ai ah aA).f3))).setCell ⟨cZ,4,none⟩ (.string ((ai ah aA).f4))) cZ ((ai ah aA).f0) ((ai ah aA).f1) ((ai ah aA).f2) ((ai ah aA).f3) ((ai ah aA).f4)):=⟨by repeat (first|(with_reducible first|exact bX.out|apply ax.alloc|apply ax.drewN|apply ax.drew|apply ax.qC|apply ax.qD|apply ax.qE|apply ax.qF|apply ax.qG|refine ax.far ?_ zq.out _)|exact bX.out)⟩;have bU:af (Below w.heap.size w (((((w8.setCell ⟨cZ,0,none⟩ (.int .i64 ((ai ah aA).f0))).setCell ⟨cZ,1,none⟩ (.string ((ai ah aA).f1))).setCell ⟨cZ,2,none⟩ (.int .i64 ((ai ah aA).f2))).setCell ⟨cZ,3,none⟩ (.int .i64 ((ai ah aA).f3))).setCell ⟨cZ,4,none⟩ (.string ((ai ah aA).f4)))):=⟨by repeat (first|(with_reducible first|exact HB.out|apply jK|apply jc|apply cO|refine eD ?_ (ax.ge bX.out)|refine eD ?_ wZ.out)|exact HB.out)⟩;(try clear bf);(try clear bX);(try clear HB)
        generalize (((((w8.setCell ⟨cZ,0,none⟩ (.int .i64 ((ai ah aA).f0))).setCell ⟨cZ,1,none⟩ (.string ((ai ah aA).f1))).setCell ⟨cZ,2,none⟩ (.int .i64 ((ai ah aA).f2))).setCell ⟨cZ,3,none⟩ (.int .i64 ((ai ah aA).f3))).setCell ⟨cZ,4,none⟩ (.string ((ai ah aA).f4)))=xY at bP bQ bU ⊢
        have bf:=bP;have bX:=bQ;have HB:=bU;clear bP bQ bU;replace bf:=am (bg bf.out);replace bX:=am (ax.drew bX.out);replace HB:=am (cO HB.out);obtain ⟨p40,q40,apO,e40,WS,WT,WU,WV,WW⟩:=wi (rM lW.out (yH));have abV:=WW;have abU:=WV;have abT:=WU;have abS:=WT;have abR:=WS;obtain rfl:sO=apO:=(by injection e40);replace WS:=cb HB WS;replace WT:=cb HB WT;replace WU:=cb HB WU;replace WV:=cb HB WV;replace WW:=cb HB WW;refine M0 (n:=25) (S:=fun w'=>XE w' uW (.int .i64 ag) (.string aj) (.string ak) (.int .i64 aD) (.slice bY ay.length bW) (.slice (some sO) ah.length bR) (awi w' cZ (.int .i64 ((ai ah aA).f0)) (.string ((ai ah aA).f1)) (.int .i64 ((ai ah aA).f2)) (.int .i64 ((ai ah aA).f3)) (.string ((ai ah aA).f4)) (qe5 w' (sO.add (((yH)).toNat * 5)) (.int .i64 ((ai ah (yH)).f0)) (.string ((ai ah (yH)).f1)) (.int .i64 ((ai ah (yH)).f2)) (.int .i64 ((ai ah (yH)).f3)) (.string ((ai ah (yH)).f4))))) (ds:=[]) _ (by kernel_rfl) rfl rfl (Dx bf ⟨(by obtain ⟨hb_,_⟩:=bX.out;exact (zC hb_).trans rfl),(by obtain ⟨hb_,_⟩:=bX.out;exact (zD hb_).trans rfl),(by obtain ⟨hb_,_⟩:=bX.out;exact (zF hb_).trans rfl),(by obtain ⟨hb_,_⟩:=bX.out;exact (zG hb_).trans rfl),(by obtain ⟨hb_,_⟩:=bX.out;exact (zH hb_).trans rfl),((cb HB abR).trans rfl),((cb HB abS).trans rfl),((cb HB abT).trans rfl),((cb HB abU).trans rfl),((cb HB abV).trans rfl)⟩) (fun hHeld=>?_);refine gq iN.yV iN.ym (fun HT_ HW_=>?_)
        generalize xY.drew=pG at bf bX HB WS WT WU WV WW hHeld ⊢
        refine bV 0 ?_;refine ta 1 ?_;refine oA 2 15 HT_ (fun K hK=>?_);refine gA Tryz.func89 #[.int .i64 ag] ?_;(with_reducible refine (Bp.calls ag true _ qb.out).mono ?_);rintro e w' ⟨rfl,⟨nd,rfl⟩⟩;refine ⟨_,rfl,?_⟩;refine hK.out _ _ (Dx bf ⟨(by obtain ⟨hb_,_⟩:=bX.out;exact (zC hb_).trans rfl),(by obtain ⟨hb_,_⟩:=bX.out;exact (zD hb_).trans rfl),(by obtain ⟨hb_,_⟩:=bX.out;exact (zF hb_).trans rfl),(by obtain ⟨hb_,_⟩:=bX.out;exact (zG hb_).trans rfl),(by obtain ⟨hb_,_⟩:=bX.out;exact (zH hb_).trans rfl),((cb HB abR).trans rfl),((cb HB abS).trans rfl),((cb HB abT).trans rfl),((cb HB abU).trans rfl),((cb HB abV).trans rfl)⟩) (fun hHeld=>?_);clear hK K;refine nA 15 ?_;refine jm 3 ?_;refine ta 5 ?_;refine oA 6 19 HT_ (fun K hK=>?_);refine gA Tryz.func41 #[.int .i64 ((ai ah aA).f0),.int .i64 1,.int .i64 999] ?_;(with_reducible refine (kY.calls ((ai ah aA).f0) 1 999 true _ vQ.out).mono ?_);rintro e w' ⟨rfl,⟨nd,rfl⟩⟩;refine ⟨_,rfl,?_⟩;refine hK.out _ _ (Dx bf ⟨(by obtain ⟨hb_,_⟩:=bX.out;exact (zC hb_).trans rfl),(by obtain ⟨hb_,_⟩:=bX.out;exact (zD hb_).trans rfl),(by obtain ⟨hb_,_⟩:=bX.out;exact (zF hb_).trans rfl),(by obtain ⟨hb_,_⟩:=bX.out;exact (zG hb_).trans rfl),(by obtain ⟨hb_,_⟩:=bX.out;exact (zH hb_).trans rfl),((cb HB abR).trans rfl),((cb HB abS).trans rfl),((cb HB abT).trans rfl),((cb HB abU).trans rfl),((cb HB abV).trans rfl)⟩) (fun hHeld=>?_);clear hK K;refine nA 19 ?_;refine jF 7 ?_;refine jm 11 ?_;refine bV 14 ?_;refine jm 16 ?_;refine ta 13 ?_;refine ta 15 ?_;refine jm 18 ?_;refine ta 20 ?_;refine jF 21 ?_;refine fq (gp HT_.out (by kernel_rfl)) ?_
        try go_wp2
        go_meet
        case rel=>exact ⟨_,(decide (((ai ah aA).f0)≤((ai ah (yH)).f0))),(by first|rfl|(simp;done)|(simp only [← Lr] <;> (first|rfl|simp))|(simp [*];done)),H',⟨by have:=aU.out;first|omega|exact Nat.le_refl _⟩,⟨ks bf⟩,⟨by repeat (first|(with_reducible first|exact bX.out|apply ax.alloc|apply ax.drewN|apply ax.drew|apply ax.qC|apply ax.qD|apply ax.qE|apply ax.qF|apply ax.qG|refine ax.far ?_ zq.out _)|exact bX.out)⟩,⟨by repeat (first|(with_reducible first|exact HB.out|apply jK|apply jc|apply cO|refine eD ?_ (ax.ge bX.out)|refine eD ?_ wZ.out)|exact HB.out)⟩⟩
       ·intro c14 H;have oU:decide (0<aA)=false:=decide_eq_false c14;clear c14
        (first|rw [oU]|(simp only [fu,gy];rw [oU])|skip)
        have H':=am H;clear H
        try go_wp2
        have bP:=kz (((((w8.setCell ⟨cZ,0,none⟩ (.int .i64 ((ai ah aA).f0))).setCell ⟨cZ,1,none⟩ (.string ((ai ah aA).f1))).setCell ⟨cZ,2,none⟩ (.int .i64 ((ai ah aA).f2))).setCell ⟨cZ,3,none⟩ (.int .i64 ((ai ah aA).f3))).setCell ⟨cZ,4,none⟩ (.string ((ai ah aA).f4))) bf;have bQ:af (ax w (((((w8.setCell ⟨cZ,0,none⟩ (.int .i64 ((ai ah aA).f0))).setCell ⟨cZ,1,none⟩ (.string ((ai ah aA).f1))).setCell ⟨cZ,2,none⟩ (.int .i64 ((ai ah aA).f2))).setCell ⟨cZ,3,none⟩ (.int .i64 ((ai ah aA).f3))).setCell ⟨cZ,4,none⟩ (.string ((ai ah aA).f4))) cZ ((ai ah aA).f0) ((ai ah aA).f1) ((ai ah aA).f2) ((ai ah aA).f3) ((ai ah aA).f4)):=⟨by repeat (first|(with_reducible first|exact bX.out|apply ax.alloc|apply ax.drewN|apply ax.drew|apply ax.qC|apply ax.qD|apply ax.qE|apply ax.qF|apply ax.qG|refine ax.far ?_ zq.out _)|exact bX.out)⟩;have bU:af (Below w.heap.size w (((((w8.setCell ⟨cZ,0,none⟩ (.int .i64 ((ai ah aA).f0))).setCell ⟨cZ,1,none⟩ (.string ((ai ah aA).f1))).setCell ⟨cZ,2,none⟩ (.int .i64 ((ai ah aA).f2))).setCell ⟨cZ,3,none⟩ (.int .i64 ((ai ah aA).f3))).setCell ⟨cZ,4,none⟩ (.string ((ai ah aA).f4)))):=⟨by repeat (first|(with_reducible first|exact HB.out|apply jK|apply jc|apply cO|refine eD ?_ (ax.ge bX.out)|refine eD ?_ wZ.out)|exact HB.out)⟩;(try clear bf);(try clear bX);(try clear HB)
        generalize (((((w8.setCell ⟨cZ,0,none⟩ (.int .i64 ((ai ah aA).f0))).setCell ⟨cZ,1,none⟩ (.string ((ai ah aA).f1))).setCell ⟨cZ,2,none⟩ (.int .i64 ((ai ah aA).f2))).setCell ⟨cZ,3,none⟩ (.int .i64 ((ai ah aA).f3))).setCell ⟨cZ,4,none⟩ (.string ((ai ah aA).f4)))=BM at bP bQ bU ⊢
        have bf:=bP;have bX:=bQ;have HB:=bU;clear bP bQ bU;replace bf:=am (bg bf.out);replace bX:=am (ax.drew bX.out);replace HB:=am (cO HB.out);refine M0 (n:=25) (S:=fun w'=>XE w' uW (.int .i64 ag) (.string aj) (.string ak) (.int .i64 aD) (.slice bY ay.length bW) (.slice (some sO) ah.length bR) (qk5 w' cZ (.int .i64 ((ai ah aA).f0)) (.string ((ai ah aA).f1)) (.int .i64 ((ai ah aA).f2)) (.int .i64 ((ai ah aA).f3)) (.string ((ai ah aA).f4)))) (ds:=[]) _ (by kernel_rfl) rfl rfl (Dx bf ⟨(by obtain ⟨hb_,_⟩:=bX.out;exact (zC hb_).trans rfl),(by obtain ⟨hb_,_⟩:=bX.out;exact (zD hb_).trans rfl),(by obtain ⟨hb_,_⟩:=bX.out;exact (zF hb_).trans rfl),(by obtain ⟨hb_,_⟩:=bX.out;exact (zG hb_).trans rfl),(by obtain ⟨hb_,_⟩:=bX.out;exact (zH hb_).trans rfl)⟩) (fun hHeld=>?_);refine gq iN.yV iN.ym (fun HT_ HW_=>?_)
        generalize BM.drew=Ah at bf bX HB hHeld ⊢
        refine bV 0 ?_;refine ta 1 ?_;refine oA 2 15 HT_ (fun K hK=>?_);refine gA Tryz.func89 #[.int .i64 ag] ?_;(with_reducible refine (Bp.calls ag true _ qb.out).mono ?_);rintro e w' ⟨rfl,⟨nd,rfl⟩⟩;refine ⟨_,rfl,?_⟩;refine hK.out _ _ (Dx bf ⟨(by obtain ⟨hb_,_⟩:=bX.out;exact (zC hb_).trans rfl),(by obtain ⟨hb_,_⟩:=bX.out;exact (zD hb_).trans rfl),(by obtain ⟨hb_,_⟩:=bX.out;exact (zF hb_).trans rfl),(by obtain ⟨hb_,_⟩:=bX.out;exact (zG hb_).trans rfl),(by obtain ⟨hb_,_⟩:=bX.out;exact (zH hb_).trans rfl)⟩) (fun hHeld=>?_);clear hK K;refine nA 15 ?_;refine jm 3 ?_;refine ta 5 ?_;refine oA 6 19 HT_ (fun K hK=>?_);refine gA Tryz.func41 #[.int .i64 ((ai ah aA).f0),.int .i64 1,.int .i64 999] ?_;(with_reducible refine (kY.calls ((ai ah aA).f0) 1 999 true _ vQ.out).mono ?_);rintro e w' ⟨rfl,⟨nd,rfl⟩⟩;refine ⟨_,rfl,?_⟩;refine hK.out _ _ (Dx bf ⟨(by obtain ⟨hb_,_⟩:=bX.out;exact (zC hb_).trans rfl),(by obtain ⟨hb_,_⟩:=bX.out;exact (zD hb_).trans rfl),(by obtain ⟨hb_,_⟩:=bX.out;exact (zF hb_).trans rfl),(by obtain ⟨hb_,_⟩:=bX.out;exact (zG hb_).trans rfl),(by obtain ⟨hb_,_⟩:=bX.out;exact (zH hb_).trans rfl)⟩) (fun hHeld=>?_);clear hK K;refine nA 19 ?_;refine lH 7 ?_;refine lH 15 ?_;refine jm 23 ?_;refine fq (gp HT_.out (by kernel_rfl)) ?_
        try go_wp2
        go_meet
        case rel=>exact ⟨_,(false),fg,H',⟨by have:=aU.out;first|omega|exact Nat.le_refl _⟩,⟨ks bf⟩,⟨by repeat (first|(with_reducible first|exact bX.out|apply ax.alloc|apply ax.drewN|apply ax.drew|apply ax.qC|apply ax.qD|apply ax.qE|apply ax.qF|apply ax.qG|refine ax.far ?_ zq.out _)|exact bX.out)⟩,⟨by repeat (first|(with_reducible first|exact HB.out|apply jK|apply jc|apply cO|refine eD ?_ (ax.ge bX.out)|refine eD ?_ wZ.out)|exact HB.out)⟩⟩
      ·replace H:=dD H;have H':=am H;clear H
       try go_wp2
       have bP:=kz (((((w8.setCell ⟨cZ,0,none⟩ (.int .i64 ((ai ah aA).f0))).setCell ⟨cZ,1,none⟩ (.string ((ai ah aA).f1))).setCell ⟨cZ,2,none⟩ (.int .i64 ((ai ah aA).f2))).setCell ⟨cZ,3,none⟩ (.int .i64 ((ai ah aA).f3))).setCell ⟨cZ,4,none⟩ (.string ((ai ah aA).f4))) bf;have bQ:af (ax w (((((w8.setCell ⟨cZ,0,none⟩ (.int .i64 ((ai ah aA).f0))).setCell ⟨cZ,1,none⟩ (.string ((ai ah aA).f1))).setCell ⟨cZ,2,none⟩ (.int .i64 ((ai ah aA).f2))).setCell ⟨cZ,3,none⟩ (.int .i64 ((ai ah aA).f3))).setCell ⟨cZ,4,none⟩ (.string ((ai ah aA).f4))) cZ ((ai ah aA).f0) ((ai ah aA).f1) ((ai ah aA).f2) ((ai ah aA).f3) ((ai ah aA).f4)):=⟨by repeat (first|(with_reducible first|exact bX.out|apply ax.alloc|apply ax.drewN|apply ax.drew|apply ax.qC|apply ax.qD|apply ax.qE|apply ax.qF|apply ax.qG|refine ax.far ?_ zq.out _)|exact bX.out)⟩;have bU:af (Below w.heap.size w (((((w8.setCell ⟨cZ,0,none⟩ (.int .i64 ((ai ah aA).f0))).setCell ⟨cZ,1,none⟩ (.string ((ai ah aA).f1))).setCell ⟨cZ,2,none⟩ (.int .i64 ((ai ah aA).f2))).setCell ⟨cZ,3,none⟩ (.int .i64 ((ai ah aA).f3))).setCell ⟨cZ,4,none⟩ (.string ((ai ah aA).f4)))):=⟨by repeat (first|(with_reducible first|exact HB.out|apply jK|apply jc|apply cO|refine eD ?_ (ax.ge bX.out)|refine eD ?_ wZ.out)|exact HB.out)⟩;(try clear bf);(try clear bX);(try clear HB)
       generalize (((((w8.setCell ⟨cZ,0,none⟩ (.int .i64 ((ai ah aA).f0))).setCell ⟨cZ,1,none⟩ (.string ((ai ah aA).f1))).setCell ⟨cZ,2,none⟩ (.int .i64 ((ai ah aA).f2))).setCell ⟨cZ,3,none⟩ (.int .i64 ((ai ah aA).f3))).setCell ⟨cZ,4,none⟩ (.string ((ai ah aA).f4)))=JO at bP bQ bU ⊢
       have bf:=bP;have bX:=bQ;have HB:=bU;clear bP bQ bU;replace bf:=am (bg bf.out);replace bX:=am (ax.drew bX.out);replace HB:=am (cO HB.out);refine M0 (n:=25) (S:=fun w'=>XE w' uW (.int .i64 ag) (.string aj) (.string ak) (.int .i64 aD) (.slice bY ay.length bW) (.slice (some sO) ah.length bR) (qk5 w' cZ (.int .i64 ((ai ah aA).f0)) (.string ((ai ah aA).f1)) (.int .i64 ((ai ah aA).f2)) (.int .i64 ((ai ah aA).f3)) (.string ((ai ah aA).f4)))) (ds:=[]) _ (by kernel_rfl) rfl rfl (Dx bf ⟨(by obtain ⟨hb_,_⟩:=bX.out;exact (zC hb_).trans rfl),(by obtain ⟨hb_,_⟩:=bX.out;exact (zD hb_).trans rfl),(by obtain ⟨hb_,_⟩:=bX.out;exact (zF hb_).trans rfl),(by obtain ⟨hb_,_⟩:=bX.out;exact (zG hb_).trans rfl),(by obtain ⟨hb_,_⟩:=bX.out;exact (zH hb_).trans rfl)⟩) (fun hHeld=>?_);refine gq iN.yV iN.ym (fun HT_ HW_=>?_)
       generalize JO.drew=tH at bf bX HB hHeld ⊢
       refine bV 0 ?_;refine ta 1 ?_;refine oA 2 15 HT_ (fun K hK=>?_);refine gA Tryz.func89 #[.int .i64 ag] ?_;(with_reducible refine (Bp.calls ag true _ qb.out).mono ?_);rintro e w' ⟨rfl,⟨nd,rfl⟩⟩;refine ⟨_,rfl,?_⟩;refine hK.out _ _ (Dx bf ⟨(by obtain ⟨hb_,_⟩:=bX.out;exact (zC hb_).trans rfl),(by obtain ⟨hb_,_⟩:=bX.out;exact (zD hb_).trans rfl),(by obtain ⟨hb_,_⟩:=bX.out;exact (zF hb_).trans rfl),(by obtain ⟨hb_,_⟩:=bX.out;exact (zG hb_).trans rfl),(by obtain ⟨hb_,_⟩:=bX.out;exact (zH hb_).trans rfl)⟩) (fun hHeld=>?_);clear hK K;refine nA 15 ?_;refine jm 3 ?_;refine ta 5 ?_;refine oA 6 19 HT_ (fun K hK=>?_);refine gA Tryz.func41 #[.int .i64 ((ai ah aA).f0),.int .i64 1,.int .i64 999] ?_;(with_reducible refine (kY.calls ((ai ah aA).f0) 1 999 false _ vQ.out).mono ?_);rintro e w' ⟨rfl,⟨nd,rfl⟩⟩;refine ⟨_,rfl,?_⟩;refine hK.out _ _ (Dx bf ⟨(by obtain ⟨hb_,_⟩:=bX.out;exact (zC hb_).trans rfl),(by obtain ⟨hb_,_⟩:=bX.out;exact (zD hb_).trans rfl),(by obtain ⟨hb_,_⟩:=bX.out;exact (zF hb_).trans rfl),(by obtain ⟨hb_,_⟩:=bX.out;exact (zG hb_).trans rfl),(by obtain ⟨hb_,_⟩:=bX.out;exact (zH hb_).trans rfl)⟩) (fun hHeld=>?_);clear hK K;refine nA 19 ?_;refine lH 7 ?_;refine lH 15 ?_;refine jm 23 ?_;refine fq (gp HT_.out (by kernel_rfl)) ?_
       try go_wp2
       go_meet
       case rel=>exact ⟨_,(true),fg,H',⟨by have:=aU.out;first|omega|exact Nat.le_refl _⟩,⟨ks bf⟩,⟨by repeat (first|(with_reducible first|exact bX.out|apply ax.alloc|apply ax.drewN|apply ax.drew|apply ax.qC|apply ax.qD|apply ax.qE|apply ax.qF|apply ax.qG|refine ax.far ?_ zq.out _)|exact bX.out)⟩,⟨by repeat (first|(with_reducible first|exact HB.out|apply jK|apply jc|apply cO|refine eD ?_ (ax.ge bX.out)|refine eD ?_ wZ.out)|exact HB.out)⟩⟩
     ·replace H:=dD H;have H':=am H;clear H
      try go_wp2
      have bP:=kz (((((w8.setCell ⟨cZ,0,none⟩ (.int .i64 ((ai ah aA).f0))).setCell ⟨cZ,1,none⟩ (.string ((ai ah aA).f1))).setCell ⟨cZ,2,none⟩ (.int .i64 ((ai ah aA).f2))).setCell ⟨cZ,3,none⟩ (.int .i64 ((ai ah aA).f3))).setCell ⟨cZ,4,none⟩ (.string ((ai ah aA).f4))) bf;have bQ:af (ax w (((((w8.setCell ⟨cZ,0,none⟩ (.int .i64 ((ai ah aA).f0))).setCell ⟨cZ,1,none⟩ (.string ((ai ah aA).f1))).setCell ⟨cZ,2,none⟩ (.int .i64 ((ai ah aA).f2))).setCell ⟨cZ,3,none⟩ (.int .i64 ((ai ah aA).f3))).setCell ⟨cZ,4,none⟩ (.string ((ai ah aA).f4))) cZ ((ai ah aA).f0) ((ai ah aA).f1) ((ai ah aA).f2) ((ai ah aA).f3) ((ai ah aA).f4)):=⟨by repeat (first|(with_reducible first|exact bX.out|apply ax.alloc|apply ax.drewN|apply ax.drew|apply ax.qC|apply ax.qD|apply ax.qE|apply ax.qF|apply ax.qG|refine ax.far ?_ zq.out _)|exact bX.out)⟩;have bU:af (Below w.heap.size w (((((w8.setCell ⟨cZ,0,none⟩ (.int .i64 ((ai ah aA).f0))).setCell ⟨cZ,1,none⟩ (.string ((ai ah aA).f1))).setCell ⟨cZ,2,none⟩ (.int .i64 ((ai ah aA).f2))).setCell ⟨cZ,3,none⟩ (.int .i64 ((ai ah aA).f3))).setCell ⟨cZ,4,none⟩ (.string ((ai ah aA).f4)))):=⟨by repeat (first|(with_reducible first|exact HB.out|apply jK|apply jc|apply cO|refine eD ?_ (ax.ge bX.out)|refine eD ?_ wZ.out)|exact HB.out)⟩;(try clear bf);(try clear bX);(try clear HB)
      generalize (((((w8.setCell ⟨cZ,0,none⟩ (.int .i64 ((ai ah aA).f0))).setCell ⟨cZ,1,none⟩ (.string ((ai ah aA).f1))).setCell ⟨cZ,2,none⟩ (.int .i64 ((ai ah aA).f2))).setCell ⟨cZ,3,none⟩ (.int .i64 ((ai ah aA).f3))).setCell ⟨cZ,4,none⟩ (.string ((ai ah aA).f4)))=JP at bP bQ bU ⊢
      have bf:=bP;have bX:=bQ;have HB:=bU;clear bP bQ bU;replace bf:=am (bg bf.out);replace bX:=am (ax.drew bX.out);replace HB:=am (cO HB.out);refine il 25 (hb6 bf) (fun hHeld=>?_);refine gq iN.yV iN.ym (fun HT_ HW_=>?_)
      generalize JP.drew=Nb at bf bX HB hHeld ⊢
      refine bV 0 ?_;refine ta 1 ?_;refine oA 2 15 HT_ (fun K hK=>?_);refine gA Tryz.func89 #[.int .i64 ag] ?_;(with_reducible refine (Bp.calls ag false _ qb.out).mono ?_);rintro e w' ⟨rfl,⟨nd,rfl⟩⟩;refine ⟨_,rfl,?_⟩;refine hK.out _ _ (hb6 bf).out (fun hHeld=>?_);clear hK K;refine nA 15 ?_;refine lH 3 ?_;refine lH 11 ?_;refine jF 19 ?_;refine jm 23 ?_;refine fq (gp HT_.out (by kernel_rfl)) ?_
      try go_wp2
      go_meet
      case rel=>exact ⟨_,(false),fg,H',⟨by have:=aU.out;first|omega|exact Nat.le_refl _⟩,⟨ks bf⟩,⟨by repeat (first|(with_reducible first|exact bX.out|apply ax.alloc|apply ax.drewN|apply ax.drew|apply ax.qC|apply ax.qD|apply ax.qE|apply ax.qF|apply ax.qG|refine ax.far ?_ zq.out _)|exact bX.out)⟩,⟨by repeat (first|(with_reducible first|exact HB.out|apply jK|apply jc|apply cO|refine eD ?_ (ax.ge bX.out)|refine eD ?_ wZ.out)|exact HB.out)⟩⟩
    case rest =>
     clear Gs
     obtain ⟨kq,Yn,rfl,HA,Ck,bf,bX,HB⟩:=hcut
     cases kq with
     | zero=>exact absurd HA.out (by simp [iN.j1])
     | succ Bu =>
      have H:=HA.out;clear HA;simp only [iN.j1] at H
      obtain rfl|rfl:=bt Yn
      ·replace H:=dE H;obtain rfl:=si H
       go_wp2
       go_ret
       exact ⟨ff,by repeat (first|(with_reducible first|exact HB.out|apply jK|apply jc|apply cO|refine eD ?_ (ax.ge bX.out)|refine eD ?_ wZ.out)|exact HB.out)⟩
      ·replace H:=dD H;replace H:=bo H;obtain ⟨t48,A27,H⟩:=H;have QO:=aab.out;have QQ:=zq.out;have Ih:=dC bf
       try go_wp2_with (fail)
       go_at_call 90;(with_reducible refine (IP.calls ag t48 _ A27.out).mono ?_);rintro e w' ⟨rfl,⟨nd,rfl⟩⟩
       obtain rfl|rfl:=bt t48
       ·replace H:=dE H
        revert H;refine jE ?_
        intro c31 H;have agS:=eq_true c31;have aqG:decide (0≤aA)=true:=decide_eq_true c31;clear c31
        revert H;refine jE ?_
        intro c32 H;have Pb:=eq_true c32;have VL:decide (aA≤(ah.length:Int))=true:=decide_eq_true c32;clear c32;obtain ⟨YC,acm⟩:∃ y_:List (aY),y_=(ah.take (aA:Int).toNat):=⟨_,rfl⟩
        replace H:((Fw.f Bu YC ((ai ah aA).f0) ((ai ah aA).f1) ((ai ah aA).f2) ((ai ah aA).f3) ((ai ah aA).f4)).bind fun aaz=>(if aaz.1=true then (some aA) else (iN.l0 Bu ah (ah.length:Int) (wrap64 (aA+1)) ag aj ak aD ay ah)))=some r:=ye acm H
        have afH:=am acm;clear acm;replace H:=bo H;obtain ⟨⟨t49,t53,t54,t55,t56,t57⟩,NV,H⟩:=H;(try dsimp only at H);have abG:=aab.out;have abK:=zq.out;have Wq:=dC bf;have q36:(aA:Int)≤((ah.length:Int):Int):=oa;obtain ⟨aIb,aif,_,auw,_⟩:=info_parts Xg;have ajA:ah.length≤bR:=oM.out;have ahG:Kd.C iR _ (some sO) ah.length ah:=lW.out;have asT:=ary (P:=Tryz.prog) 43 95 .i64 Tryz.underlying43 aif (some sO) ah.length bR aA (oa) q36 ajA;have abM:=Kd.amF (m:=(aA:Int).toNat) ahG (by omega);have acj:YC.length=(aA:Int).toNat:=(by rw [afH.out,List.length_take];omega)
        rw [← afH.out] at abM
        rw [← acj] at asT
        have an4:=am abM;have ane:=am (show YC.length≤bR from by omega);clear abM ahG ajA aif auw;have aAG:=am acj;clear acj;replace q36:=eq_true q36
        try go_wp2_with (fail)
        go_at_call 91;(with_reducible refine (Fw.calls Bu _ _ YC cZ ((ai ah aA).f0) ((ai ah aA).f1) ((ai ah aA).f2) ((ai ah aA).f3) ((ai ah aA).f4) t49 t53 t54 t55 t56 t57 w _ ?aI ?aW ?lh ane.out NV.out).mono ?_);(case aI=>repeat (first|(with_reducible first|exact bX.out|apply ax.alloc|apply ax.drewN|apply ax.drew|apply ax.qC|apply ax.qD|apply ax.qE|apply ax.qF|apply ax.qG|refine ax.far ?_ zq.out _)|exact bX.out));(case aW=>repeat (first|(with_reducible first|exact HB.out|apply jK|apply jc|apply cO|refine eD ?_ (ax.ge bX.out)|refine eD ?_ wZ.out)|exact HB.out));(case lh=>exact Kd.amB ava an4.out (by repeat (first|(with_reducible first|exact HB.out|apply jK|apply jc|apply cO|refine eD ?_ (ax.ge bX.out)|refine eD ?_ wZ.out)|exact HB.out)) (ax.ge bX.out));rintro e Nf ⟨rfl,hi,hb,hk⟩;replace bf:=am (fT.blk hk (g':=uW) (o:=.cells #[.int .i64 ag,.string aj,.string ak,.int .i64 aD,.slice bY ay.length bW,.slice (some sO) ah.length bR] 45 (0,0)) (ks bf) aab.out (by simp));replace HB:=am (hb);replace bX:=am (hi);(try clear hb);(try clear hk);(try clear hi)
        obtain rfl|rfl:=bt t49
        ·replace H:=dE H;obtain rfl:=si H
         go_wp2
         go_ret
         exact ⟨ff,by repeat (first|(with_reducible first|exact HB.out|apply jK|apply jc|apply cO|refine eD ?_ (ax.ge bX.out)|refine eD ?_ wZ.out)|exact HB.out)⟩
        ·replace H:=dD H;have H':=am H;clear H
         go_wp2
         go_roundg Bu
         case measure=>have:=aU.out;have:=Ck.out;omega
         case rel=>exact ⟨(wrap64 (aA+1)),fg,H',⟨by have:=aU.out;have:=Ck.out;omega⟩,⟨ks bf⟩,⟨by repeat (first|(with_reducible first|exact HB.out|apply jK|apply jc|apply cO|refine eD ?_ (ax.ge bX.out)|refine eD ?_ wZ.out)|exact HB.out)⟩⟩
       ·replace H:=dD H;have H':=am H;clear H
        go_wp2
        go_roundg Bu
        case measure=>have:=aU.out;have:=Ck.out;omega
        case rel=>exact ⟨(wrap64 (aA+1)),fg,H',⟨by have:=aU.out;have:=Ck.out;omega⟩,⟨ks bf⟩,⟨by repeat (first|(with_reducible first|exact HB.out|apply jK|apply jc|apply cO|refine eD ?_ (ax.ge bX.out)|refine eD ?_ wZ.out)|exact HB.out)⟩⟩
   ·intro dS H;obtain rfl:=si H
    go_wp2
    go_ret
    exact ⟨ff,bs HB⟩
end Go.Proofs.YtapilmimgiaglaaGreatDoor.QA
