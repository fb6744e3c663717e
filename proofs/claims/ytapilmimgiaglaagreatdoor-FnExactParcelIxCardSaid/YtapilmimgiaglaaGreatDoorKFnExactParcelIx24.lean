import Derived.Deep.Slices
import Derived.ChangeArms
import Derived.WalkKit
import Derived.ProofKit
import Derived.OpenShut
import Derived.ShutString
import Derived.ChangeOld
import Derived.Below
import Derived.SizedLaws
import Derived.Test.YtapilmimgiaglaaGreatDoorKFnExactParcelIx23
set_option maxHeartbeats 8000000
set_option maxRecDepth 100000
set_option linter.unusedSimpArgs false
set_option linter.unusedVariables false
namespace Go.Proofs.YtapilmimgiaglaaGreatDoor.QX
open Go.RowKit Go.Proofs.bB.eH Go.Proofs.bB.PrintLast Go.Proofs.bB.PrintMore
attribute [local go_sem] oU o5 oZ o8 oW o7 oV o6
theorem wL.calls (k:Nat)(eQ:Nat→Prop)(je:Value)(l0:List iG)(a1 r1:Int)(r2:List iG)(w0 w:World)(hB:Below w0.heap.size w0 w)(ho0:Kd.S zD 73 w w0.heap.size eQ je l0)(h:wL.f k l0 a1=some (r1,r2)) :
  Calls Tryz.prog 57 #[je,.int .i64 a1] w fun e w'=>e=.returned (.int .i64 r1)∧Kd.S zD 73 w' w0.heap.size (fun k_=>(eQ k_∨w.heap.size≤k_)) je r2∧Below w0.heap.size w0 w'∧Kept w w' (fun k_=>eQ k_):=by
 have HO:=am (show Kd.S zD 73 w w0.heap.size (fun k_=>(eQ k_∨w.heap.size≤k_)) je l0 from Kd.eF ho0 (fun _ hk=>(.inl hk)));have HK:=am (Kept.refl w (fun k_=>eQ k_));have HB:=am hB;have H':=am (show wL.l0 k l0 a1 0=some (r1,r2) from h);clear hB h
 go_in
 go_wp2
 go_loopg [1,5] k (fun kq v1 v5 w'=>∃ (x0:List iG) (x1:Int) (x5:Int),v1=.int .i64 x1∧v5=.int .i64 x5∧af (wL.l0 kq x0 x1 x5=some (r1,r2))∧af (kq≤k)∧af (Kd.S zD 73 w' w0.heap.size (fun k_=>(eQ k_∨w.heap.size≤k_)) je x0)∧af (Kept w w' (fun k_=>eQ k_))∧af (Below w0.heap.size w0 w'))
 case atStart=>exact ⟨l0,a1,0,rfl,rfl,H',⟨Nat.le_refl _⟩,HO,HK,HB⟩
 case round =>
  clear H';obtain ⟨x0,x1,x5,rfl,rfl,HA,aQ,HO,HK,HB⟩:=hrel
  cases gk with
  | zero=>exact absurd HA.o (by simp [wL.l0])
  | succ k1 =>
   have H:=HA.o;clear HA;simp only [wL.l0] at H
   revert H;refine bK ?_ ?_
   ·intro c3 H;revert H;refine bv ?_;intro c5 H;replace H:=bo H;obtain ⟨⟨s0,q0⟩,QT,H⟩:=H;dsimp only at H;have H':=am H;clear H;obtain ⟨g,cap,oki,c,eo,hM,hG,hL⟩:=UY z73 x5 HO.o HB.o HK.o oa oa;subst eo;replace hM:=(show Kd.M zD _ _ oki (fJ x0 x5) c from hM);obtain ⟨v90,e9,hR0⟩:=id hM;subst e9;obtain ⟨Jw,Sz,e9⟩:=Kd.ji hR0;subst e9;have bG:=am hR0;clear hR0;have HL:=am hL;have HG:=am hG;clear hL hM hG HO HK HB;have p3:=eq_true (show x5<(x0.length:Int) from oa);have p5:=eq_true (show 0≤(x5:Int) from oa);obtain ⟨hx,hf⟩:=HL.o.nz 2 rfl rfl
    go_wp2_with (first|((with_reducible refine oJ (t:=2) (p:=16) rfl ?_);refine pg (t:=2) (p:=16) (v:=?vo0) (w1:=(wr.setCell ⟨g,(x5:Int).toNat * 2,none⟩ (.int .i64 x1))) ?hg ?ho ?hn ?hr ?_;(case ho=>rfl);(case hg=>rfl);(case hn=>rfl);(case hr=>first|(go_simp;done)|(go_simp;rfl));intro Jd hw;replace bG:=am (show Kd.S oO 62 Jd w0.heap.size oki _ _ from by rw [hw];exact Kd.jv (p:=⟨g,(x5:Int).toNat * 2,none⟩) bG.o (fun k_ q_=>HG.o k_ q_) _);replace HL:=am (HL.o.put 0 (.int .i64 x1) (by decide) rfl hw);clear hw;clear hx hf;obtain ⟨hz,hx,hf⟩:=HL.o.nx 2 1 rfl rfl rfl)|((go_at_call 102;(refine (wM.calls k1 oki (.slice Jw (fJ x0 x5).f1.length Sz) (fJ x0 x5).f1 (wrap64 (x1+1)) s0 q0 w0 _ HL.o.hB bG.o QT.o).mono ?_);rintro e uj ⟨rfl,hR2,hb2,hk2⟩);replace HL:=am (HL.o.call hk2 hb2);clear bG;have bG:=am hR2;clear hR2 hk2 hb2;clear hx hf hz))
    go_roundg k1
    case measure=>have:=aQ.o;omega
    case rel=>exact ⟨_,_,_,rfl,rfl,H',⟨by have:=aQ.o;omega⟩,⟨HL.o.R4 (⟨x1,q0⟩:iG) ⟨_,rfl,bG.o⟩⟩,⟨HL.o.hK⟩,⟨HL.o.hB⟩⟩
   ·intro c3 H;obtain ⟨rfl,rfl⟩:=Prod.mk.inj (Option.some.inj H);obtain ⟨Ao,co,eo⟩:=Kd.ji HO.o;subst eo
    go_wp2
    go_ret
    exact ⟨rfl,HO.o,HB.o,HK.o⟩
theorem vI.calls (k:Nat)(eQ:Nat→Prop)(je:Value)(l0:List dR)(a1 r1:Int)(r2:List dR)(w0 w:World)(hB:Below w0.heap.size w0 w)(ho0:Kd.S oP 71 w w0.heap.size eQ je l0)(h:vI.f k l0 a1=some (r1,r2)) :
  Calls Tryz.prog 29 #[je,.int .i64 a1] w fun e w'=>e=.returned (.int .i64 r1)∧Kd.S oP 71 w' w0.heap.size (fun k_=>(eQ k_∨w.heap.size≤k_)) je r2∧Below w0.heap.size w0 w'∧Kept w w' (fun k_=>eQ k_):=by
 have HO:=am (show Kd.S oP 71 w w0.heap.size (fun k_=>(eQ k_∨w.heap.size≤k_)) je l0 from Kd.eF ho0 (fun _ hk=>(.inl hk)));have HK:=am (Kept.refl w (fun k_=>eQ k_));have HB:=am hB;have H':=am (show vI.l0 k l0 a1 0=some (r1,r2) from h);clear hB h
 go_in
 go_wp2
 go_loopg [1,5] k (fun kq v1 v5 w'=>∃ (x0:List dR) (x1:Int) (x5:Int),v1=.int .i64 x1∧v5=.int .i64 x5∧af (vI.l0 kq x0 x1 x5=some (r1,r2))∧af (kq≤k)∧af (Kd.S oP 71 w' w0.heap.size (fun k_=>(eQ k_∨w.heap.size≤k_)) je x0)∧af (Kept w w' (fun k_=>eQ k_))∧af (Below w0.heap.size w0 w'))
 case atStart=>exact ⟨l0,a1,0,rfl,rfl,H',⟨Nat.le_refl _⟩,HO,HK,HB⟩
 case round =>
  clear H';obtain ⟨x0,x1,x5,rfl,rfl,HA,aQ,HO,HK,HB⟩:=hrel
  cases gk with
  | zero=>exact absurd HA.o (by simp [vI.l0])
  | succ k1 =>
   have H:=HA.o;clear HA;simp only [vI.l0] at H
   revert H;refine bK ?_ ?_
   ·intro c3 H;revert H;refine bv ?_;intro c5 H;replace H:=bo H;obtain ⟨⟨s0,q0⟩,QT,H⟩:=H;dsimp only at H;have H':=am H;clear H;obtain ⟨g,cap,oki,c,eo,hM,hG,hL⟩:=UY z71 x5 HO.o HB.o HK.o oa oa;subst eo;replace hM:=(show Kd.M oP _ _ oki (bf x0 x5) c from hM);obtain ⟨v90,e9,hR0⟩:=id hM;subst e9;obtain ⟨Jw,Sz,e9⟩:=Kd.ji hR0;subst e9;have bG:=am hR0;clear hR0;have HL:=am hL;have HG:=am hG;clear hL hM hG HO HK HB;have p3:=eq_true (show x5<(x0.length:Int) from oa);have p5:=eq_true (show 0≤(x5:Int) from oa);obtain ⟨hx,hf⟩:=HL.o.nz 3 rfl rfl
    go_wp2_with (first|((with_reducible refine oJ (t:=2) (p:=16) rfl ?_);refine pg (t:=2) (p:=16) (v:=?vo0) (w1:=(wr.setCell ⟨g,(x5:Int).toNat * 3,none⟩ (.int .i64 x1))) ?hg ?ho ?hn ?hr ?_;(case ho=>rfl);(case hg=>rfl);(case hn=>rfl);(case hr=>first|(go_simp;done)|(go_simp;rfl));intro Jd hw;replace bG:=am (show Kd.S zD 73 Jd w0.heap.size oki _ _ from by rw [hw];exact Kd.jv (p:=⟨g,(x5:Int).toNat * 3,none⟩) bG.o (fun k_ q_=>HG.o k_ q_) _);replace HL:=am (HL.o.put 0 (.int .i64 x1) (by decide) rfl hw);clear hw;clear hx hf;obtain ⟨hz,hx,hf⟩:=HL.o.nx 3 1 rfl rfl rfl)|((with_reducible refine oJ (t:=2) (p:=23) rfl ?_);refine pg (t:=2) (p:=23) (v:=?vo1) (w1:=(Jd.setCell ⟨g,(x5:Int).toNat * 3+1,none⟩ (.int .i64 (wrap64 (x1+1))))) ?hg ?ho ?hn ?hr ?_;(case ho=>rfl);(case hg=>rfl);(case hn=>rfl);(case hr=>first|(go_simp;done)|(go_simp;rfl));intro Qb hw;replace bG:=am (show Kd.S zD 73 Qb w0.heap.size oki _ _ from by rw [hw];exact Kd.jv (p:=⟨g,(x5:Int).toNat * 3+1,none⟩) bG.o (fun k_ q_=>HG.o k_ q_) _);replace HL:=am (HL.o.put 1 (.int .i64 (wrap64 (x1+1))) (by decide) rfl hw);clear hw;clear hx hf hz;obtain ⟨hz,hx,hf⟩:=HL.o.nx 3 2 rfl rfl rfl)|((go_at_call 57;(refine (wL.calls k1 oki (.slice Jw (bf x0 x5).f2.length Sz) (bf x0 x5).f2 (wrap64 ((wrap64 (x1+1))+1)) s0 q0 w0 _ HL.o.hB bG.o QT.o).mono ?_);rintro e uj ⟨rfl,hR2,hb2,hk2⟩);replace HL:=am (HL.o.call hk2 hb2);clear bG;have bG:=am hR2;clear hR2 hk2 hb2;clear hx hf hz))
    go_roundg k1
    case measure=>have:=aQ.o;omega
    case rel=>exact ⟨_,_,_,rfl,rfl,H',⟨by have:=aQ.o;omega⟩,⟨HL.o.R4 (⟨x1,wrap64 (x1+1),q0⟩:dR) ⟨_,rfl,bG.o⟩⟩,⟨HL.o.hK⟩,⟨HL.o.hB⟩⟩
   ·intro c3 H;obtain ⟨rfl,rfl⟩:=Prod.mk.inj (Option.some.inj H);obtain ⟨Ao,co,eo⟩:=Kd.ji HO.o;subst eo
    go_wp2
    go_ret
    exact ⟨rfl,HO.o,HB.o,HK.o⟩
theorem ayq.calls (k:Nat)(eQ:Nat→Prop)(ag aj:ByteArray)(ak:Int)(je:Value)(l0:List dR)(a1 r1:Int)(r2:List dR)(w0 w:World)(hB:Below w0.heap.size w0 w)(ho0:Kd.S oP 71 w w0.heap.size eQ je l0)(h:vI.f k l0 a1=some (r1,r2)) :
  Calls Tryz.prog 14 #[.agg #[.string ag,.string aj,.int .i64 ak,je],.int .i64 a1] w fun e w'=>e=.returned (.int .i64 r1)∧Kd.S oP 71 w' w0.heap.size (fun k_=>(eQ k_∨w.heap.size≤k_)) je r2∧Below w0.heap.size w0 w'∧Kept w w' (fun k_=>eQ k_):=by
 have hu:=Tryz.underlying35;have HW:=am hB;have HB:=am (Below.refl w.heap.size w);have H:=am h;clear hB h;have HP:=am (Kd.eF (ok':=fun k_=>eQ k_∧k_<w.heap.size) (Kd.pQ ho0) (fun _ q=>⟨q.1,q.2.2.1⟩));obtain ⟨A,c,e⟩:=Kd.ji ho0;subst e;clear ho0
 go_in
 go_wp2_with (first|((with_reducible refine aJ (N:=2) rfl ?_);refine bx 2 (cs:=#[.string ag,.string aj,.int .i64 ak,.slice A l0.length c]) (t:=35) ?_;intro g hg wa hbox hb;have B:=am hbox;replace HP:=am (Kd.l6 HP.o hb);have HW2:=am (gP HW.o hb);have HK:=am (Kept.of_below hb (fun k_=>eQ k_));clear hb hbox hg HB;have z1:=aX B)|(go_at_call 29;refine (vI.calls k (fun k_=>eQ k_∧k_<w.heap.size) (.slice A l0.length c) l0 a1 r1 r2 w0 _ HW2.o HP.o H.o).mono ?_;rintro e wb ⟨rfl,ho,hb,hk⟩;clear z1 B;have HO:=am ho;have HQ:=am hb;have HZ:=am (show w.heap.size≤wa.heap.size from HK.o.1);replace HK:=am (HK.o.P9 hk (fun _ q=>.inl q.1));clear ho hb hk))
 go_ret
 exact ⟨rfl,Kd.eF HO.o (fun _ q=>q.elim (fun a=>.inl a.1) (fun a=>.inr (Nat.le_trans HZ.o a))),HQ.o,HK.o⟩
theorem wI.calls (k:Nat)(A0:Option Addr)(c0:Nat)(l0:List ByteArray)(a1 r:Int)(w:World)(hr0:Kd.C Kd.string w A0 l0.length l0)(hc0:l0.length≤c0)(H:wI.f k l0 a1=some r) :
  Calls Tryz.prog 145 #[.slice A0 l0.length c0,.int .i64 a1] w fun e w'=>e=.returned (.int .i64 r)∧Below w.heap.size w w':=by
 have bG:=am hr0;have jC:=am hc0;clear hr0 hc0;have HB:=am (Below.refl w.heap.size w);unfold wI.f at H;have H':=am H;clear H
 go_in
 go_wp2
 go_loopg [1,5] k (fun kq v1 v5 w'=>∃ (iP:Int) (ax:Int),v1=.int .i64 iP∧v5=.int .i64 ax∧af (wI.l0 kq l0 iP ax=some r)∧af (kq≤k)∧af (Below w.heap.size w w'))
 case atStart=>exact ⟨(a1),(0),fg,fg,H',⟨Nat.le_refl _⟩,⟨bs HB⟩⟩
 case round =>
  clear H'
  obtain ⟨iP,ax,rfl,rfl,HA,aQ,HB⟩:=hrel
  cases gk with
  | zero=>exact absurd HA.o (by simp [wI.l0])
  | succ k1 =>
   have H:=HA.o;clear HA;simp only [wI.l0] at H
   revert H;refine bK ?_ ?_
   ·intro aY H
    revert H;refine bv ?_
    intro dF H;replace H:=bo H;obtain ⟨mG,A5,H⟩:=H
    revert H;refine bH ?_ ?_
    ·intro gu nM H;have H':=am H;clear H
     try go_wp2
     replace HB:=am (cZ HB.o);obtain ⟨p11,q11,RQ,e11,xw⟩:=wi (Kd.jw bG.o ax);have U7:=xw
     cases e11
     replace xw:=cb HB xw;refine gD 7 (hc (cb HB U7)) (fun hHeld=>?_)
     generalize wr.drew=w7 at HB xw hHeld ⊢
     refine pu 0 12 #[true,false,false,false,false,false,false] ?_
     refine pu 1 13 #[true,true,false,false,false,false,false] ?_
     refine pu 2 14 #[true,true,true,false,false,false,false] ?_
     refine pu 4 16 #[true,true,true,false,true,false,false] ?_
     refine F7 (i:=3) (N:=some 15) (v:=?_) (a':=?_) #[true,true,true,true,true,false,false] rfl rfl (by kernel_rfl) (fun _ _ _ h=>h) (Or.inl ⟨by rfl,?_⟩) hHeld ?_ ?_
     rotate_left
     ·intro w' s0
      go_simp
      (with_reducible rfl)
     rotate_left
     ·simp only [Act.put,List.setIfInBounds_toArray,List.set_cons_zero,List.set_cons_succ,fC,gK]
      rfl
     refine o9 (i:=5) (N:=some 17) #[true,true,true,true,true,true,false] rfl rfl (by kernel_rfl) (by decide) (fun K hK=>?_);refine gA Tryz.func54 #[.int .i64 iP] ?_;(with_reducible refine (lu.calls k1 iP mG _ A5.o).mono ?_);rintro e w8 ⟨rfl,hb⟩;refine ⟨_,rfl,?_⟩;replace HB:=bq HB hb;(try clear hb);refine hK.out _ _ (hc (cb HB U7)).o (fun hHeld=>?_);clear hK K;refine nA 17 ?_;refine pu 6 18 #[true,true,true,true,true,true,true] ?_
     refine ek (by kernel_rfl) ?_
     try go_wp2
     go_roundg k1
     case measure=>have:=aQ.o;omega
     case rel=>exact ⟨(wrap64 (iP+1)),(wrap64 (ax+1)),fg,fg,H',⟨by have:=aQ.o;omega⟩,⟨bs HB⟩⟩
    ·intro c6 gu nM H;obtain rfl:=si H
     try go_wp2
     replace HB:=am (cZ HB.o);obtain ⟨p11,q11,RQ,e11,xw⟩:=wi (Kd.jw bG.o ax);have U7:=xw
     cases e11
     replace xw:=cb HB xw;refine gD 7 (hc (cb HB U7)) (fun hHeld=>?_)
     generalize wr.drew=w9 at HB xw hHeld ⊢
     refine pu 0 12 #[true,false,false,false,false,false,false] ?_
     refine pu 1 13 #[true,true,false,false,false,false,false] ?_
     refine pu 2 14 #[true,true,true,false,false,false,false] ?_
     refine pu 4 16 #[true,true,true,false,true,false,false] ?_
     refine F7 (i:=3) (N:=some 15) (v:=?_) (a':=?_) #[true,true,true,true,true,false,false] rfl rfl (by kernel_rfl) (fun _ _ _ h=>h) (Or.inl ⟨by rfl,?_⟩) hHeld ?_ ?_
     rotate_left
     ·intro w' s0
      go_simp
      (with_reducible rfl)
     rotate_left
     ·simp only [Act.put,List.setIfInBounds_toArray,List.set_cons_zero,List.set_cons_succ,fC,gK]
      rfl
     refine o9 (i:=5) (N:=some 17) #[true,true,true,true,true,true,false] rfl rfl (by kernel_rfl) (by decide) (fun K hK=>?_);refine gA Tryz.func54 #[.int .i64 iP] ?_;(with_reducible refine (lu.calls k1 iP mG _ A5.o).mono ?_);rintro e qo ⟨rfl,hb⟩;refine ⟨_,rfl,?_⟩;replace HB:=bq HB hb;(try clear hb);refine hK.out _ _ (hc (cb HB U7)).o (fun hHeld=>?_);clear hK K;refine nA 17 ?_;refine pu 6 18 #[true,true,true,true,true,true,true] ?_
     refine ek (by kernel_rfl) ?_
     try go_wp2
     go_ret
     exact ⟨ff,bs HB⟩
   ·intro aY H;obtain rfl:=si H
    go_wp2
    go_ret
    exact ⟨ff,bs HB⟩
theorem wG.calls (k:Nat)(A0:Option Addr)(c0:Nat)(l0:List bN)(a1 r:Int)(w:World)(hr0:Kd.C jO w A0 l0.length l0)(hc0:l0.length≤c0)(H:wG.f k l0 a1=some r) :
  Calls Tryz.prog 130 #[.slice A0 l0.length c0,.int .i64 a1] w fun e w'=>e=.returned (.int .i64 r)∧Below w.heap.size w w':=by
 have bG:=am hr0;have jC:=am hc0;clear hr0 hc0;have HB:=am (Below.refl w.heap.size w);unfold wG.f at H;have H':=am H;clear H
 go_in
 go_wp2
 go_loopg [1,5] k (fun kq v1 v5 w'=>∃ (iP:Int) (ax:Int),v1=.int .i64 iP∧v5=.int .i64 ax∧af (wG.l0 kq l0 iP ax=some r)∧af (kq≤k)∧af (Below w.heap.size w w'))
 case atStart=>exact ⟨(a1),(0),fg,fg,H',⟨Nat.le_refl _⟩,⟨bs HB⟩⟩
 case round =>
  clear H'
  obtain ⟨iP,ax,rfl,rfl,HA,aQ,HB⟩:=hrel
  cases gk with
  | zero=>exact absurd HA.o (by simp [wG.l0])
  | succ k1 =>
   have H:=HA.o;clear HA;simp only [wG.l0] at H
   revert H;refine bK ?_ ?_
   ·intro aY H
    revert H;refine bv ?_
    intro dF H;replace H:=bo H;obtain ⟨t9,A5,H⟩:=H;obtain ⟨p8,q8,YF,aDl,aER,e8,DJ,alJ,alb⟩:=wi (lN bG.o ax)
    cases e8
    replace DJ:=cb HB DJ;have aq9:=am alb;have aqb:=am alJ;clear alb alJ
    try go_wp2_with (fail)
    go_at_call 145;refine (wI.calls k1 _ _ ((aK l0 ax).f0) iP t9 _ (Kd.bi aq9.o (bs HB)) aqb.o A5.o).mono ?_;rintro e w6 ⟨rfl,hb⟩;replace HB:=bq HB hb;(try clear hb)
    revert H;refine bK ?_ ?_
    ·intro kH H;obtain rfl:=si H
     go_wp2
     go_ret
     exact ⟨ff,bs HB⟩
    ·intro kH H;have H':=am H;clear H
     go_wp2
     go_roundg k1
     case measure=>have:=aQ.o;omega
     case rel=>exact ⟨(t9),(wrap64 (ax+1)),fg,fg,H',⟨by have:=aQ.o;omega⟩,⟨bs HB⟩⟩
   ·intro aY H;obtain rfl:=si H
    go_wp2
    go_ret
    exact ⟨ff,bs HB⟩
def nV.T4:Bool × List (List Nat × List Nat):=(true,[([],[]),([],[]),([0,1],[0,1]),([2],[2]),([3],[3]),([],[]),([5],[5]),([4,6],[4,6])])
def nV.B4:List Nat:=[0,0,3,7,15,0,32,127]
theorem nV.xQ:fD .any (opsOf Tryz.f103 4)=nV.T4:=by kernel_rfl
theorem nV.xg:jg nV.T4.2 nV.B4=true:=by kernel_rfl
theorem nV.calls (k:Nat)(A0:Option Addr)(c0:Nat)(l0:List bn)(a1 r:Int)(w:World)(hr0:Kd.C kP w A0 l0.length l0)(hc0:l0.length≤c0)(H:nV.f k l0 a1=some r) :
  Calls Tryz.prog 103 #[.slice A0 l0.length c0,.int .i64 a1] w fun e w'=>e=.returned (.int .i64 r)∧Below w.heap.size w w':=by
 have bG:=am hr0;have jC:=am hc0;clear hr0 hc0;have HB:=am (Below.refl w.heap.size w);unfold nV.f at H;have H':=am H;clear H
 go_in
 go_wp2
 go_loopg [1,5] k (fun kq v1 v5 w'=>∃ (iP:Int) (ax:Int),v1=.int .i64 iP∧v5=.int .i64 ax∧af (nV.l0 kq l0 iP ax=some r)∧af (kq≤k)∧af (Below w.heap.size w w'))
 case atStart=>exact ⟨(a1),(0),fg,fg,H',⟨Nat.le_refl _⟩,⟨bs HB⟩⟩
 case round =>
  clear H'
  obtain ⟨iP,ax,rfl,rfl,HA,aQ,HB⟩:=hrel
  cases gk with
  | zero=>exact absurd HA.o (by simp [nV.l0])
  | succ k1 =>
   have H:=HA.o;clear HA;simp only [nV.l0] at H
   revert H;refine bK ?_ ?_
   ·intro aY H
    revert H;refine bv ?_
    intro dF H;replace H:=bo H;obtain ⟨t22,A5,H⟩:=H
    revert H;refine bH ?_ ?_
    ·intro gu nM H;replace H:=bo H;obtain ⟨t23,A7,H⟩:=H
     try go_wp2_with (fail)
     replace HB:=am (cZ HB.o);obtain ⟨p20,q20,ai4,aoZ,atD,e20,Fp,Fq,Uo,TN⟩:=wi (kN bG.o ax);have OU:=Fq;have Vf:=Fp
     cases e20
     replace Fp:=cb HB Fp;replace Fq:=cb HB Fq;have acv:=am TN;have apT:=am Uo;clear TN Uo;refine gD 8 (aC (cb HB Vf) (hc (cb HB OU))) (fun hHeld=>?_);refine fu nV.xQ nV.xg (fun HT_ HW_=>?_)
     generalize wr.drew=w8 at HB acv Fp Fq hHeld ⊢
     refine jV 0 ?_;refine bQ 5 ?_;refine ta 4 ?_;refine oA 6 18 HT_ (fun K hK=>?_);refine gA Tryz.func54 #[.int .i64 iP] ?_;(with_reducible refine (lu.calls k1 iP t22 _ A5.o).mono ?_);rintro e w9 ⟨rfl,hb⟩;refine ⟨_,rfl,?_⟩;replace HB:=bq HB hb;(try clear hb);refine hK.out _ _ (aC (cb HB Vf) (hc (cb HB OU))).o (fun hHeld=>?_);clear hK K;refine nA 18 ?_;refine bQ 7 ?_;refine ek (fo HT_.o (by kernel_rfl)) ?_;obtain ⟨p21,q21,YD,aC4,aEv,e21,Fs,aeT,alm,akP⟩:=wi (kN bG.o ax);obtain rfl:ai4=YD:=(by injection e21);replace Fs:=cb HB Fs;replace aeT:=cb HB aeT;(try (have ea_:=Option.some.inj ((cb HB OU).symm.trans aeT);injection ea_ with ea_ en_ ec_;subst ea_;subst ec_;clear en_));have aqS:=am akP;have apV:=am alm;clear akP alm
     try go_wp2_with (fail)
     go_at_call 130;refine (wG.calls k1 _ _ ((av l0 ax).f1) (wrap64 (iP+1)) t23 _ (Kd.bi aqS.o (bs HB)) apV.o A7.o).mono ?_;rintro e qo ⟨rfl,hb⟩;replace HB:=bq HB hb;(try clear hb)
     revert H;refine bK ?_ ?_
     ·intro xh H;obtain rfl:=si H
      go_wp2
      go_ret
      exact ⟨ff,bs HB⟩
     ·intro xh H;have H':=am H;clear H
      go_wp2
      go_roundg k1
      case measure=>have:=aQ.o;omega
      case rel=>exact ⟨(t23),(wrap64 (ax+1)),fg,fg,H',⟨by have:=aQ.o;omega⟩,⟨bs HB⟩⟩
    ·intro c6 gu nM H;obtain rfl:=si H
     try go_wp2
     replace HB:=am (cZ HB.o);obtain ⟨p20,q20,ai4,aoZ,atD,e20,Fp,Fq,Uo,TN⟩:=wi (kN bG.o ax);have OU:=Fq;have Vf:=Fp
     cases e20
     replace Fp:=cb HB Fp;replace Fq:=cb HB Fq;have acv:=am TN;have apT:=am Uo;clear TN Uo;refine gD 8 (aC (cb HB Vf) (hc (cb HB OU))) (fun hHeld=>?_);refine fu nV.xQ nV.xg (fun HT_ HW_=>?_)
     generalize wr.drew=nZ at HB acv Fp Fq hHeld ⊢
     refine jV 0 ?_;refine bQ 5 ?_;refine ta 4 ?_;refine oA 6 18 HT_ (fun K hK=>?_);refine gA Tryz.func54 #[.int .i64 iP] ?_;(with_reducible refine (lu.calls k1 iP t22 _ A5.o).mono ?_);rintro e tC ⟨rfl,hb⟩;refine ⟨_,rfl,?_⟩;replace HB:=bq HB hb;(try clear hb);refine hK.out _ _ (aC (cb HB Vf) (hc (cb HB OU))).o (fun hHeld=>?_);clear hK K;refine nA 18 ?_;refine bQ 7 ?_;refine ek (fo HT_.o (by kernel_rfl)) ?_
     try go_wp2
     go_ret
     exact ⟨ff,bs HB⟩
   ·intro aY H;obtain rfl:=si H
    go_wp2
    go_ret
    exact ⟨ff,bs HB⟩
theorem wH.calls (k:Nat)(A0:Option Addr)(c0:Nat)(l0:List iG)(a1 r:Int)(w:World)(hr0:Kd.C oN w A0 l0.length l0)(hc0:l0.length≤c0)(H:wH.f k l0 a1=some r) :
  Calls Tryz.prog 58 #[.slice A0 l0.length c0,.int .i64 a1] w fun e w'=>e=.returned (.int .i64 r)∧Below w.heap.size w w':=by
 have bG:=am hr0;have jC:=am hc0;clear hr0 hc0;have HB:=am (Below.refl w.heap.size w);unfold wH.f at H;have H':=am H;clear H
 go_in
 go_wp2
 go_loopg [1,5] k (fun kq v1 v5 w'=>∃ (iP:Int) (ax:Int),v1=.int .i64 iP∧v5=.int .i64 ax∧af (wH.l0 kq l0 iP ax=some r)∧af (kq≤k)∧af (Below w.heap.size w w'))
 case atStart=>exact ⟨(a1),(0),fg,fg,H',⟨Nat.le_refl _⟩,⟨bs HB⟩⟩
 case round =>
  clear H'
  obtain ⟨iP,ax,rfl,rfl,HA,aQ,HB⟩:=hrel
  cases gk with
  | zero=>exact absurd HA.o (by simp [wH.l0])
  | succ k1 =>
   have H:=HA.o;clear HA;simp only [wH.l0] at H
   revert H;refine bK ?_ ?_
   ·intro aY H
    revert H;refine bv ?_
    intro dF H
    revert H;refine bH ?_ ?_
    ·intro ja sJ H;replace H:=bo H;obtain ⟨sj,A6,H⟩:=H;obtain ⟨p9,q9,xe,abJ,adD,e9,l8,nP,Cf,Ca⟩:=wi (EM bG.o ax)
     cases e9
     replace l8:=cb HB l8;replace nP:=cb HB nP;have Rs:=am Ca;have Ra:=am Cf;clear Ca Cf;obtain ⟨jT,jP,Bz,aC0,aEq,e10,ww,xu,alg,akK⟩:=wi (EM bG.o ax);obtain rfl:xe=Bz:=(by injection e10);replace ww:=cb HB ww;replace xu:=cb HB xu;have aqK:=am akK;have apN:=am alg;clear akK alg;(try (have ea_:=Option.some.inj (nP.symm.trans xu);injection ea_ with ea_ en_ ec_;subst ea_;subst ec_;clear en_))
     try go_wp2_with (fail)
     go_at_call 103;refine (nV.calls k1 _ _ ((fJ l0 ax).f1) (wrap64 (iP+1)) sj _ (Kd.bi aqK.o (bs HB)) apN.o A6.o).mono ?_;rintro e w7 ⟨rfl,hb⟩;replace HB:=bq HB hb;(try clear hb)
     revert H;refine bK ?_ ?_
     ·intro kr H;obtain rfl:=si H
      go_wp2
      go_ret
      exact ⟨ff,bs HB⟩
     ·intro kr H;have H':=am H;clear H
      go_wp2
      go_roundg k1
      case measure=>have:=aQ.o;omega
      case rel=>exact ⟨(sj),(wrap64 (ax+1)),fg,fg,H',⟨by have:=aQ.o;omega⟩,⟨bs HB⟩⟩
    ·intro c5 ja sJ H;obtain rfl:=si H;obtain ⟨p9,q9,xe,abJ,adD,e9,l8,nP,Cf,Ca⟩:=wi (EM bG.o ax)
     cases e9
     replace l8:=cb HB l8;replace nP:=cb HB nP;have Rs:=am Ca;have Ra:=am Cf;clear Ca Cf
     go_wp2
     go_ret
     exact ⟨ff,bs HB⟩
   ·intro aY H;obtain rfl:=si H
    go_wp2
    go_ret
    exact ⟨ff,bs HB⟩
theorem wF.calls (k:Nat)(A0:Option Addr)(c0:Nat)(l0:List dR)(a1 r:Int)(w:World)(hr0:Kd.C pX w A0 l0.length l0)(hc0:l0.length≤c0)(H:wF.f k l0 a1=some r) :
  Calls Tryz.prog 30 #[.slice A0 l0.length c0,.int .i64 a1] w fun e w'=>e=.returned (.int .i64 r)∧Below w.heap.size w w':=by
 have bG:=am hr0;have jC:=am hc0;clear hr0 hc0;have HB:=am (Below.refl w.heap.size w);unfold wF.f at H;have H':=am H;clear H
 go_in
 go_wp2
 go_loopg [1,5] k (fun kq v1 v5 w'=>∃ (iP:Int) (ax:Int),v1=.int .i64 iP∧v5=.int .i64 ax∧af (wF.l0 kq l0 iP ax=some r)∧af (kq≤k)∧af (Below w.heap.size w w'))
 case atStart=>exact ⟨(a1),(0),fg,fg,H',⟨Nat.le_refl _⟩,⟨bs HB⟩⟩
 case round =>
  clear H'
  obtain ⟨iP,ax,rfl,rfl,HA,aQ,HB⟩:=hrel
  cases gk with
  | zero=>exact absurd HA.o (by simp [wF.l0])
  | succ k1 =>
   have H:=HA.o;clear HA;simp only [wF.l0] at H
   revert H;refine bK ?_ ?_
   ·intro aY H
    revert H;refine bv ?_
    intro dF H
    revert H;refine bH ?_ ?_
    ·intro ja sJ H
     revert H;refine bH ?_ ?_
     ·intro gu nM H;replace H:=bo H;obtain ⟨CF,A7,H⟩:=H;obtain ⟨jT,jP,Bz,ahg,ajC,e10,ww,xu,yu,H8,HY⟩:=wi (zU bG.o ax)
      cases e10
      replace ww:=cb HB ww;replace xu:=cb HB xu;replace yu:=cb HB yu;have ah8:=am HY;have ahL:=am H8;clear HY H8;obtain ⟨p11,q11,RQ,aoY,atz,e11,xw,Vt,KZ,Ui,TG⟩:=wi (zU bG.o ax);obtain rfl:Bz=RQ:=(by injection e11);replace xw:=cb HB xw;replace Vt:=cb HB Vt;replace KZ:=cb HB KZ;have aqL:=am TG;have apO:=am Ui;clear TG Ui;(try (have ea_:=Option.some.inj (yu.symm.trans KZ);injection ea_ with ea_ en_ ec_;subst ea_;subst ec_;clear en_));obtain ⟨iO,iK,GV,aC1,aEs,e12,nO,K3,Ih,alh,akL⟩:=wi (zU bG.o ax);obtain rfl:Bz=GV:=(by injection e12);replace nO:=cb HB nO;replace K3:=cb HB K3;replace Ih:=cb HB Ih;have aqM:=am akL;have apP:=am alh;clear akL alh;(try (have ea_:=Option.some.inj (yu.symm.trans Ih);injection ea_ with ea_ en_ ec_;subst ea_;subst ec_;clear en_))
      try go_wp2_with (fail)
      go_at_call 58;refine (wH.calls k1 _ _ ((bf l0 ax).f2) (wrap64 ((wrap64 (iP+1))+1)) CF _ (Kd.bi aqM.o (bs HB)) apP.o A7.o).mono ?_;rintro e w8 ⟨rfl,hb⟩;replace HB:=bq HB hb;(try clear hb)
      revert H;refine bK ?_ ?_
      ·intro nN H;obtain rfl:=si H
       go_wp2
       go_ret
       exact ⟨ff,bs HB⟩
      ·intro nN H;have H':=am H;clear H
       go_wp2
       go_roundg k1
       case measure=>have:=aQ.o;omega
       case rel=>exact ⟨(CF),(wrap64 (ax+1)),fg,fg,H',⟨by have:=aQ.o;omega⟩,⟨bs HB⟩⟩
     ·intro c6 gu nM H;obtain rfl:=si H;obtain ⟨jT,jP,Bz,ahg,ajC,e10,ww,xu,yu,H8,HY⟩:=wi (zU bG.o ax)
      cases e10
      replace ww:=cb HB ww;replace xu:=cb HB xu;replace yu:=cb HB yu;have ah8:=am HY;have ahL:=am H8;clear HY H8;obtain ⟨p11,q11,RQ,aoY,atz,e11,xw,Vt,KZ,Ui,TG⟩:=wi (zU bG.o ax);obtain rfl:Bz=RQ:=(by injection e11);replace xw:=cb HB xw;replace Vt:=cb HB Vt;replace KZ:=cb HB KZ;have aqL:=am TG;have apO:=am Ui;clear TG Ui;(try (have ea_:=Option.some.inj (yu.symm.trans KZ);injection ea_ with ea_ en_ ec_;subst ea_;subst ec_;clear en_))
      go_wp2
      go_ret
      exact ⟨ff,bs HB⟩
    ·intro c5 ja sJ H;obtain rfl:=si H;obtain ⟨jT,jP,Bz,ahg,ajC,e10,ww,xu,yu,H8,HY⟩:=wi (zU bG.o ax)
     cases e10
     replace ww:=cb HB ww;replace xu:=cb HB xu;replace yu:=cb HB yu;have ah8:=am HY;have ahL:=am H8;clear HY H8
     go_wp2
     go_ret
     exact ⟨ff,bs HB⟩
   ·intro aY H;obtain rfl:=si H
    go_wp2
    go_ret
    exact ⟨ff,bs HB⟩
theorem FP.calls (k:Nat)(ag aj:ByteArray)(ak:Int)(dZ:Option Addr)(dW:Nat)(au:List dR)(a1 r:Int)(w:World)(jl:Kd.C pX w dZ au.length au)(jk:au.length≤dW)(H:FP.f k ag aj ak au a1=some r) :
  Calls Tryz.prog 15 #[.agg #[.string ag,.string aj,.int .i64 ak,.slice dZ au.length dW],.int .i64 a1] w fun e w'=>e=.returned (.int .i64 r)∧Below w.heap.size w w':=by
 have U4:=Tryz.underlying35;have oH:=am jl;have qw:=am jk;clear jl jk;have HB:=am (Below.refl w.heap.size w);unfold FP.f at H;replace H:=bo H;obtain ⟨t9,A3,H⟩:=H
 go_in
 try go_wp2_with (first|((with_reducible refine aJ (N:=2) rfl ?_);refine bz 2 (cs:=#[.string ag,.string aj,.int .i64 ak,.slice dZ au.length dW]) (t:=35) HB ?_;clear HB;intro KH hg w4 yR GW8 hb HB;clear hb hg;have BQ:=aX yR))
 go_at_call 30;refine (wF.calls k _ _ au a1 t9 _ (Kd.bi oH.o (bs HB)) qw.o A3.o).mono ?_;rintro e w6 ⟨rfl,hb⟩;replace yR:=bb yR hb;replace HB:=bq HB hb;(try clear hb)
 revert H;refine bK ?_ ?_
 ·intro kH H;obtain rfl:=si H
  go_wp2
  go_ret
  exact ⟨ff,bs HB⟩
 ·intro kH H;obtain rfl:=si H
  go_wp2
  go_ret
  exact ⟨ff,bs HB⟩
theorem IC.calls (k:Nat)(ag aj:ByteArray)(ak:Int)(dZ:Option Addr)(dW:Nat)(au:List mK)(r:Bool)(w:World)(jl:Kd.C DR w dZ au.length au)(jk:au.length≤dW)(hTC:zS w)(hTF:uz w)(hTP:vW w)(H:IC.f k ag aj ak au=some r) :
  Calls Tryz.prog 4 #[.agg #[.string ag,.string aj,.int .i64 ak,.slice dZ au.length dW]] w fun e w'=>e=.returned (.bool r)∧Below w.heap.size w w':=by
 have HTC:=am hTC;have HTF:=am hTF;have HTP:=am hTP;clear hTC hTF hTP;have hu:=Tryz.underlying24;have hu2:=Tryz.underlying29;have hu3:=Tryz.underlying35;have HR3:=am jl;have rT:=am jk;clear jl jk;have HB:=am (Below.refl w.heap.size w);have CH:=am True.intro;have T:=am (Nat.le_refl w.heap.size);unfold IC.f at H;replace H:=bo H;obtain ⟨t,Hsz,H⟩:=H
 go_in
 try go_wp2_with (first|((with_reducible refine aJ (N:=1) rfl ?_);refine bx 1 (cs:=#[.string ag,.string aj,.int .i64 ak,.slice dZ au.length dW]) (t:=24) ?_;intro g1 hg w1 hbox hb;replace CH:=am (And.intro CH.o (And.intro (show _≤g1 from Nat.le_trans T.o (Nat.le_of_eq hg.symm)) (pR hbox)));replace T:=am (Nat.le_refl w1.heap.size);replace HB:=bq HB hb;clear hb;have B1:=am hbox;clear hbox hg;have z1:=aX B1))
 try go_wp2_with (fail)
 go_at_call 5;refine (LD.calls k ag aj ak _ _ au 1048576 t _ (Kd.bi HR3.o (bs HB)) rT.o Hsz.o).mono ?_;rintro e w3 ⟨rfl,hb⟩;(try clear z1);replace B1:=am (aU (ks B1) hb);replace T:=am (Nat.le_trans T.o hb.size);replace HB:=bq HB hb;clear hb;have z1:=aX B1
 revert H;refine bK ?_ ?_
 ·intro c0 H;obtain rfl:=si H
  go_wp2
  go_ret
  exact ⟨ff,bs HB⟩
 intro c0 H;replace H:=bo H;obtain ⟨⟨sa,qa,na,la⟩,Ha,H⟩:=H;dsimp only at H
 try go_wp2_with (fail)
 go_at_call 7;refine (zF.calls k ag aj ak _ _ au sa qa na la _ (Kd.bi HR3.o (bs HB)) rT.o Ha.o).mono ?_;rintro e w4 ⟨v_,rfl,o_,hb⟩;(try clear z1);obtain ⟨Aa,ca,e_⟩:=Kd.ji o_;subst e_;have Xa:=am (Kd.mM (Kd.eF (ok':=(fun k_=>w3.heap.size≤k_∧k_<w4.heap.size)) (Kd.pQ o_) (fun _ q=>⟨q.2.1,q.2.2.1⟩)) HB.o.size);clear o_;replace CH:=am (And.intro CH.o (And.intro T.o hb.size));have T2:=am (Nat.le_refl w4.heap.size);replace B1:=am (aU (ks B1) hb);replace T:=T2;clear T2;replace HB:=bq HB hb;clear hb;have z1:=aX B1;replace H:=bo H;obtain ⟨⟨sb,qb,nb,lb⟩,Hb,H⟩:=H;dsimp only at H
 try go_wp2_with (fail)
 go_at_call 10;refine (Ma.calls k sa qa na _ _ la sb qb nb lb _ (Kd.sI Xa.o).2.2 (Kd.sI Xa.o).2.1 Hb.o).mono ?_;rintro e w5 ⟨v_,rfl,o_,hb⟩;(try clear z1);obtain ⟨Ab,cb,e_⟩:=Kd.gW o_;subst e_;have GB:=am (Kd.ic (Kd.dE (ok':=(fun k_=>w4.heap.size≤k_∧k_<w5.heap.size)) (Kd.rV o_) (fun _ q=>⟨q.2.1,q.2.2.1⟩)) HB.o.size);clear o_;replace CH:=am (And.intro CH.o (And.intro T.o hb.size));have T2:=am (Nat.le_refl w5.heap.size);replace B1:=am (aU (ks B1) hb);replace Xa:=am (Kd.l6 Xa.o hb);replace T:=T2;clear T2;replace HB:=bq HB hb;clear hb;have z1:=aX B1;clear Xa
 try go_wp2_with (first|((with_reducible refine aJ (N:=4) rfl ?_);refine bx 4 (cs:=#[.string (⟨#[]⟩:ByteArray),.string (⟨#[]⟩:ByteArray),.int .i64 0,.slice none 0 0]) (t:=35) ?_;intro g4 hg w6 hbox hb;(try clear z1);replace CH:=am (And.intro CH.o (And.intro (show _≤g4 from Nat.le_trans T.o (Nat.le_of_eq hg.symm)) (pR hbox)));replace T:=am (Nat.le_refl w6.heap.size);replace B1:=am (aU (ks B1) hb);replace GB:=am (Kd.cu GB.o hb);replace HB:=bq HB hb;clear hb;have B4:=am hbox;clear hbox hg;have z1:=aX B1;have z4:=aX B4)|((with_reducible refine oJ (t:=35) (p:=4) rfl ?_);refine pg (t:=35) (p:=4) (v:=?vo4) (w1:=((((w6.setCell ⟨g4,0,none⟩ (.string sb)).setCell ⟨g4,1,none⟩ (.string qb)).setCell ⟨g4,2,none⟩ (.int .i64 nb)).setCell ⟨g4,3,none⟩ (.slice Ab lb.length cb))) ?hg ?ho ?hn ?hr ?_;(case ho=>rfl);(case hg=>rfl);(case hn=>rfl);(case hr=>first|(go_simp;done)|(go_simp;rfl));intro w7 hw;(try clear z1);(try clear z4);obtain ⟨hx,hk,hB⟩:=NU B4.o hw;clear hw;replace HB:=am (hB _ HB.o (by have c_:=CH.o;omega));replace GB:=am (Kd.EH GB.o hk (fun k_ p_ s_=>by have c_:=CH.o;have p1:=p_.1;have p2:=p_.2;have e_:_=g4:=s_;omega));replace B1:=am (nC B1.o hk (fun s_=>by have c_:=CH.o;have e_:_=g4:=s_;omega));replace T:=am (Nat.le_trans T.o hk.1);replace B4:=am hx;clear hx hk hB;have z1:=aX B1;have z4:=aX B4))
 replace H:=bo H;obtain ⟨⟨sx,qx,nx,lx⟩,Hx,H⟩:=H;dsimp only at H
 try go_wp2_with (fail)
 go_at_call 7;refine (zF.calls k ag aj ak _ _ au sx qx nx lx _ (Kd.bi HR3.o (bs HB)) rT.o Hx.o).mono ?_;rintro e w8 ⟨v_,rfl,o_,hb⟩;(try clear z1);(try clear z4);obtain ⟨Ax,cx,e_⟩:=Kd.ji o_;subst e_;have Xx:=am (Kd.mM (Kd.eF (ok':=(fun k_=>w7.heap.size≤k_∧k_<w8.heap.size)) (Kd.pQ o_) (fun _ q=>⟨q.2.1,q.2.2.1⟩)) HB.o.size);clear o_;replace CH:=am (And.intro CH.o (And.intro T.o hb.size));have T2:=am (Nat.le_refl w8.heap.size);replace B1:=am (aU (ks B1) hb);replace B4:=am (aU (ks B4) hb);replace GB:=am (Kd.cu GB.o hb);replace T:=T2;clear T2;replace HB:=bq HB hb;clear hb;have z1:=aX B1;have z4:=aX B4
 try go_wp2_with (first|((with_reducible refine aJ (N:=5) rfl ?_);refine bx 5 (cs:=#[.string (⟨#[]⟩:ByteArray),.string (⟨#[]⟩:ByteArray),.int .i64 0,.slice none 0 0]) (t:=29) ?_;intro g5 hg w9 hbox hb;(try clear z1);(try clear z4);replace CH:=am (And.intro CH.o (And.intro (show _≤g5 from Nat.le_trans T.o (Nat.le_of_eq hg.symm)) (pR hbox)));replace T:=am (Nat.le_refl w9.heap.size);replace B1:=am (aU (ks B1) hb);replace B4:=am (aU (ks B4) hb);replace GB:=am (Kd.cu GB.o hb);replace Xx:=am (Kd.l6 Xx.o hb);replace HB:=bq HB hb;clear hb;have B5:=am hbox;clear hbox hg;have z1:=aX B1;have z4:=aX B4;have z5:=aX B5)|((with_reducible refine oJ (t:=29) (p:=5) rfl ?_);refine pg (t:=29) (p:=5) (v:=?vo5) (w1:=((((w9.setCell ⟨g5,0,none⟩ (.string sx)).setCell ⟨g5,1,none⟩ (.string qx)).setCell ⟨g5,2,none⟩ (.int .i64 nx)).setCell ⟨g5,3,none⟩ (.slice Ax lx.length cx))) ?hg ?ho ?hn ?hr ?_;(case ho=>rfl);(case hg=>rfl);(case hn=>rfl);(case hr=>first|(go_simp;done)|(go_simp;rfl));intro qo hw;(try clear z1);(try clear z4);(try clear z5);obtain ⟨hx,hk,hB⟩:=NU B5.o hw;clear hw;replace HB:=am (hB _ HB.o (by have c_:=CH.o;omega));replace GB:=am (Kd.EH GB.o hk (fun k_ p_ s_=>by have c_:=CH.o;have p1:=p_.1;have p2:=p_.2;have e_:_=g5:=s_;omega));replace Xx:=am (Kd.GN Xx.o hk (fun k_ p_ s_=>by have c_:=CH.o;have p1:=p_.1;have p2:=p_.2;have e_:_=g5:=s_;omega));replace B1:=am (nC B1.o hk (fun s_=>by have c_:=CH.o;have e_:_=g5:=s_;omega));replace B4:=am (nC B4.o hk (fun s_=>by have c_:=CH.o;have e_:_=g5:=s_;omega));replace T:=am (Nat.le_trans T.o hk.1);replace B5:=am hx;clear hx hk hB;have z1:=aX B1;have z4:=aX B4;have z5:=aX B5))
 replace H:=bo H;obtain ⟨⟨sg,qg,ng,lg⟩,Hg,H⟩:=H;dsimp only at H
 try go_wp2_with (fail)
 go_at_call 11;refine (FI.calls k sx qx nx _ _ lx sg qg ng lg _ (Kd.sI Xx.o).2.2 (Kd.sI Xx.o).2.1 (zM HTC (bs HB)) (uQ HTF (bs HB)) (pq HTP (bs HB)) Hg.o).mono ?_;rintro e jY ⟨v_,rfl,o_,hb⟩;(try clear z1);(try clear z4);(try clear z5);obtain ⟨Ag,cg,e_⟩:=Kd.ji o_;subst e_;have GG:=am (Kd.mM (Kd.eF (ok':=(fun k_=>qo.heap.size≤k_∧k_<jY.heap.size)) (Kd.pQ o_) (fun _ q=>⟨q.2.1,q.2.2.1⟩)) HB.o.size);clear o_;replace CH:=am (And.intro CH.o (And.intro T.o hb.size));have T2:=am (Nat.le_refl jY.heap.size);replace B1:=am (aU (ks B1) hb);replace B4:=am (aU (ks B4) hb);replace B5:=am (aU (ks B5) hb);replace GB:=am (Kd.cu GB.o hb);replace Xx:=am (Kd.l6 Xx.o hb);replace T:=T2;clear T2;replace HB:=bq HB hb;clear hb;have z1:=aX B1;have z4:=aX B4;have z5:=aX B5
 try go_wp2_with (first|((with_reducible refine aJ (N:=6) rfl ?_);refine bx 6 (cs:=#[.string (⟨#[]⟩:ByteArray),.string (⟨#[]⟩:ByteArray),.int .i64 0,.slice none 0 0]) (t:=35) ?_;intro g6 hg nZ hbox hb;(try clear z1);(try clear z4);(try clear z5);replace CH:=am (And.intro CH.o (And.intro (show _≤g6 from Nat.le_trans T.o (Nat.le_of_eq hg.symm)) (pR hbox)));replace T:=am (Nat.le_refl nZ.heap.size);replace B1:=am (aU (ks B1) hb);replace B4:=am (aU (ks B4) hb);replace B5:=am (aU (ks B5) hb);replace GB:=am (Kd.cu GB.o hb);replace Xx:=am (Kd.l6 Xx.o hb);replace GG:=am (Kd.l6 GG.o hb);replace HB:=bq HB hb;clear hb;have B6:=am hbox;clear hbox hg;have z1:=aX B1;have z4:=aX B4;have z5:=aX B5;have z6:=aX B6)|((with_reducible refine oJ (t:=35) (p:=6) rfl ?_);refine pg (t:=35) (p:=6) (v:=?vo6) (w1:=((((nZ.setCell ⟨g6,0,none⟩ (.string sg)).setCell ⟨g6,1,none⟩ (.string qg)).setCell ⟨g6,2,none⟩ (.int .i64 ng)).setCell ⟨g6,3,none⟩ (.slice Ag lg.length cg))) ?hg ?ho ?hn ?hr ?_;(case ho=>rfl);(case hg=>rfl);(case hn=>rfl);(case hr=>first|(go_simp;done)|(go_simp;rfl));intro tC hw;(try clear z1);(try clear z4);(try clear z5);(try clear z6);obtain ⟨hx,hk,hB⟩:=NU B6.o hw;clear hw;replace HB:=am (hB _ HB.o (by have c_:=CH.o;omega));replace GB:=am (Kd.EH GB.o hk (fun k_ p_ s_=>by have c_:=CH.o;have p1:=p_.1;have p2:=p_.2;have e_:_=g6:=s_;omega));replace Xx:=am (Kd.GN Xx.o hk (fun k_ p_ s_=>by have c_:=CH.o;have p1:=p_.1;have p2:=p_.2;have e_:_=g6:=s_;omega));replace GG:=am (Kd.GN GG.o hk (fun k_ p_ s_=>by have c_:=CH.o;have p1:=p_.1;have p2:=p_.2;have e_:_=g6:=s_;omega));replace B1:=am (nC B1.o hk (fun s_=>by have c_:=CH.o;have e_:_=g6:=s_;omega));replace B4:=am (nC B4.o hk (fun s_=>by have c_:=CH.o;have e_:_=g6:=s_;omega));replace B5:=am (nC B5.o hk (fun s_=>by have c_:=CH.o;have e_:_=g6:=s_;omega));replace T:=am (Nat.le_trans T.o hk.1);replace B6:=am hx;clear hx hk hB;have z1:=aX B1;have z4:=aX B4;have z5:=aX B5;have z6:=aX B6))
 replace H:=bo H;obtain ⟨e1,He1,H⟩:=H
 try go_wp2_with (fail)
 go_at_call 12;refine (Cx.calls k sg qg ng _ _ lg sb qb nb _ _ lb e1 _ (Kd.dH (DT GG.o)).2.2 (Kd.dH (DT GG.o)).2.1 (Kd.dH GB.o).2.2 (Kd.dH GB.o).2.1 He1.o).mono ?_;rintro e tF ⟨rfl,hb⟩;(try clear z1);(try clear z4);(try clear z5);(try clear z6);replace B1:=am (aU (ks B1) hb);replace B4:=am (aU (ks B4) hb);replace B5:=am (aU (ks B5) hb);replace B6:=am (aU (ks B6) hb);replace GB:=am (Kd.cu GB.o hb);replace Xx:=am (Kd.l6 Xx.o hb);replace GG:=am (Kd.l6 GG.o hb);replace T:=am (Nat.le_trans T.o hb.size);replace HB:=bq HB hb;clear hb;have z1:=aX B1;have z4:=aX B4;have z5:=aX B5;have z6:=aX B6
 obtain rfl|rfl:=bt e1;rotate_left
 ·replace H:=di H;cases H
 replace H:=dm H;replace H:=bo H;obtain ⟨⟨sy,qy,ny,ly⟩,Hy,H⟩:=H;dsimp only at H;replace H:=bo H;obtain ⟨e2,He2,H⟩:=H
 try go_wp2_with (fail)
 (try clear z1);(try clear z4);(try clear z5);(try clear z6);replace B1:=am (bD B1.o);replace B4:=am (bD B4.o);replace B5:=am (bD B5.o);replace B6:=am (bD B6.o);replace GB:=am (Kd.eO GB.o);replace Xx:=am (Kd.fU Xx.o);replace GG:=am (Kd.fU GG.o);replace T:=am (show nZ.heap.size≤tF.drew.heap.size from T.o);replace HB:=am (cZ HB.o);refine gD 5 (rC B5 (hb4 B1)) (fun hHeld=>?_)
 generalize tF.drew=CG at B1 B4 B5 B6 GB Xx GG T HB hHeld ⊢
 refine tu 0 27 #[true,false,false,false,false] ?_
 refine tu 1 28 #[true,true,false,false,false] ?_
 refine o9 (i:=2) (N:=some 29) #[true,true,true,false,false] rfl rfl (by kernel_rfl) (by decide) (fun K hK=>?_);refine gA Tryz.func7 #[.agg #[.string ag,.string aj,.int .i64 ak,.slice dZ au.length dW]] ?_;refine (zF.calls k ag aj ak _ _ au sy qy ny ly _ (Kd.bi HR3.o (bs HB)) rT.o Hy.o).mono ?_;rintro e w16 ⟨v_,rfl,o_,hb⟩;refine ⟨_,rfl,?_⟩;obtain ⟨Ay,cy,e_⟩:=Kd.ji o_;subst e_;have Xy:=am (Kd.mM (Kd.eF (ok':=(fun k_=>CG.heap.size≤k_∧k_<w16.heap.size)) (Kd.pQ o_) (fun _ q=>⟨q.2.1,q.2.2.1⟩)) HB.o.size);clear o_;replace CH:=am (And.intro CH.o (And.intro T.o hb.size));have T2:=am (Nat.le_refl w16.heap.size);replace B1:=am (aU (ks B1) hb);replace B4:=am (aU (ks B4) hb);replace B5:=am (aU (ks B5) hb);replace B6:=am (aU (ks B6) hb);replace GB:=am (Kd.cu GB.o hb);replace Xx:=am (Kd.l6 Xx.o hb);replace GG:=am (Kd.l6 GG.o hb);replace T:=T2;clear T2;replace HB:=bq HB hb;clear hb;refine hK.out _ _ (rC B5 (hb4 B1)).o (fun hHeld=>?_);clear hK K;refine nA 29 ?_;refine o9 (i:=3) (N:=some 30) #[true,true,true,true,false] rfl rfl (by kernel_rfl) (by decide) (fun K hK=>?_);refine gA Tryz.func9 #[.agg #[.string sx,.string qx,.int .i64 nx,.slice Ax lx.length cx],.agg #[.string sy,.string qy,.int .i64 ny,.slice Ay ly.length cy]] ?_;refine (LA.calls k sx qx nx _ _ lx sy qy ny _ _ ly e2 _ (Kd.sI Xx.o).2.2 (Kd.sI Xx.o).2.1 (Kd.sI Xy.o).2.2 (Kd.sI Xy.o).2.1 He2.o).mono ?_;rintro e MN ⟨rfl,hb⟩;refine ⟨_,rfl,?_⟩;replace B1:=am (aU (ks B1) hb);replace B4:=am (aU (ks B4) hb);replace B5:=am (aU (ks B5) hb);replace B6:=am (aU (ks B6) hb);replace GB:=am (Kd.cu GB.o hb);replace Xx:=am (Kd.l6 Xx.o hb);replace GG:=am (Kd.l6 GG.o hb);replace Xy:=am (Kd.l6 Xy.o hb);replace T:=am (Nat.le_trans T.o hb.size);replace HB:=bq HB hb;clear hb;refine hK.out _ _ (rC B5 (hb4 B1)).o (fun hHeld=>?_);clear hK K;refine nA 30 ?_;refine pu 4 31 #[true,true,true,true,true] ?_
 refine ek (by kernel_rfl) ?_;clear hHeld;clear Xy
 obtain rfl|rfl:=bt e2;rotate_left
 ·replace H:=di H;cases H
 replace H:=dm H;have z1:=aX B1;have z4:=aX B4;have z5:=aX B5;have z6:=aX B6;replace H:=bo H;obtain ⟨⟨m0,r5⟩,Hm0,H⟩:=H;dsimp only at H
 try go_wp2_with (fail)
 go_at_call 13;refine (ayr.calls k (fun k_=>w7.heap.size≤k_∧k_<w8.heap.size) sx qx nx (.slice Ax lx.length cx) lx 1 m0 r5 w _ HB.o Xx.o Hm0.o).mono ?_;rintro e xR ⟨rfl,_,hb,hk⟩;(try clear z1);(try clear z4);(try clear z5);(try clear z6);replace GB:=am (Kd.EH GB.o hk (fun k_ p_ s_=>by have c_:=CH.o;have p1:=p_.1;have p2:=p_.2;have s1:=s_.1;have s2:=s_.2;omega));replace GG:=am (Kd.GN GG.o hk (fun k_ p_ s_=>by have c_:=CH.o;have p1:=p_.1;have p2:=p_.2;have s1:=s_.1;have s2:=s_.2;omega));replace B1:=am (nC B1.o hk (fun s_=>by have c_:=CH.o;have s1:=s_.1;have s2:=s_.2;omega));replace B4:=am (nC B4.o hk (fun s_=>by have c_:=CH.o;have s1:=s_.1;have s2:=s_.2;omega));replace B6:=am (nC B6.o hk (fun s_=>by have c_:=CH.o;have s1:=s_.1;have s2:=s_.2;omega));replace T:=am (Nat.le_trans T.o hk.1);replace HB:=am hb;clear hb hk B5 Xx;have z1:=aX B1;have z4:=aX B4;have z6:=aX B6
 revert H;refine bK ?_ ?_;· intro _ H;cases H
 intro c1 H;replace H:=bo H;obtain ⟨e3,He3,H⟩:=H
 try go_wp2_with (fail)
 go_at_call 12;refine (Cx.calls k sg qg ng _ _ lg sb qb nb _ _ lb e3 _ (Kd.dH (DT GG.o)).2.2 (Kd.dH (DT GG.o)).2.1 (Kd.dH GB.o).2.2 (Kd.dH GB.o).2.1 He3.o).mono ?_;rintro e pz ⟨rfl,hb⟩;(try clear z1);(try clear z4);(try clear z6);replace B1:=am (aU (ks B1) hb);replace B4:=am (aU (ks B4) hb);replace B6:=am (aU (ks B6) hb);replace GB:=am (Kd.cu GB.o hb);replace GG:=am (Kd.l6 GG.o hb);replace T:=am (Nat.le_trans T.o hb.size);replace HB:=bq HB hb;clear hb;have z1:=aX B1;have z4:=aX B4;have z6:=aX B6
 obtain rfl|rfl:=bt e3;rotate_left
 ·replace H:=di H;cases H
 replace H:=dm H;replace H:=bo H;obtain ⟨⟨m1,gm⟩,Hm1,H⟩:=H;dsimp only at H
 try go_wp2_with (fail)
 go_at_call 14;refine (ayq.calls k (fun k_=>qo.heap.size≤k_∧k_<jY.heap.size) sg qg ng (.slice Ag lg.length cg) lg 1 m1 gm w _ HB.o GG.o Hm1.o).mono ?_;rintro e uj ⟨rfl,hG,hb,hk⟩;(try clear z1);(try clear z4);(try clear z6);replace GB:=am (Kd.EH GB.o hk (fun k_ p_ s_=>by have c_:=CH.o;have p1:=p_.1;have p2:=p_.2;have s1:=s_.1;have s2:=s_.2;omega));replace B1:=am (nC B1.o hk (fun s_=>by have c_:=CH.o;have s1:=s_.1;have s2:=s_.2;omega));replace B4:=am (nC B4.o hk (fun s_=>by have c_:=CH.o;have s1:=s_.1;have s2:=s_.2;omega));replace B6:=am (nC B6.o hk (fun s_=>by have c_:=CH.o;have s1:=s_.1;have s2:=s_.2;omega));replace T:=am (Nat.le_trans T.o hk.1);clear GG;have EG:=am (Kd.dH (DT hG)).1;have GG:=am (Kd.dE (ok':=fun k_=>w.heap.size≤k_∧k_<uj.heap.size) (Kd.rV (DT hG)) (fun _ q=>⟨q.2.1,q.2.2.1⟩));replace CH:=am (And.intro CH.o T.o);replace T:=am (Nat.le_refl uj.heap.size);replace HB:=am hb;clear hb hk hG;have z1:=aX B1;have z4:=aX B4;have z6:=aX B6;replace H:=bo H;obtain ⟨q1,Hq1,H⟩:=H
 try go_wp2_with (fail)
 go_at_call 15;refine ajN (args':=#[.agg #[.string sg,.string qg,.int .i64 ng,.slice Ag gm.length cg],.int .i64 1]) (by rw [EG.o]) ?_;refine (FP.calls k sg qg ng _ _ gm 1 q1 _ (Kd.dH GG.o).2.2 (by have h1:=(Kd.dH GG.o).2.1;have h2:=EG.o;omega) Hq1.o).mono ?_;rintro e CJ ⟨rfl,hb⟩;(try clear z1);(try clear z4);(try clear z6);replace B1:=am (aU (ks B1) hb);replace B4:=am (aU (ks B4) hb);replace B6:=am (aU (ks B6) hb);replace GB:=am (Kd.cu GB.o hb);replace GG:=am (Kd.cu GG.o hb);replace T:=am (Nat.le_trans T.o hb.size);replace HB:=bq HB hb;clear hb;have z1:=aX B1;have z4:=aX B4;have z6:=aX B6
 revert H;refine bK ?_ ?_;· intro _ H;cases H
 intro cq1 H;revert H;refine Lb ?_;intro dq1 fq1 H;replace H:=bo H;obtain ⟨⟨sz,qz,nz,lz⟩,Hz,H⟩:=H;dsimp only at H
 try go_wp2_with (fail)
 go_at_call 7;refine (zF.calls k ag aj ak _ _ au sz qz nz lz _ (Kd.bi HR3.o (bs HB)) rT.o Hz.o).mono ?_;rintro e CK ⟨v_,rfl,o_,hb⟩;(try clear z1);(try clear z4);(try clear z6);obtain ⟨Az,cz,e_⟩:=Kd.ji o_;subst e_;have Xz:=am (Kd.mM (Kd.eF (ok':=(fun k_=>CJ.heap.size≤k_∧k_<CK.heap.size)) (Kd.pQ o_) (fun _ q=>⟨q.2.1,q.2.2.1⟩)) HB.o.size);clear o_;replace CH:=am (And.intro CH.o (And.intro T.o hb.size));have T2:=am (Nat.le_refl CK.heap.size);replace B1:=am (aU (ks B1) hb);replace B4:=am (aU (ks B4) hb);replace B6:=am (aU (ks B6) hb);replace GB:=am (Kd.cu GB.o hb);replace GG:=am (Kd.cu GG.o hb);replace T:=T2;clear T2;replace HB:=bq HB hb;clear hb;have z1:=aX B1;have z4:=aX B4;have z6:=aX B6;replace H:=bo H;obtain ⟨⟨sh,qh,nh,lh⟩,Hh,H⟩:=H;dsimp only at H
 try go_wp2_with (fail)
 go_at_call 11;refine (FI.calls k sz qz nz _ _ lz sh qh nh lh _ (Kd.sI Xz.o).2.2 (Kd.sI Xz.o).2.1 (zM HTC (bs HB)) (uQ HTF (bs HB)) (pq HTP (bs HB)) Hh.o).mono ?_;rintro e tH ⟨v_,rfl,o_,hb⟩;(try clear z1);(try clear z4);(try clear z6);obtain ⟨Ah,ch,e_⟩:=Kd.ji o_;subst e_;have GH:=am (Kd.mM (Kd.eF (ok':=(fun k_=>CK.heap.size≤k_∧k_<tH.heap.size)) (Kd.pQ o_) (fun _ q=>⟨q.2.1,q.2.2.1⟩)) HB.o.size);clear o_;replace CH:=am (And.intro CH.o (And.intro T.o hb.size));have T2:=am (Nat.le_refl tH.heap.size);replace B1:=am (aU (ks B1) hb);replace B4:=am (aU (ks B4) hb);replace B6:=am (aU (ks B6) hb);replace GB:=am (Kd.cu GB.o hb);replace GG:=am (Kd.cu GG.o hb);replace Xz:=am (Kd.l6 Xz.o hb);replace T:=T2;clear T2;replace HB:=bq HB hb;clear hb;have z1:=aX B1;have z4:=aX B4;have z6:=aX B6;clear Xz
 try go_wp2_with (first|((with_reducible refine aJ (N:=10) rfl ?_);refine bx 10 (cs:=#[.string (⟨#[]⟩:ByteArray),.string (⟨#[]⟩:ByteArray),.int .i64 0,.slice none 0 0]) (t:=35) ?_;intro g10 hg CL hbox hb;(try clear z1);(try clear z4);(try clear z6);replace CH:=am (And.intro CH.o (And.intro (show _≤g10 from Nat.le_trans T.o (Nat.le_of_eq hg.symm)) (pR hbox)));replace T:=am (Nat.le_refl CL.heap.size);replace B1:=am (aU (ks B1) hb);replace B4:=am (aU (ks B4) hb);replace B6:=am (aU (ks B6) hb);replace GB:=am (Kd.cu GB.o hb);replace GG:=am (Kd.cu GG.o hb);replace GH:=am (Kd.l6 GH.o hb);replace HB:=bq HB hb;clear hb;have B10:=am hbox;clear hbox hg;have z1:=aX B1;have z4:=aX B4;have z6:=aX B6;have QM:=aX B10)|((with_reducible refine oJ (t:=35) (p:=10) rfl ?_);refine pg (t:=35) (p:=10) (v:=?aMN) (w1:=((((CL.setCell ⟨g10,0,none⟩ (.string sh)).setCell ⟨g10,1,none⟩ (.string qh)).setCell ⟨g10,2,none⟩ (.int .i64 nh)).setCell ⟨g10,3,none⟩ (.slice Ah lh.length ch))) ?hg ?ho ?hn ?hr ?_;(case ho=>rfl);(case hg=>rfl);(case hn=>rfl);(case hr=>first|(go_simp;done)|(go_simp;rfl));intro Je hw;(try clear z1);(try clear z4);(try clear z6);(try clear QM);obtain ⟨hx,hk,hB⟩:=NU B10.o hw;clear hw;replace HB:=am (hB _ HB.o (by have c_:=CH.o;omega));replace GB:=am (Kd.EH GB.o hk (fun k_ p_ s_=>by have c_:=CH.o;have p1:=p_.1;have p2:=p_.2;have e_:_=g10:=s_;omega));replace GG:=am (Kd.EH GG.o hk (fun k_ p_ s_=>by have c_:=CH.o;have p1:=p_.1;have p2:=p_.2;have e_:_=g10:=s_;omega));replace GH:=am (Kd.GN GH.o hk (fun k_ p_ s_=>by have c_:=CH.o;have p1:=p_.1;have p2:=p_.2;have e_:_=g10:=s_;omega));replace B1:=am (nC B1.o hk (fun s_=>by have c_:=CH.o;have e_:_=g10:=s_;omega));replace B4:=am (nC B4.o hk (fun s_=>by have c_:=CH.o;have e_:_=g10:=s_;omega));replace B6:=am (nC B6.o hk (fun s_=>by have c_:=CH.o;have e_:_=g10:=s_;omega));replace T:=am (Nat.le_trans T.o hk.1);replace B10:=am hx;clear hx hk hB;have z1:=aX B1;have z4:=aX B4;have z6:=aX B6;have QM:=aX B10))
 replace H:=bo H;obtain ⟨e4,He4,H⟩:=H
 try go_wp2_with (fail)
 go_at_call 12;refine (Cx.calls k sh qh nh _ _ lh sb qb nb _ _ lb e4 _ (Kd.dH (DT GH.o)).2.2 (Kd.dH (DT GH.o)).2.1 (Kd.dH GB.o).2.2 (Kd.dH GB.o).2.1 He4.o).mono ?_;rintro e Qc ⟨rfl,hb⟩;(try clear z1);(try clear z4);(try clear z6);(try clear QM);replace B1:=am (aU (ks B1) hb);replace B4:=am (aU (ks B4) hb);replace B6:=am (aU (ks B6) hb);replace B10:=am (aU (ks B10) hb);replace GB:=am (Kd.cu GB.o hb);replace GG:=am (Kd.cu GG.o hb);replace GH:=am (Kd.l6 GH.o hb);replace T:=am (Nat.le_trans T.o hb.size);replace HB:=bq HB hb;clear hb;have z1:=aX B1;have z4:=aX B4;have z6:=aX B6;have QM:=aX B10
 obtain rfl|rfl:=bt e4;rotate_left
 ·replace H:=di H;cases H
 replace H:=dm H;clear GH;replace H:=bo H;obtain ⟨q2,Hq2,H⟩:=H
 try go_wp2_with (fail)
 go_at_call 15;refine ajN (args':=#[.agg #[.string sg,.string qg,.int .i64 ng,.slice Ag gm.length cg],.int .i64 1]) (by rw [EG.o]) ?_;refine (FP.calls k sg qg ng _ _ gm 1 q2 _ (Kd.dH GG.o).2.2 (by have h1:=(Kd.dH GG.o).2.1;have h2:=EG.o;omega) Hq2.o).mono ?_;rintro e Ec ⟨rfl,hb⟩;(try clear z1);(try clear z4);(try clear z6);(try clear QM);replace B1:=am (aU (ks B1) hb);replace B4:=am (aU (ks B4) hb);replace B6:=am (aU (ks B6) hb);replace B10:=am (aU (ks B10) hb);replace GB:=am (Kd.cu GB.o hb);replace GG:=am (Kd.cu GG.o hb);replace T:=am (Nat.le_trans T.o hb.size);replace HB:=bq HB hb;clear hb;have z1:=aX B1;have z4:=aX B4;have z6:=aX B6;have QM:=aX B10
 revert H;refine bK ?_ ?_;· intro _ H;cases H
 intro cq2 H;revert H;refine Lb ?_;intro dq2 fq2 H;obtain rfl:=si H
 go_wp2
 go_ret
 exact ⟨ff,bs HB⟩
end Go.Proofs.YtapilmimgiaglaaGreatDoor.QX
namespace Go.Proofs.YtapilmimgiaglaaGreatDoor.Rd
open Go.RowKit Go.ChangeShapes Go.WideShapes Go.Proofs.bB.eH
def Rd (P:Program)(t:TypeId){α:Type}(d:Kd α)(wf:α→Prop):Prop :=
 ∀ (H:Type) (enc:TypeId × Value→H) (w:World) (base:Nat) (sp:Nat→Bool) (held:Bool) (fuel:Nat) (cs:List Value) (x:DataW H × List MemPlace),
  DataW.trod enc P w base sp held fuel t cs=some x→∃ a:α,d.K w a cs∧wf a
def Yt (P:Program)(fs:List Field)(off:Nat){α:Type}(d:Kd α)(wf:α→Prop):Prop :=
 ∀ (H:Type) (enc:TypeId × Value→H) (w:World) (base:Nat) (sp:Nat→Bool) (held:Bool) (n:Nat) (cs:List Value),
  cs.length=off+d.sz→(∀ f ∈ fs,∃ y,DataW.trod enc P w base sp held n f.type ((cs.drop f.offset).take (P.cellsOf f.type))=some y)→∃ a:α,d.K w a (cs.drop off)∧wf a
def EK (k:IntKind)(n:Int):Prop:=(Lit.int k n).wf=true
def Dj (s:ByteArray):Prop:=s.size≤maxLen
def RO {α:Type}(wf:α→Prop)(l:List α):Prop:=l.length≤maxLen∧∀ x ∈ l,wf x
theorem PM {P:Program}{t:TypeId}{k:IntKind}(hu:P.underlying t=some (.int k)):Rd P t (Kd.int k) (EK k):=by
 intro H enc w base sp held fuel cs x h
 cases fuel with
 | zero=>simp [DataW.trod] at h
 | succ n =>
  match cs with
  | [.int k' m] =>
   simp only [DataW.trod,hu] at h
   split at h
   ·rename_i hk
    obtain ⟨rfl,hw⟩:=hk
    exact ⟨m,rfl,hw⟩
   ·cases h
  | []=>simp [DataW.trod,hu] at h
  | [.bool _]=>simp [DataW.trod,hu] at h
  | [.float _ _]=>simp [DataW.trod,hu] at h
  | [.complex _ _ _]=>simp [DataW.trod,hu] at h
  | [.string _]=>simp [DataW.trod,hu] at h
  | [.pointer _]=>simp [DataW.trod,hu] at h
  | [.slice _ _ _]=>simp [DataW.trod,hu] at h
  | [.map _]=>simp [DataW.trod,hu] at h
  | [.chan _]=>simp [DataW.trod,hu] at h
  | [.func _ _ _]=>simp [DataW.trod,hu] at h
  | [.nilFunc]=>simp [DataW.trod,hu] at h
  | [.iface _ _]=>simp [DataW.trod,hu] at h
  | [.nilIface]=>simp [DataW.trod,hu] at h
  | [.agg _]=>simp [DataW.trod,hu] at h
  | [.tuple _]=>simp [DataW.trod,hu] at h
  | _ :: _ :: _=>simp [DataW.trod,hu] at h
theorem LU {P:Program}{t:TypeId}(hu:P.underlying t=some .string):Rd P t Kd.string Dj:=by
 intro H enc w base sp held fuel cs x h
 cases fuel with
 | zero=>simp [DataW.trod] at h
 | succ n =>
  match cs with
  | [.string s] =>
   simp only [DataW.trod,hu] at h
   split at h
   ·rename_i hk
    exact ⟨s,rfl,hk⟩
   ·cases h
  | []=>simp [DataW.trod,hu] at h
  | [.int _ _]=>simp [DataW.trod,hu] at h
  | [.bool _]=>simp [DataW.trod,hu] at h
  | [.float _ _]=>simp [DataW.trod,hu] at h
  | [.complex _ _ _]=>simp [DataW.trod,hu] at h
  | [.pointer _]=>simp [DataW.trod,hu] at h
  | [.slice _ _ _]=>simp [DataW.trod,hu] at h
  | [.map _]=>simp [DataW.trod,hu] at h
  | [.chan _]=>simp [DataW.trod,hu] at h
  | [.func _ _ _]=>simp [DataW.trod,hu] at h
  | [.nilFunc]=>simp [DataW.trod,hu] at h
  | [.iface _ _]=>simp [DataW.trod,hu] at h
  | [.nilIface]=>simp [DataW.trod,hu] at h
  | [.agg _]=>simp [DataW.trod,hu] at h
  | [.tuple _]=>simp [DataW.trod,hu] at h
  | _ :: _ :: _=>simp [DataW.trod,hu] at h
theorem agm {P:Program}{f:Field}{off:Nat}{α:Type}{d:Kd α}{wf:α→Prop}(h:Rd P f.type d wf)(ho:f.offset=off)(hc:P.cellsOf f.type=d.sz):Yt P [f] off d wf:=by
 intro H enc w base sp held n cs hl hy
 obtain ⟨y,hy⟩:=hy f (List.mem_singleton.2 rfl)
 rw [ho,hc,List.take_of_length_le (by rw [List.length_drop];omega)] at hy
 exact h H enc w base sp held n _ y hy
theorem AJ {P:Program}{f:Field}{fs:List Field}{off yE:Nat}{α β:Type}{d:Kd α}{e:Kd β}{wf:α→Prop}{wg:β→Prop}(h:Rd P f.type d wf)(ho:f.offset=off)(hc:P.cellsOf f.type=d.sz)
  (h2:yE=off+d.sz) (hs:Yt P fs yE e wg):Yt P (f :: fs) off (Kd.pair d e) (fun x=>wf x.1∧wg x.2):=by
 intro H enc w base sp held n cs hl hy
 obtain ⟨y,hy1⟩:=hy f (List.mem_cons_self ..)
 have hl':cs.length=off+(d.sz+e.sz):=hl
 obtain ⟨a,ha,hwa⟩:=h H enc w base sp held n _ y hy1
 obtain ⟨b,hb,hwb⟩:=hs H enc w base sp held n cs (by omega) (fun g hg=>hy g (List.mem_cons_of_mem _ hg))
 rw [ho,hc] at ha
 refine ⟨(a,b),⟨_,_,?_,ha,hb⟩,hwa,hwb⟩
 rw [h2,← List.drop_drop,List.take_append_drop]
theorem agr {P:Program}{t:TypeId}{fs:Array Field}{α β:Type}{d:Kd α}{wf:α→Prop}{wg:β→Prop}(g:β→α)(gi:α→β)(hg:∀ a,g (gi a)=a)(hwg:∀ a,wf a→wg (gi a))
  (hu:P.underlying t=some (.struct fs)) (hc:P.cellsOf t=d.sz) (hF:Yt P fs.toList 0 d wf):Rd P t (Kd.Am d g) wg:=by
 intro H enc w base sp held fuel cs x h
 obtain ⟨xs,n,_,rfl,hl,hlen,hf⟩:=DataW.trod_struct hu h
 obtain ⟨a,ha,hwa⟩:=hF H enc w base sp held n cs (by omega) (fun f hfm=>by
  obtain ⟨i,hi,rfl⟩:=List.mem_iff_getElem.1 hfm
  have hi':i<fs.size:=by simpa using hi
  have z:=hf i (fs[i]) (by simp [hi'])
  rw [List.getElem?_eq_getElem (by omega)] at z
  exact ⟨_,by simpa using z⟩)
 refine ⟨gi a,?_,hwg a hwa⟩
 show d.K w (g (gi a)) cs
 rw [hg]
 simpa using ha
theorem agq {P:Program}{t e:TypeId}{α:Type}{d:Kd α}{wf:α→Prop}(hu:P.underlying t=some (.slice e))(hc:P.cellsOf e=d.sz)(hd:Rd P e d wf):Rd P t (Kd.slice e d) (RO wf):=by
 intro H enc w base sp held fuel cs x h
 rcases Go.Deep.open_slice hu h with ⟨rfl,_⟩ | ⟨a,len,cap,m,n,D,Pl,rfl,hb,hl,hm,hmm,_,hx⟩
 ·exact ⟨[],⟨none,0,rfl,Nat.le_refl _,rfl,by simp,fun h=>absurd h (by simp)⟩,by simp [maxLen],by simp⟩
 ·have hlm:len≤m:=by rw [hmm];split <;> omega
  have hall:∀ i,i<len→∃ cs',w.cells? base (a.add (i * P.cellsOf e)) (P.cellsOf e)=some cs'∧DataW.trod enc P w base sp held n e cs'=some (D i,Pl i):=fun i hi=>hx i (by omega)
  have key:∀ (k:Nat),k≤len→∃ l:List α,l.length=k∧(∀ x ∈ l,wf x)∧∀ j p,l[j]? = some p→∃ c,c.length=d.sz∧d.K w p c∧∀ i u,c[i]? = some u→w.cell? (a.add (j * d.sz+i))=some u:=by
   intro k
   induction k with
   | zero=>intro _;exact ⟨[],rfl,by simp,by simp⟩
   | succ k ih =>
    intro hk
    obtain ⟨l,hl1,hl2,hl3⟩:=ih (by omega)
    obtain ⟨cs',h1,h2⟩:=hall k (by omega)
    obtain ⟨b,hb1,hb2⟩:=hd H enc w base sp held n cs' _ h2
    refine ⟨l++[b],by simp [hl1],?_,?_⟩
    ·intro z hz
     rcases List.mem_append.1 hz with hz|hz
     ·exact hl2 z hz
     ·rw [List.mem_singleton.1 hz];exact hb2
    ·intro j p hj
     by_cases hjl:j<l.length
     ·rw [List.getElem?_append_left hjl] at hj
      exact hl3 j p hj
     ·rw [List.getElem?_append_right (by omega)] at hj
      have hj0:j - l.length=0:=by
       cases hz:j - l.length with
       | zero=>rfl
       | succ q=>rw [hz] at hj;simp at hj
      rw [hj0] at hj
      obtain rfl:b=p:=by simpa using hj
      have hjk:j=k:=by omega
      subst hjk
      refine ⟨cs',d.K_len hb1,hb1,fun i u hu'=>?_⟩
      obtain ⟨_,hlen',hcell⟩:=World.cells?_some h1
      have hi:i<cs'.length:=by
       rcases Nat.lt_or_ge i cs'.length with h|h
       ·exact h
       ·rw [List.getElem?_eq_none h] at hu';cases hu'
      have z:=hcell i (by omega)
      rw [hu',Go.Deep.add_add,hc] at z
      exact z
  obtain ⟨l,hl1,hl2,hl3⟩:=key len (Nat.le_refl _)
  refine ⟨l,⟨some a,cap,by rw [hl1],by omega,?_⟩,by rw [hl1];exact Nat.le_trans hl hm,hl2⟩
  exact ⟨rfl,by rw [hl1];have:cap≤2 ^ 63 - 1:=hm;omega,fun _=>⟨a,rfl,hl3⟩⟩
end Go.Proofs.YtapilmimgiaglaaGreatDoor.Rd
namespace Go.Proofs.YtapilmimgiaglaaGreatDoor.QX
open Go.RowKit Go.Proofs.YtapilmimgiaglaaGreatDoor Go.Proofs.bB.eH
def agM (x:mJ):Prop:=(Rd.EK .i64) x.f0∧Rd.Dj x.f1∧(Rd.EK .i64) x.f2∧(Rd.EK .i64) x.f3∧Rd.Dj x.f4
def MQ (x:mK):Prop:=(Rd.EK .i64) x.f0∧Rd.Dj x.f1∧Rd.Dj x.f2∧(Rd.EK .i64) x.f3∧(Rd.RO Rd.Dj) x.f4∧(Rd.RO agM) x.f5
def aCA (x:Yu):Prop:=Rd.Dj x.f0∧Rd.Dj x.f1∧(Rd.EK .i64) x.f2∧(Rd.RO MQ) x.f3
theorem azy:Rd.Rd Tryz.prog 127 DN agM:=Rd.agr _ (fun a=>⟨a.1,a.2.1,a.2.2.1,a.2.2.2.1,a.2.2.2.2⟩) (fun _=>rfl) (fun _ h=>h) Tryz.underlying127 (by kernel_rfl) (Rd.AJ (Rd.PM (Tryz.underlying2)) rfl (by kernel_rfl) (yE:=1) rfl (Rd.AJ (Rd.LU (Tryz.underlying9)) rfl (by kernel_rfl) (yE:=2) rfl (Rd.AJ (Rd.PM (Tryz.underlying2)) rfl (by kernel_rfl) (yE:=3) rfl (Rd.AJ (Rd.PM (Tryz.underlying2)) rfl (by kernel_rfl) (yE:=4) rfl (Rd.agm (Rd.LU (Tryz.underlying9)) rfl (by kernel_rfl))))))
theorem azA:Rd.Rd Tryz.prog 56 DR MQ:=Rd.agr _ (fun a=>⟨a.1,a.2.1,a.2.2.1,a.2.2.2.1,a.2.2.2.2.1,a.2.2.2.2.2⟩) (fun _=>rfl) (fun _ h=>h) Tryz.underlying56 (by kernel_rfl) (Rd.AJ (Rd.PM (Tryz.underlying2)) rfl (by kernel_rfl) (yE:=1) rfl (Rd.AJ (Rd.LU (Tryz.underlying9)) rfl (by kernel_rfl) (yE:=2) rfl (Rd.AJ (Rd.LU (Tryz.underlying9)) rfl (by kernel_rfl) (yE:=3) rfl (Rd.AJ (Rd.PM (Tryz.underlying2)) rfl (by kernel_rfl) (yE:=4) rfl (Rd.AJ (Rd.agq Tryz.underlying42 (by kernel_rfl) (Rd.LU (Tryz.underlying9))) rfl (by kernel_rfl) (yE:=5) rfl (Rd.agm (Rd.agq Tryz.underlying54 (by kernel_rfl) azy) rfl (by kernel_rfl)))))))
theorem azz:Rd.Rd Tryz.prog 24 k24 aCA:=Rd.agr _ (fun a=>⟨a.1,a.2.1,a.2.2.1,a.2.2.2⟩) (fun _=>rfl) (fun _ h=>h) Tryz.underlying24 (by kernel_rfl) (Rd.AJ (Rd.LU (Tryz.underlying9)) rfl (by kernel_rfl) (yE:=1) rfl (Rd.AJ (Rd.LU (Tryz.underlying9)) rfl (by kernel_rfl) (yE:=2) rfl (Rd.AJ (Rd.PM (Tryz.underlying2)) rfl (by kernel_rfl) (yE:=3) rfl (Rd.agm (Rd.agq Tryz.underlying22 (by kernel_rfl) azA) rfl (by kernel_rfl)))))
end Go.Proofs.YtapilmimgiaglaaGreatDoor.QX
namespace Go.Proofs.YtapilmimgiaglaaGreatDoor.QX
open Go.Proofs.YtapilmimgiaglaaGreatDoor Go.Proofs.bB.eH
def IC.Pure:Prop:=∀ (ag:ByteArray) (aj:ByteArray) (ak:Int) (au:List mK),Rd.Dj ag→Rd.Dj aj→(Rd.EK .i64) ak→(Rd.RO MQ) au→∃ k,IC.f k ag aj ak au=some true
end Go.Proofs.YtapilmimgiaglaaGreatDoor.QX
