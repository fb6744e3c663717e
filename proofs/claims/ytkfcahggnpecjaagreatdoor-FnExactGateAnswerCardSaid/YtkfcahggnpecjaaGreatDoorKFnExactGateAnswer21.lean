-- Merged by a program of this session (wip/tool/pack.py) out of its own texts for this claim.
import Derived.Test.YtkfcahggnpecjaaGreatDoorKFnExactGateAnswer20
set_option maxHeartbeats 8000000
set_option maxRecDepth 100000
set_option linter.unusedSimpArgs false
set_option linter.unusedVariables false
namespace Go.Proofs.YtkfcahggnpecjaaGreatDoor.QW
open Go.RowKit Go.Proofs.YtkfcahggnpecjaaGreatDoorW.PrintWords Go.Proofs.YtkfcahggnpecjaaGreatDoorW.PrintLast Go.Proofs.YtkfcahggnpecjaaGreatDoorW.PrintMore
attribute [local go_sem] max2_int min2_int max_two min_two max_three min_three max_four min_four   -- for this text's walks alone
theorem laws_markOutS.calls (k:Nat) (P0_:Nat→Prop) (u9000_:Value) (l0:List (S117)) (a1:Int) (r1:Int) (r2:List (S117)) (w0 w:World) (hB:Below w0.heap.size w0 w) (ho0:Kd.R k117 117 w w0.heap.size P0_ u9000_ l0) (h:laws_markOutS.f k l0 a1=some (r1,r2)) :
  Calls Tryz.prog 45 #[u9000_,.int .i64 a1] w fun e w'=>e=.returned (.int .i64 r1)∧Kd.R k117 117 w' w0.heap.size (fun k_=>(P0_ k_∨w.heap.size≤k_)) u9000_ r2∧Below w0.heap.size w0 w'∧Kept w w' (fun k_=>P0_ k_):=by
 have HO:=am (show Kd.R k117 117 w w0.heap.size (fun k_=>(P0_ k_∨w.heap.size≤k_)) u9000_ l0 from Kd.R_mono ho0 (fun _ hk=>(.inl hk)));have HK:=am (Kept.refl w (fun k_=>P0_ k_));have HB:=am hB;have H':=am (show laws_markOutS.l0 k l0 a1 0=some (r1,r2) from h);clear hB h
 go_in
 go_wp2
 go_loopg [1,5] k (fun kq v1 v5 w'=>∃ (x0:List (S117)) (x1:Int) (x5:Int),v1=.int .i64 x1∧v5=.int .i64 x5∧Aside0 (laws_markOutS.l0 kq x0 x1 x5=some (r1,r2))∧Aside0 (kq≤k)∧Aside0 (Kd.R k117 117 w' w0.heap.size (fun k_=>(P0_ k_∨w.heap.size≤k_)) u9000_ x0)∧Aside0 (Kept w w' (fun k_=>P0_ k_))∧Aside0 (Below w0.heap.size w0 w'))
 case atStart=>exact ⟨l0,a1,0,rfl,rfl,H',⟨Nat.le_refl _⟩,HO,HK,HB⟩
 case round =>
  clear H';obtain ⟨x0,x1,x5,rfl,rfl,HA,HK1,HO,HK,HB⟩:=hrel
  cases gk with
  | zero=>exact absurd HA.out (by simp [laws_markOutS.l0])
  | succ k1 =>
   have H:=HA.out;clear HA;simp only [laws_markOutS.l0] at H
   by_cases c3:x5<(x0.length:Int)
   ·rw [if_pos c3] at H;have c3b0:decide (x5<(x0.length:Int))=true:=decide_eq_true c3;obtain ⟨t0,A0,H⟩:=Option.bind_eq_some_iff.mp H;replace A0:=am A0
    revert H;refine id1k ?_
    intro c5 c5b0 H;obtain ⟨t2,A2,H⟩:=Option.bind_eq_some_iff.mp H;replace A2:=am A2;have H':=am H;clear H;obtain ⟨g,cap,oki,c,eo,hM,hL⟩:=hol z117 x5 (S_flat (fun _ _ _ _ _ h=>by obtain rfl:=k117_openM h;exact k117_mkM _ _ _ _) HO.out) HB.out HK.out c5 c3;subst eo;obtain rfl:=k117_openM hM;have HL:=am hL;clear hL hM HO HK HB;replace c3:=eq_true c3;replace c5:=eq_true c5
    go_wp2_with (first|(go_at_call 84;(with_reducible refine (laws_markText.calls k1 x1 t0 _ A0.out).mono ?_);rintro e w0a ⟨rfl,hb⟩;replace HL:=am (HL.out.below hb);clear hb;obtain ⟨hx,hf⟩:=HL.out.nz 5 rfl rfl)|((with_reducible refine gate_store (t:=9) (p:=17) rfl ?_);refine store_event (t:=9) (p:=17) (v:=?vo0) (w1:=(w0a.setCell ⟨g,(x5:Int).toNat * 5,none⟩ (.string t0))) ?hg ?ho ?hn ?hr ?_;(case ho=>rfl);(case hg=>rfl);(case hn=>rfl);(case hr=>first|(go_simp;done)|(go_simp;rfl));intro w0b hw;replace HL:=am (HL.out.put 0 (.string t0) (by decide) rfl hw);clear hw hx hf;obtain ⟨hz,hx,hf⟩:=HL.out.nx 5 1 rfl rfl rfl)|((with_reducible refine gate_store (t:=2) (p:=24) rfl ?_);refine store_event (t:=2) (p:=24) (v:=?vo1) (w1:=(w0b.setCell ⟨g,(x5:Int).toNat * 5+1,none⟩ (.int .i64 (wrap64 (x1+1))))) ?hg ?ho ?hn ?hr ?_;(case ho=>rfl);(case hg=>rfl);(case hn=>rfl);(case hr=>first|(go_simp;done)|(go_simp;rfl));intro w1b hw;replace HL:=am (HL.out.put 1 (.int .i64 (wrap64 (x1+1))) (by decide) rfl hw);clear hw hx hf hz)|(go_at_call 84;(with_reducible refine (laws_markText.calls k1 (wrap64 ((wrap64 (x1+1))+1)) t2 _ A2.out).mono ?_);rintro e w2a ⟨rfl,hb⟩;replace HL:=am (HL.out.below hb);clear hb;obtain ⟨hz,hx,hf⟩:=HL.out.nx 5 2 rfl rfl rfl)|((with_reducible refine gate_store (t:=9) (p:=32) rfl ?_);refine store_event (t:=9) (p:=32) (v:=?vo2) (w1:=(w2a.setCell ⟨g,(x5:Int).toNat * 5+2,none⟩ (.string t2))) ?hg ?ho ?hn ?hr ?_;(case ho=>rfl);(case hg=>rfl);(case hn=>rfl);(case hr=>first|(go_simp;done)|(go_simp;rfl));intro w2b hw;replace HL:=am (HL.out.put 2 (.string t2) (by decide) rfl hw);clear hw hx hf hz;obtain ⟨hz,hx,hf⟩:=HL.out.nx 5 3 rfl rfl rfl)|((with_reducible refine gate_store (t:=2) (p:=39) rfl ?_);refine store_event (t:=2) (p:=39) (v:=?vo3) (w1:=(w2b.setCell ⟨g,(x5:Int).toNat * 5+3,none⟩ (.int .i64 (wrap64 ((wrap64 ((wrap64 (x1+1))+1))+1))))) ?hg ?ho ?hn ?hr ?_;(case ho=>rfl);(case hg=>rfl);(case hn=>rfl);(case hr=>first|(go_simp;done)|(go_simp;rfl));intro w3b hw;replace HL:=am (HL.out.put 3 (.int .i64 (wrap64 ((wrap64 ((wrap64 (x1+1))+1))+1))) (by decide) rfl hw);clear hw hx hf hz;obtain ⟨hz,hx,hf⟩:=HL.out.nx 5 4 rfl rfl rfl)|((with_reducible refine gate_store (t:=2) (p:=46) rfl ?_);refine store_event (t:=2) (p:=46) (v:=?vo4) (w1:=(w3b.setCell ⟨g,(x5:Int).toNat * 5+4,none⟩ (.int .i64 (wrap64 ((wrap64 ((wrap64 ((wrap64 (x1+1))+1))+1))+1))))) ?hg ?ho ?hn ?hr ?_;(case ho=>rfl);(case hg=>rfl);(case hn=>rfl);(case hr=>first|(go_simp;done)|(go_simp;rfl));intro w4b hw;replace HL:=am (HL.out.put 4 (.int .i64 (wrap64 ((wrap64 ((wrap64 ((wrap64 (x1+1))+1))+1))+1))) (by decide) rfl hw);clear hw hx hf hz))
    go_roundg k1
    case measure=>have:=HK1.out;omega
    case rel=>exact ⟨_,_,_,rfl,rfl,H',⟨by have:=HK1.out;omega⟩,⟨HL.out.back (⟨t0,wrap64 (x1+1),t2,wrap64 ((wrap64 ((wrap64 (x1+1))+1))+1),wrap64 ((wrap64 ((wrap64 ((wrap64 (x1+1))+1))+1))+1)⟩:S117) (k117_mkM _ _ _ (⟨t0,wrap64 (x1+1),t2,wrap64 ((wrap64 ((wrap64 (x1+1))+1))+1),wrap64 ((wrap64 ((wrap64 ((wrap64 (x1+1))+1))+1))+1)⟩:S117))⟩,⟨HL.out.hK⟩,⟨HL.out.hB⟩⟩
   ·rw [if_neg c3] at H;have c3b0:decide (x5<(x0.length:Int))=false:=decide_eq_false c3;clear c3;obtain ⟨rfl,rfl⟩:=Prod.mk.inj (Option.some.inj H);obtain ⟨Ao,co,eo⟩:=Kd.R_slice HO.out;subst eo
    go_wp2
    go_ret
    exact ⟨rfl,HO.out,HB.out,HK.out⟩
theorem laws_markGate.calls (k:Nat) (a0_0:ByteArray) (a0_1:Int) (P2:Nat→Prop) (u2:Value) (l2:List S108) (P3:Nat→Prop) (u3:Value) (l3:List S111) (P4:Nat→Prop) (u4:Value) (l4:List S141) (P5:Nat→Prop) (u5:Value) (l5:List S147) (P6:Nat→Prop) (u6:Value) (l6:List S115) (P7:Nat→Prop) (u7:Value) (l7:List S117) (a1:Int) (r:Int) (w0 w:World) (hB:Below w0.heap.size w0 w) (ho2:Kd.S k108 108 w w0.heap.size P2 u2 l2) (ho3:Kd.R k111 111 w w0.heap.size P3 u3 l3) (ho4:Kd.R k141 141 w w0.heap.size P4 u4 l4) (ho5:Kd.R k147 147 w w0.heap.size P5 u5 l5) (ho6:Kd.R k115 115 w w0.heap.size P6 u6 l6) (ho7:Kd.R k117 117 w w0.heap.size P7 u7 l7) (h:laws_markGate.f k a0_0 a0_1 l2 l3 l4 l5 l6 l7 a1=some r) :
  Calls Tryz.prog 10 #[.agg #[.string a0_0,.int .i64 a0_1,u2,u3,u4,u5,u6,u7],.int .i64 a1] w fun e w'=>e=.returned (.int .i64 r)∧Below w0.heap.size w0 w'∧Kept w w' (fun k_=>P2 k_∨P3 k_∨P4 k_∨P5 k_∨P6 k_∨P7 k_):=by
 have hu:=Tryz.underlying47;have hu2:=Tryz.underlying43;obtain ⟨⟨t1,y1⟩,A1,h⟩:=Option.bind_eq_some_iff.mp h;obtain ⟨⟨t2,y2⟩,A2,h⟩:=Option.bind_eq_some_iff.mp h;obtain ⟨⟨t3,y3,y4⟩,A3,h⟩:=Option.bind_eq_some_iff.mp h;obtain ⟨⟨t4,y5⟩,A4,h⟩:=Option.bind_eq_some_iff.mp h;obtain ⟨⟨t5,y6⟩,A5,h⟩:=Option.bind_eq_some_iff.mp h;obtain rfl:=Option.some.inj h;clear h;replace A1:=am A1;replace A2:=am A2;replace A3:=am A3;replace A4:=am A4;replace A5:=am A5;obtain ⟨o2,c2,e2⟩:=Kd.S_slice ho2;obtain ⟨o3,c3,e3⟩:=Kd.R_slice ho3;obtain ⟨o4,c4,e4⟩:=Kd.R_slice ho4;obtain ⟨o5,c5,e5⟩:=Kd.R_slice ho5;obtain ⟨o6,c6,e6⟩:=Kd.R_slice ho6;obtain ⟨o7,c7,e7⟩:=Kd.R_slice ho7;subst e2 e3 e4 e5 e6 e7;have HO2:=am ho2;have HO3:=am ho3;have HO4:=am ho4;have HO5:=am ho5;have HO6:=am ho6;have HO7:=am ho7;have HB:=am hB;have HK:=am (Kept.refl w (fun k_=>P2 k_∨P3 k_∨P4 k_∨P5 k_∨P6 k_∨P7 k_));clear ho2 ho3 ho4 ho5 ho6 ho7 hB
 go_in
 go_wp2_with (first
  | ((with_reducible refine gate_dst (N:=2) rfl ?_);refine bx 2 (cs:=#[.string a0_0,.int .i64 a0_1,.slice o2 l2.length c2,.slice o3 l3.length c3,.slice o4 l4.length c4,.slice o5 l5.length c5,.slice o6 l6.length c6,.slice o7 l7.length c7]) (t:=47) ?_;intro gb hg w7 hbox hb;have BK:=am hbox;replace HO2:=am (Kd.S_below HO2.out hb);replace HO3:=am (Kd.R_below HO3.out hb);replace HO4:=am (Kd.R_below HO4.out hb);replace HO5:=am (Kd.R_below HO5.out hb);replace HO6:=am (Kd.R_below HO6.out hb);replace HO7:=am (Kd.R_below HO7.out hb);replace HK:=am (Kept.below (S:=(fun k_=>P2 k_∨P3 k_∨P4 k_∨P5 k_∨P6 k_∨P7 k_)) HK.out hb);replace HB:=am (below_step HB.out hb);clear hb hbox hg;have hq2:w7.cell? ⟨gb,2,none⟩=some (.slice o2 l2.length c2):=(blk_cell BK.out 2).trans rfl)
  | ((first|((with_reducible refine gate_callee (f:=41) rfl ?_);refine goesL_ (some 8) rfl rfl Tryz.func41 (by kernel_rfl) rfl #[.slice o2 l2.length c2,.int .i64 a1] rfl (by (try simp only [List.map_toArray,List.map_cons,List.map_nil]);first|done|rfl) ?_;(refine (laws_markPartnerS.calls k (fun k_=>P2 k_∧TyP w0.heap.size w7 [108,144] k_) _ l2 a1 t1 y1 w0 _ HB.out (S_tyP2 HO2.out (by decide)) A1.out).mono ?_);rintro e w9 ⟨rfl,hy0,hb,hkp⟩;refine ⟨_,rfl,?_⟩)|(go_at_call 41;(refine (laws_markPartnerS.calls k (fun k_=>P2 k_∧TyP w0.heap.size w7 [108,144] k_) _ l2 a1 t1 y1 w0 _ HB.out (S_tyP2 HO2.out (by decide)) A1.out).mono ?_);rintro e w9 ⟨rfl,hy0,hb,hkp⟩));replace HO3:=am (Kd.R_mono (ok':=P3) (Kd.R_kept (R_noTy HO3.out (by decide)) hkp (fun _ hk_ hs_=>hk_.2 hs_.2)) (fun _ hk_=>hk_.1));replace HO4:=am (Kd.R_mono (ok':=P4) (Kd.R_kept (R_noTy HO4.out (by decide)) hkp (fun _ hk_ hs_=>hk_.2 hs_.2)) (fun _ hk_=>hk_.1));replace HO5:=am (Kd.R_mono (ok':=P5) (Kd.R_kept (R_noTy HO5.out (by decide)) hkp (fun _ hk_ hs_=>hk_.2 hs_.2)) (fun _ hk_=>hk_.1));replace HO6:=am (Kd.R_mono (ok':=P6) (Kd.R_kept (R_noTy HO6.out (by decide)) hkp (fun _ hk_ hs_=>hk_.2 hs_.2)) (fun _ hk_=>hk_.1));replace HO7:=am (Kd.R_mono (ok':=P7) (Kd.R_kept (R_noTy HO7.out (by decide)) hkp (fun _ hk_ hs_=>hk_.2 hs_.2)) (fun _ hk_=>hk_.1));replace BK:=am (blk_kept BK.out hkp (fun hs_=>blk_noTy BK.out (by decide) hs_.2));replace HK:=am (HK.out.then_ hkp (fun _ hs_=>.inl (.inl hs_.1)));replace HB:=am hb;clear hb hkp hy0 HO2 hq2;have hq3:w9.cell? ⟨gb,3,none⟩=some (.slice o3 l3.length c3):=(blk_cell BK.out 3).trans rfl)
  | ((first|((with_reducible refine gate_callee (f:=42) rfl ?_);refine goesL_ (some 12) rfl rfl Tryz.func42 (by kernel_rfl) rfl #[.slice o3 l3.length c3,.int .i64 t1] rfl (by (try simp only [List.map_toArray,List.map_cons,List.map_nil]);first|done|rfl) ?_;(refine (laws_markCrossS.calls k (fun k_=>some k_=(.slice o3 l3.length c3:Value).ownBlock) _ l3 t1 t2 y2 w0 _ HB.out (Kd.R_tight rfl HO3.out) A2.out).mono ?_);rintro e w11 ⟨rfl,hy0,hb,hkp⟩;refine ⟨_,rfl,?_⟩)|(go_at_call 42;(refine (laws_markCrossS.calls k (fun k_=>some k_=(.slice o3 l3.length c3:Value).ownBlock) _ l3 t1 t2 y2 w0 _ HB.out (Kd.R_tight rfl HO3.out) A2.out).mono ?_);rintro e w11 ⟨rfl,hy0,hb,hkp⟩));replace HO4:=am (Kd.R_mono (ok':=P4) (Kd.R_kept (Kd.R_apart' HO4.out (Kd.R_typed HO3.out) (by decide)) hkp (fun _ hk_ hs_=>hk_.2 hs_)) (fun _ hk_=>hk_.1));replace HO5:=am (Kd.R_mono (ok':=P5) (Kd.R_kept (Kd.R_apart' HO5.out (Kd.R_typed HO3.out) (by decide)) hkp (fun _ hk_ hs_=>hk_.2 hs_)) (fun _ hk_=>hk_.1));replace HO6:=am (Kd.R_mono (ok':=P6) (Kd.R_kept (Kd.R_apart' HO6.out (Kd.R_typed HO3.out) (by decide)) hkp (fun _ hk_ hs_=>hk_.2 hs_)) (fun _ hk_=>hk_.1));replace HO7:=am (Kd.R_mono (ok':=P7) (Kd.R_kept (Kd.R_apart' HO7.out (Kd.R_typed HO3.out) (by decide)) hkp (fun _ hk_ hs_=>hk_.2 hs_)) (fun _ hk_=>hk_.1));replace BK:=am (blk_kept BK.out hkp (fun hs_=>(Kd.R_ne HO3.out BK.out (by decide)) hs_));replace HK:=am (HK.out.then_ hkp (fun z_ hs_=>.inl (.inr (.inl (HO3.out.1 z_ hs_.symm)))));replace HB:=am hb;clear hb hkp hy0 HO3 hq3;have hq4:w11.cell? ⟨gb,4,none⟩=some (.slice o4 l4.length c4):=(blk_cell BK.out 4).trans rfl;have hq5:w11.cell? ⟨gb,5,none⟩=some (.slice o5 l5.length c5):=(blk_cell BK.out 5).trans rfl)
  | ((first|((with_reducible refine gate_callee (f:=43) rfl ?_);refine goesL_ (some 16) rfl rfl Tryz.func43 (by kernel_rfl) rfl #[.agg #[.slice o4 l4.length c4,.slice o5 l5.length c5],.int .i64 t2] rfl (by (try simp only [List.map_toArray,List.map_cons,List.map_nil]);first|done|rfl) ?_;(refine (laws_markBook.calls k (fun k_=>some k_=(.slice o4 l4.length c4:Value).ownBlock) _ l4 (fun k_=>some k_=(.slice o5 l5.length c5:Value).ownBlock) _ l5 t2 t3 y3 y4 w0 _ HB.out (Kd.R_tight rfl HO4.out) (Kd.R_tight rfl HO5.out) A3.out).mono ?_);rintro e w13 ⟨rfl,hy0,hy1,hb,hkp⟩;refine ⟨_,rfl,?_⟩)|(go_at_call 43;(refine (laws_markBook.calls k (fun k_=>some k_=(.slice o4 l4.length c4:Value).ownBlock) _ l4 (fun k_=>some k_=(.slice o5 l5.length c5:Value).ownBlock) _ l5 t2 t3 y3 y4 w0 _ HB.out (Kd.R_tight rfl HO4.out) (Kd.R_tight rfl HO5.out) A3.out).mono ?_);rintro e w13 ⟨rfl,hy0,hy1,hb,hkp⟩));replace HO6:=am (Kd.R_mono (ok':=P6) (Kd.R_kept (Kd.R_apart' (Kd.R_apart' HO6.out (Kd.R_typed HO4.out) (by decide)) (Kd.R_typed HO5.out) (by decide)) hkp (fun _ hk_ hs_=>hs_.elim hk_.1.2 hk_.2)) (fun _ hk_=>hk_.1.1));replace HO7:=am (Kd.R_mono (ok':=P7) (Kd.R_kept (Kd.R_apart' (Kd.R_apart' HO7.out (Kd.R_typed HO4.out) (by decide)) (Kd.R_typed HO5.out) (by decide)) hkp (fun _ hk_ hs_=>hs_.elim hk_.1.2 hk_.2)) (fun _ hk_=>hk_.1.1));replace BK:=am (blk_kept BK.out hkp (fun hs_=>hs_.elim (Kd.R_ne HO4.out BK.out (by decide)) (Kd.R_ne HO5.out BK.out (by decide))));replace HK:=am (HK.out.then_ hkp (fun z_ hs_=>.inl (.inr (.inr (hs_.elim (fun e_=>.inl (HO4.out.1 z_ e_.symm)) (fun e_=>.inr (.inl (HO5.out.1 z_ e_.symm))))))));replace HB:=am hb;clear hb hkp hy0 hy1 HO4 HO5 hq4 hq5;have hq6:w13.cell? ⟨gb,6,none⟩=some (.slice o6 l6.length c6):=(blk_cell BK.out 6).trans rfl)
  | ((first|((with_reducible refine gate_callee (f:=44) rfl ?_);refine goesL_ (some 20) rfl rfl Tryz.func44 (by kernel_rfl) rfl #[.slice o6 l6.length c6,.int .i64 t3] rfl (by (try simp only [List.map_toArray,List.map_cons,List.map_nil]);first|done|rfl) ?_;(refine (laws_markDiffS.calls k (fun k_=>some k_=(.slice o6 l6.length c6:Value).ownBlock) _ l6 t3 t4 y5 w0 _ HB.out (Kd.R_tight rfl HO6.out) A4.out).mono ?_);rintro e w15 ⟨rfl,hy0,hb,hkp⟩;refine ⟨_,rfl,?_⟩)|(go_at_call 44;(refine (laws_markDiffS.calls k (fun k_=>some k_=(.slice o6 l6.length c6:Value).ownBlock) _ l6 t3 t4 y5 w0 _ HB.out (Kd.R_tight rfl HO6.out) A4.out).mono ?_);rintro e w15 ⟨rfl,hy0,hb,hkp⟩));replace HO7:=am (Kd.R_mono (ok':=P7) (Kd.R_kept (Kd.R_apart' HO7.out (Kd.R_typed HO6.out) (by decide)) hkp (fun _ hk_ hs_=>hk_.2 hs_)) (fun _ hk_=>hk_.1));replace BK:=am (blk_kept BK.out hkp (fun hs_=>(Kd.R_ne HO6.out BK.out (by decide)) hs_));replace HK:=am (HK.out.then_ hkp (fun z_ hs_=>.inl (.inr (.inr (.inr (.inr (.inl (HO6.out.1 z_ hs_.symm))))))));replace HB:=am hb;clear hb hkp hy0 HO6 hq6;have hq7:w15.cell? ⟨gb,7,none⟩=some (.slice o7 l7.length c7):=(blk_cell BK.out 7).trans rfl)
  | ((first|((with_reducible refine gate_callee (f:=45) rfl ?_);refine goesL_ (some 24) rfl rfl Tryz.func45 (by kernel_rfl) rfl #[.slice o7 l7.length c7,.int .i64 t4] rfl (by (try simp only [List.map_toArray,List.map_cons,List.map_nil]);first|done|rfl) ?_;(refine (laws_markOutS.calls k (fun k_=>some k_=(.slice o7 l7.length c7:Value).ownBlock) _ l7 t4 t5 y6 w0 _ HB.out (Kd.R_tight rfl HO7.out) A5.out).mono ?_);rintro e w17 ⟨rfl,hy0,hb,hkp⟩;refine ⟨_,rfl,?_⟩)|(go_at_call 45;(refine (laws_markOutS.calls k (fun k_=>some k_=(.slice o7 l7.length c7:Value).ownBlock) _ l7 t4 t5 y6 w0 _ HB.out (Kd.R_tight rfl HO7.out) A5.out).mono ?_);rintro e w17 ⟨rfl,hy0,hb,hkp⟩));replace HK:=am (HK.out.then_ hkp (fun z_ hs_=>.inl (.inr (.inr (.inr (.inr (.inr (HO7.out.1 z_ hs_.symm))))))));replace HB:=am hb;clear hb hkp hy0 HO7 hq7 BK))
 go_ret
 exact ⟨rfl,HB.out,HK.out⟩
theorem laws_markStringS.calls (k:Nat) (P0_:Nat→Prop) (u9000_:Value) (l0:List ByteArray) (a1:Int) (r1:Int) (r2:List ByteArray) (w0 w:World) (hB:Below w0.heap.size w0 w) (ho0:Kd.R Kd.string 9 w w0.heap.size P0_ u9000_ l0) (H:laws_markStringS.f k l0 a1=some (r1,r2)) :
  Calls Tryz.prog 46 #[u9000_,.int .i64 a1] w fun e w'=>e=.returned (.int .i64 r1)∧Kd.R Kd.string 9 w' w0.heap.size (fun k_=>(P0_ k_∨w.heap.size≤k_)) u9000_ r2∧Below w0.heap.size w0 w'∧Kept w w' (fun k_=>P0_ k_):=by
 have HO0:=am (show Kd.R Kd.string 9 w w0.heap.size (fun k_=>(P0_ k_∨w.heap.size≤k_)) u9000_ l0 from Kd.R_mono ho0 (fun k_ hk=>(.inl hk)));have HK:=am (Kept.refl w (fun k_=>P0_ k_));have HW0:=am hB.size;have HB:=am hB;clear hB;unfold laws_markStringS.f at H;have H':=am H;clear H
 go_in
 go_wp2
 go_loopg [1,5] k (fun kq v1 v5 w'=>∃ (x0_1:List ByteArray) (x1_1:Int) (x5_1:Int),v1=.int .i64 x1_1∧v5=.int .i64 x5_1∧Aside0 (laws_markStringS.l0 kq x0_1 x1_1 x5_1=some (r1,r2))∧Aside0 (kq≤k)∧Aside0 (Kd.R Kd.string 9 w' w0.heap.size (fun k_=>(P0_ k_∨w.heap.size≤k_)) u9000_ x0_1)∧Aside0 (Kept w w' (fun k_=>P0_ k_))∧Aside0 (Below w0.heap.size w0 w'))
 case atStart=>exact ⟨(l0),(a1),(0),fg,fg,H',⟨Nat.le_refl _⟩,⟨rz HO0.out⟩,⟨by repeat (first|(with_reducible first|exact HK.out|apply Kept.alloc|apply Kept.drewN|apply Kept.drew)|exact HK.out)⟩,⟨bs HB⟩⟩
 case round =>
  clear H'
  obtain ⟨x0_1,x1_1,x5_1,rfl,rfl,HA,HK1,HO_0,HK,HB⟩:=hrel
  cases gk with
  | zero=>exact absurd HA.out (by simp [laws_markStringS.l0])
  | succ k1 =>
   have H:=HA.out;clear HA;simp only [laws_markStringS.l0] at H
   revert H;refine id2 ?_ ?_
   ·intro c3b0 H;replace H:=bo H;obtain ⟨t13,A4,H⟩:=H
    revert H;refine id1 ?_
    intro c5b0 H;obtain ⟨y12,hy12⟩:∃ y_:List ByteArray,y_=(x0_1.set (x5_1:Int).toNat t13):=⟨_,rfl⟩
    replace H:(laws_markStringS.l0 k1 y12 (wrap64 (x1_1+1)) (wrap64 (x5_1+1)))=some (r1,r2):=ye hy12 H
    have Ny12:=am hy12;clear hy12;have H':=am H;clear H;obtain ⟨Ao7,co7,eo7⟩:=Kd.R_slice HO_0.out;subst eo7
    go_wp2_with (first|((first|((with_reducible refine gate_callee (f:=84) rfl ?_);refine goesL_ (some 15) rfl rfl Tryz.func84 (by kernel_rfl) rfl #[.int .i64 x1_1] rfl (by (try simp only [List.map_toArray,List.map_cons,List.map_nil]);first|done|rfl|(simp only [List.length_drop,List.length_take];rfl)) ?_;(with_reducible refine (laws_markText.calls k1 x1_1 t13 _ A4.out).mono ?_);rintro e w8 ⟨rfl,hb⟩;refine ⟨_,rfl,?_⟩)|(go_at_call 84;(with_reducible refine (laws_markText.calls k1 x1_1 t13 _ A4.out).mono ?_);rintro e w8 ⟨rfl,hb⟩));replace HO_0:=am (Kd.R_below (rs HO_0) hb);replace HK:=am (Kept.below (S:=(fun k_=>P0_ k_)) (by repeat (first|(with_reducible first|exact HK.out|apply Kept.alloc|apply Kept.drewN|apply Kept.drew)|exact HK.out)) hb);replace HB:=bq HB hb;(try clear hb);(try clear hb2);(try clear hk);(try clear hi);have p6:0≤(x5_1:Int):=oa;have q6:(x5_1:Int)<((x0_1.length:Int):Int):=oa;obtain ⟨go6,co6,eo6,gb6,gl6,cl6,HG6⟩:=Kd.R_form HO_0.out (by omega);(first|cases eo6|(injection eo6 with ea_ en_ ec_;(first|subst ea_|(injection ea_ with ea_;subst ea_));subst ec_;clear en_));have GB6:=am gb6;have GG6:=am HG6;clear gb6 gl6 HG6;have HMgo6:=am (show (P0_ go6∨w.heap.size≤go6) from (HO_0.out.1 _ rfl));obtain ⟨hx6_0,hf6_0⟩:=Kd.R_celln (⟨#[]⟩:ByteArray) HO_0.out (x5_1:Int) p6 q6;replace p6:=eq_true p6;replace q6:=eq_true q6;obtain ⟨hy9_,hz9_⟩:=Kd.R_celln (⟨#[]⟩:ByteArray) HO_0.out (x5_1:Int) (oa) (oa);have HP9:=Kd.R_putg HO_0.out (x5_1:Int) t13)|((with_reducible refine gate_store (t:=9) (p:=16) rfl ?_);refine store_event (t:=9) (p:=16) (v:=?vo_w10) (w1:=(w8.setCell ⟨go6,(x5_1:Int).toNat,none⟩ (.string t13))) ?hg ?ho ?hn ?hr ?_;(case ho=>rfl);(case hg=>rfl);(case hn=>rfl);(case hr=>first|(go_simp;done)|(go_simp;rfl));intro w10 hw;have hg:w8.grownBy w10 (some go6):=(by rw [hw];exact HP9.2);have hp_:Kd.R Kd.string 9 w10 w0.heap.size (fun k_=>(P0_ k_∨w.heap.size≤k_)) (.slice (some ⟨go6,0,none⟩) x0_1.length co7) y12:=(by rw [hw,Ny12.out];exact HP9.1);clear HP9;have n0_:=am (hp_);have n1_:=am ((by rw [hw];exact below_set (HB.out) GB6.out:Below w0.heap.size w0 w10));have n2_:=am (Kept.of_grown (S:=(fun k_=>P0_ k_)) hg (by repeat (first|(with_reducible first|exact HK.out|apply Kept.alloc|apply Kept.drewN|apply Kept.drew)|exact HK.out)) (fun k_ e_=>(HO_0.out.1 k_ e_)));clear HO_0;clear HB;clear HK;have HO_0:=n0_;have HB:=n1_;have HK:=n2_;clear n0_ n1_ n2_;clear hg hw hp_))
    go_roundg k1
    case measure=>have:=HK1.out;omega
    case rel=>exact ⟨(y12),(wrap64 (x1_1+1)),(wrap64 (x5_1+1)),fg,fg,H',⟨by have:=HK1.out;omega⟩,⟨rz HO_0.out⟩,⟨by repeat (first|(with_reducible first|exact HK.out|apply Kept.alloc|apply Kept.drewN|apply Kept.drew)|exact HK.out)⟩,⟨bs HB⟩⟩
   ·intro c3b0 H;replace H:=sj2 H;obtain ⟨rfl,rfl⟩:=H;obtain ⟨Ao11,co11,eo11⟩:=Kd.R_slice HO_0.out;subst eo11
    go_wp2
    go_ret
    exact ⟨ff,by (with_reducible repeat (first|apply Kd.R_alloc|apply Kd.R_drewN|apply Kd.R_drew));exact HO_0.out,bs HB,by repeat (first|(with_reducible first|exact HK.out|apply Kept.alloc|apply Kept.drewN|apply Kept.drew)|exact HK.out)⟩
theorem laws_markLineS.calls (k:Nat) (P0_:Nat→Prop) (u9000_:Value) (l0:List (S64)) (a1:Int) (r1:Int) (r2:List (S64)) (w0 w:World) (hB:Below w0.heap.size w0 w) (ho0:Kd.R k64 64 w w0.heap.size P0_ u9000_ l0) (h:laws_markLineS.f k l0 a1=some (r1,r2)) :
  Calls Tryz.prog 47 #[u9000_,.int .i64 a1] w fun e w'=>e=.returned (.int .i64 r1)∧Kd.R k64 64 w' w0.heap.size (fun k_=>(P0_ k_∨w.heap.size≤k_)) u9000_ r2∧Below w0.heap.size w0 w'∧Kept w w' (fun k_=>P0_ k_):=by
 have HO:=am (show Kd.R k64 64 w w0.heap.size (fun k_=>(P0_ k_∨w.heap.size≤k_)) u9000_ l0 from Kd.R_mono ho0 (fun _ hk=>(.inl hk)));have HK:=am (Kept.refl w (fun k_=>P0_ k_));have HB:=am hB;have H':=am (show laws_markLineS.l0 k l0 a1 0=some (r1,r2) from h);clear hB h
 go_in
 go_wp2
 go_loopg [1,5] k (fun kq v1 v5 w'=>∃ (x0:List (S64)) (x1:Int) (x5:Int),v1=.int .i64 x1∧v5=.int .i64 x5∧Aside0 (laws_markLineS.l0 kq x0 x1 x5=some (r1,r2))∧Aside0 (kq≤k)∧Aside0 (Kd.R k64 64 w' w0.heap.size (fun k_=>(P0_ k_∨w.heap.size≤k_)) u9000_ x0)∧Aside0 (Kept w w' (fun k_=>P0_ k_))∧Aside0 (Below w0.heap.size w0 w'))
 case atStart=>exact ⟨l0,a1,0,rfl,rfl,H',⟨Nat.le_refl _⟩,HO,HK,HB⟩
 case round =>
  clear H';obtain ⟨x0,x1,x5,rfl,rfl,HA,HK1,HO,HK,HB⟩:=hrel
  cases gk with
  | zero=>exact absurd HA.out (by simp [laws_markLineS.l0])
  | succ k1 =>
   have H:=HA.out;clear HA;simp only [laws_markLineS.l0] at H
   by_cases c3:x5<(x0.length:Int)
   ·rw [if_pos c3] at H;have c3b0:decide (x5<(x0.length:Int))=true:=decide_eq_true c3
    revert H;refine id1k ?_
    intro c5 c5b0 H;obtain ⟨t1,A1,H⟩:=Option.bind_eq_some_iff.mp H;replace A1:=am A1;obtain ⟨t4,A4,H⟩:=Option.bind_eq_some_iff.mp H;replace A4:=am A4;have H':=am H;clear H;obtain ⟨g,cap,oki,c,eo,hM,hL⟩:=hol z64 x5 (S_flat (fun _ _ _ _ _ h=>by obtain rfl:=k64_openM h;exact k64_mkM _ _ _ _) HO.out) HB.out HK.out c5 c3;subst eo;obtain rfl:=k64_openM hM;have HL:=am hL;clear hL hM HO HK HB;replace c3:=eq_true c3;replace c5:=eq_true c5;obtain ⟨hx,hf⟩:=HL.out.nz 5 rfl rfl
    go_wp2_with (first|((with_reducible refine gate_store (t:=2) (p:=16) rfl ?_);refine store_event (t:=2) (p:=16) (v:=?vo0) (w1:=(wr.setCell ⟨g,(x5:Int).toNat * 5,none⟩ (.int .i64 x1))) ?hg ?ho ?hn ?hr ?_;(case ho=>rfl);(case hg=>rfl);(case hn=>rfl);(case hr=>first|(go_simp;done)|(go_simp;rfl));intro w0b hw;replace HL:=am (HL.out.put 0 (.int .i64 x1) (by decide) rfl hw);clear hw hx hf)|(go_at_call 84;(with_reducible refine (laws_markText.calls k1 (wrap64 (x1+1)) t1 _ A1.out).mono ?_);rintro e w1a ⟨rfl,hb⟩;replace HL:=am (HL.out.below hb);clear hb;obtain ⟨hz,hx,hf⟩:=HL.out.nx 5 1 rfl rfl rfl)|((with_reducible refine gate_store (t:=9) (p:=24) rfl ?_);refine store_event (t:=9) (p:=24) (v:=?vo1) (w1:=(w1a.setCell ⟨g,(x5:Int).toNat * 5+1,none⟩ (.string t1))) ?hg ?ho ?hn ?hr ?_;(case ho=>rfl);(case hg=>rfl);(case hn=>rfl);(case hr=>first|(go_simp;done)|(go_simp;rfl));intro w1b hw;replace HL:=am (HL.out.put 1 (.string t1) (by decide) rfl hw);clear hw hx hf hz;obtain ⟨hz,hx,hf⟩:=HL.out.nx 5 2 rfl rfl rfl)|((with_reducible refine gate_store (t:=2) (p:=31) rfl ?_);refine store_event (t:=2) (p:=31) (v:=?vo2) (w1:=(w1b.setCell ⟨g,(x5:Int).toNat * 5+2,none⟩ (.int .i64 (wrap64 ((wrap64 (x1+1))+1))))) ?hg ?ho ?hn ?hr ?_;(case ho=>rfl);(case hg=>rfl);(case hn=>rfl);(case hr=>first|(go_simp;done)|(go_simp;rfl));intro w2b hw;replace HL:=am (HL.out.put 2 (.int .i64 (wrap64 ((wrap64 (x1+1))+1))) (by decide) rfl hw);clear hw hx hf hz;obtain ⟨hz,hx,hf⟩:=HL.out.nx 5 3 rfl rfl rfl)|((with_reducible refine gate_store (t:=2) (p:=38) rfl ?_);refine store_event (t:=2) (p:=38) (v:=?vo3) (w1:=(w2b.setCell ⟨g,(x5:Int).toNat * 5+3,none⟩ (.int .i64 (wrap64 ((wrap64 ((wrap64 (x1+1))+1))+1))))) ?hg ?ho ?hn ?hr ?_;(case ho=>rfl);(case hg=>rfl);(case hn=>rfl);(case hr=>first|(go_simp;done)|(go_simp;rfl));intro w3b hw;replace HL:=am (HL.out.put 3 (.int .i64 (wrap64 ((wrap64 ((wrap64 (x1+1))+1))+1))) (by decide) rfl hw);clear hw hx hf hz)|(go_at_call 84;(with_reducible refine (laws_markText.calls k1 (wrap64 ((wrap64 ((wrap64 ((wrap64 (x1+1))+1))+1))+1)) t4 _ A4.out).mono ?_);rintro e w4a ⟨rfl,hb⟩;replace HL:=am (HL.out.below hb);clear hb;obtain ⟨hz,hx,hf⟩:=HL.out.nx 5 4 rfl rfl rfl)|((with_reducible refine gate_store (t:=9) (p:=46) rfl ?_);refine store_event (t:=9) (p:=46) (v:=?vo4) (w1:=(w4a.setCell ⟨g,(x5:Int).toNat * 5+4,none⟩ (.string t4))) ?hg ?ho ?hn ?hr ?_;(case ho=>rfl);(case hg=>rfl);(case hn=>rfl);(case hr=>first|(go_simp;done)|(go_simp;rfl));intro w4b hw;replace HL:=am (HL.out.put 4 (.string t4) (by decide) rfl hw);clear hw hx hf hz))
    go_roundg k1
    case measure=>have:=HK1.out;omega
    case rel=>exact ⟨_,_,_,rfl,rfl,H',⟨by have:=HK1.out;omega⟩,⟨HL.out.back (⟨x1,t1,wrap64 ((wrap64 (x1+1))+1),wrap64 ((wrap64 ((wrap64 (x1+1))+1))+1),t4⟩:S64) (k64_mkM _ _ _ (⟨x1,t1,wrap64 ((wrap64 (x1+1))+1),wrap64 ((wrap64 ((wrap64 (x1+1))+1))+1),t4⟩:S64))⟩,⟨HL.out.hK⟩,⟨HL.out.hB⟩⟩
   ·rw [if_neg c3] at H;have c3b0:decide (x5<(x0.length:Int))=false:=decide_eq_false c3;clear c3;obtain ⟨rfl,rfl⟩:=Prod.mk.inj (Option.some.inj H);obtain ⟨Ao,co,eo⟩:=Kd.R_slice HO.out;subst eo
    go_wp2
    go_ret
    exact ⟨rfl,HO.out,HB.out,HK.out⟩
theorem laws_markPaper.calls (k:Nat) (a0_0:Int) (a0_1:ByteArray) (a0_2:ByteArray) (a0_3:Int) (P0_4_:Nat→Prop) (u9000_:Value) (l0_4:List ByteArray) (P0_5_:Nat→Prop) (u9001_:Value) (l0_5:List (S64)) (a1:Int) (r1:Int) (r2:List ByteArray) (r3:List (S64)) (w0 w:World) (hB:Below w0.heap.size w0 w) (ho0_4:Kd.R Kd.string 9 w w0.heap.size P0_4_ u9000_ l0_4) (ho0_5:Kd.R k64 64 w w0.heap.size P0_5_ u9001_ l0_5) (H:laws_markPaper.f k a0_0 a0_1 a0_2 a0_3 l0_4 l0_5 a1=some (r1,r2,r3)) :
  Calls Tryz.prog 11 #[.agg #[.int .i64 a0_0,.string a0_1,.string a0_2,.int .i64 a0_3,u9000_,u9001_],.int .i64 a1] w fun e w'=>e=.returned (.int .i64 r1)∧Kd.R Kd.string 9 w' w0.heap.size (fun k_=>((P0_4_ k_∨P0_5_ k_)∨w.heap.size≤k_)) u9000_ r2∧Kd.R k64 64 w' w0.heap.size (fun k_=>((P0_4_ k_∨P0_5_ k_)∨w.heap.size≤k_)) u9001_ r3∧Below w0.heap.size w0 w'∧Kept w w' (fun k_=>P0_4_ k_∨P0_5_ k_):=by
 have hu36:=Tryz.underlying36;have HO0_4:=am (show Kd.R Kd.string 9 w w0.heap.size (fun k_=>((P0_4_ k_∨P0_5_ k_)∨w.heap.size≤k_)) u9000_ l0_4 from Kd.R_mono ho0_4 (fun k_ hk=>(.inl (.inl hk))));have HO0_5:=am (show Kd.R k64 64 w w0.heap.size (fun k_=>((P0_4_ k_∨P0_5_ k_)∨w.heap.size≤k_)) u9001_ l0_5 from Kd.R_mono ho0_5 (fun k_ hk=>(.inl (.inr hk))));have HK:=am (Kept.refl w (fun k_=>P0_4_ k_∨P0_5_ k_));have HW0:=am hB.size;have HB:=am hB;clear hB;unfold laws_markPaper.f at H;replace H:=bo H;obtain ⟨⟨t14,t15⟩,A3,H⟩:=H;(try dsimp only at H);replace H:=bo H;obtain ⟨⟨t16,t17⟩,A4,H⟩:=H;(try dsimp only at H);replace H:=sj3 H;obtain ⟨rfl,rfl,rfl⟩:=H;obtain ⟨Ao5,co5,eo5⟩:=Kd.R_slice HO0_4.out;subst eo5;obtain ⟨Ao6,co6,eo6⟩:=Kd.R_slice HO0_5.out;subst eo6
 go_in
 go_wp2_with (first|((with_reducible refine gate_dst (N:=2) rfl ?_);refine bx 2 (cs:=#[.int .i64 a0_0,.string a0_1,.string a0_2,.int .i64 a0_3,.slice Ao5 l0_4.length co5,.slice Ao6 l0_5.length co6]) (t:=36) ?_;intro gb13 hg w7 hbox hb;have n0_:=am (Kd.R_below (rs HO0_4) hb);have n1_:=am (Kd.R_below (rs HO0_5) hb);have n2_:=am (Kept.below (S:=(fun k_=>P0_4_ k_∨P0_5_ k_)) (by repeat (first|(with_reducible first|exact HK.out|apply Kept.alloc|apply Kept.drewN|apply Kept.drew)|exact HK.out)) hb);have n3_:=am (below_step (bs HB) hb);have n4_:=am (hbox);have n5_:=am ((by rw [hg];exact (by first|exact HK.out.1|exact (show Kept w _ (fun k_=>P0_4_ k_∨P0_5_ k_) from by repeat (first|(with_reducible first|exact HK.out|apply Kept.alloc|apply Kept.drewN|apply Kept.drew)|exact HK.out)).1):w.heap.size≤gb13));have n6_:=am ((gs hg (bs HB)));clear HO0_4;clear HO0_5;clear HK;clear HB;have HO0_4:=n0_;have HO0_5:=n1_;have HK:=n2_;have HB:=n3_;have BK13:=n4_;have GW13:=n5_;have GE13:=n6_;clear n0_ n1_ n2_ n3_ n4_ n5_ n6_;clear hb hbox hg;have hcz8_0:w7.cell? ⟨gb13,0,none⟩=some (.int .i64 a0_0):=(blk_cell BK13.out 0).trans rfl;have hcz8_1:w7.cell? ⟨gb13,1,none⟩=some (.string a0_1):=(blk_cell BK13.out 1).trans rfl;have hcz8_2:w7.cell? ⟨gb13,2,none⟩=some (.string a0_2):=(blk_cell BK13.out 2).trans rfl;have hcz8_3:w7.cell? ⟨gb13,3,none⟩=some (.int .i64 a0_3):=(blk_cell BK13.out 3).trans rfl;have hcz8_4:w7.cell? ⟨gb13,4,none⟩=some (.slice Ao5 l0_4.length co5):=(blk_cell BK13.out 4).trans rfl;have hcz8_5:w7.cell? ⟨gb13,5,none⟩=some (.slice Ao6 l0_5.length co6):=(blk_cell BK13.out 5).trans rfl;have hfz8_0:=blk_frozen BK13.out 0;have hfz8_1:=blk_frozen BK13.out 1;have hfz8_2:=blk_frozen BK13.out 2;have hfz8_3:=blk_frozen BK13.out 3;have hfz8_4:=blk_frozen BK13.out 4;have hfz8_5:=blk_frozen BK13.out 5)|((first|((with_reducible refine gate_callee (f:=46) rfl ?_);refine goesL_ (some 8) rfl rfl Tryz.func46 (by kernel_rfl) rfl #[.slice Ao5 l0_4.length co5,.int .i64 a1] rfl (by (try simp only [List.map_toArray,List.map_cons,List.map_nil]);first|done|rfl|(simp only [List.length_drop,List.length_take];rfl)) ?_;(with_reducible refine (laws_markStringS.calls k (fun k_=>some k_=(.slice Ao5 l0_4.length co5:Value).ownBlock) (.slice Ao5 l0_4.length co5) l0_4 a1 t14 t15 w0 _ ?side1 ?side2 A3.out).mono ?_);(case side1=>repeat (first|(with_reducible first|exact HB.out|apply below_alloc|apply pw_below_drewN|apply below_drew1|refine below_set ?_ GE13.out)|exact HB.out));(case side2=>exact Kd.R_tight rfl HO0_4.out);rintro e w9 ⟨rfl,hy0,hb,hkp⟩;refine ⟨_,rfl,?_⟩)|(go_at_call 46;(with_reducible refine (laws_markStringS.calls k (fun k_=>some k_=(.slice Ao5 l0_4.length co5:Value).ownBlock) (.slice Ao5 l0_4.length co5) l0_4 a1 t14 t15 w0 _ ?side1 ?side2 A3.out).mono ?_);(case side1=>repeat (first|(with_reducible first|exact HB.out|apply below_alloc|apply pw_below_drewN|apply below_drew1|refine below_set ?_ GE13.out)|exact HB.out));(case side2=>exact Kd.R_tight rfl HO0_4.out);rintro e w9 ⟨rfl,hy0,hb,hkp⟩));replace HO0_5:=am (Kd.R_mono (ok':=fun k_=>((P0_4_ k_∨P0_5_ k_)∨w.heap.size≤k_)) (Kd.R_keptB ((Kd.R_apart' HO0_5.out (Kd.R_typed HO0_4.out) (by decide))) hkp (fun k_ hk_ hs_=>(hk_.2) hs_)) (fun k_ hk_=>hk_.1.1));replace BK13:=am (blk_kept (ks BK13) hkp (fun hs_=>(fun e_=>(Kd.R_ne HO0_4.out BK13.out (by decide)) e_) hs_));replace HK:=am (Kept.then_ (S:=(fun k_=>P0_4_ k_∨P0_5_ k_)) (by repeat (first|(with_reducible first|exact HK.out|apply Kept.alloc|apply Kept.drewN|apply Kept.drew|refine Kept.setCell ?_ (.inr GW13.out) _)|exact HK.out)) hkp (fun k_ hs_=>(fun e_=>(HO0_4.out.1 k_ e_.symm)) hs_));replace HO0_4:=am (Kd.R_reok rfl hy0 (fun k_ e_=>HO0_4.out.1 k_ e_));replace HB:=am (hb);(try clear hb);(try clear hkp);(try clear hy0);have hcz10_0:w9.cell? ⟨gb13,0,none⟩=some (.int .i64 a0_0):=(blk_cell BK13.out 0).trans rfl;have hcz10_1:w9.cell? ⟨gb13,1,none⟩=some (.string a0_1):=(blk_cell BK13.out 1).trans rfl;have hcz10_2:w9.cell? ⟨gb13,2,none⟩=some (.string a0_2):=(blk_cell BK13.out 2).trans rfl;have hcz10_3:w9.cell? ⟨gb13,3,none⟩=some (.int .i64 a0_3):=(blk_cell BK13.out 3).trans rfl;have hcz10_4:w9.cell? ⟨gb13,4,none⟩=some (.slice Ao5 l0_4.length co5):=(blk_cell BK13.out 4).trans rfl;have hcz10_5:w9.cell? ⟨gb13,5,none⟩=some (.slice Ao6 l0_5.length co6):=(blk_cell BK13.out 5).trans rfl;have hfz10_0:=blk_frozen BK13.out 0;have hfz10_1:=blk_frozen BK13.out 1;have hfz10_2:=blk_frozen BK13.out 2;have hfz10_3:=blk_frozen BK13.out 3;have hfz10_4:=blk_frozen BK13.out 4;have hfz10_5:=blk_frozen BK13.out 5)|((first|((with_reducible refine gate_callee (f:=47) rfl ?_);refine goesL_ (some 12) rfl rfl Tryz.func47 (by kernel_rfl) rfl #[.slice Ao6 l0_5.length co6,.int .i64 t14] rfl (by (try simp only [List.map_toArray,List.map_cons,List.map_nil]);first|done|rfl|(simp only [List.length_drop,List.length_take];rfl)) ?_;(with_reducible refine (laws_markLineS.calls k (fun k_=>some k_=(.slice Ao6 l0_5.length co6:Value).ownBlock) (.slice Ao6 l0_5.length co6) l0_5 t14 t16 t17 w0 _ ?side1 ?side2 A4.out).mono ?_);(case side1=>repeat (first|(with_reducible first|exact HB.out|apply below_alloc|apply pw_below_drewN|apply below_drew1|refine below_set ?_ GE13.out)|exact HB.out));(case side2=>exact Kd.R_tight rfl HO0_5.out);rintro e w11 ⟨rfl,hy0,hb,hkp⟩;refine ⟨_,rfl,?_⟩)|(go_at_call 47;(with_reducible refine (laws_markLineS.calls k (fun k_=>some k_=(.slice Ao6 l0_5.length co6:Value).ownBlock) (.slice Ao6 l0_5.length co6) l0_5 t14 t16 t17 w0 _ ?side1 ?side2 A4.out).mono ?_);(case side1=>repeat (first|(with_reducible first|exact HB.out|apply below_alloc|apply pw_below_drewN|apply below_drew1|refine below_set ?_ GE13.out)|exact HB.out));(case side2=>exact Kd.R_tight rfl HO0_5.out);rintro e w11 ⟨rfl,hy0,hb,hkp⟩));replace HO0_4:=am (Kd.R_mono (ok':=fun k_=>((P0_4_ k_∨P0_5_ k_)∨w.heap.size≤k_)) (Kd.R_keptB ((Kd.R_apart' HO0_4.out (Kd.R_typed HO0_5.out) (by decide))) hkp (fun k_ hk_ hs_=>(hk_.2) hs_)) (fun k_ hk_=>hk_.1.1));replace BK13:=am (blk_kept (ks BK13) hkp (fun hs_=>(fun e_=>(Kd.R_ne HO0_5.out BK13.out (by decide)) e_) hs_));replace HK:=am (Kept.then_ (S:=(fun k_=>P0_4_ k_∨P0_5_ k_)) (by repeat (first|(with_reducible first|exact HK.out|apply Kept.alloc|apply Kept.drewN|apply Kept.drew|refine Kept.setCell ?_ (.inr GW13.out) _)|exact HK.out)) hkp (fun k_ hs_=>(fun e_=>(HO0_5.out.1 k_ e_.symm)) hs_));replace HO0_5:=am (Kd.R_reok rfl hy0 (fun k_ e_=>HO0_5.out.1 k_ e_));replace HB:=am (hb);(try clear hb);(try clear hkp);(try clear hy0)))
 go_ret
 exact ⟨ff,by (with_reducible repeat (first|apply Kd.R_alloc|apply Kd.R_drewN|apply Kd.R_drew));exact HO0_4.out,by (with_reducible repeat (first|apply Kd.R_alloc|apply Kd.R_drewN|apply Kd.R_drew));exact HO0_5.out,bs HB,by repeat (first|(with_reducible first|exact HK.out|apply Kept.alloc|apply Kept.drewN|apply Kept.drew|refine Kept.setCell ?_ (.inr GW13.out) _)|exact HK.out)⟩
theorem laws_heldStringS.calls (k:Nat) (A0:Option Addr) (c0:Nat) (l0:List ByteArray) (a1:Int) (r:Int) (w:World) (hr0:Kd.C Kd.string w A0 l0.length l0) (hc0:l0.length≤c0) (H:laws_heldStringS.f k l0 a1=some r) :
  Calls Tryz.prog 48 #[.slice A0 l0.length c0,.int .i64 a1] w fun e w'=>e=.returned (.int .i64 r)∧Below w.heap.size w w':=by
 have HR0:=am hr0;have HC0:=am hc0;clear hr0 hc0;have HB:=am (Below.refl w.heap.size w);unfold laws_heldStringS.f at H;have H':=am H;clear H
 go_in
 go_wp2
 go_loopg [1,5] k (fun kq v1 v5 w'=>∃ (x1_1:Int) (x5_1:Int),v1=.int .i64 x1_1∧v5=.int .i64 x5_1∧Aside0 (laws_heldStringS.l0 kq l0 x1_1 x5_1=some r)∧Aside0 (kq≤k)∧Aside0 (Below w.heap.size w w'))
 case atStart=>exact ⟨(a1),(0),fg,fg,H',⟨Nat.le_refl _⟩,⟨bs HB⟩⟩
 case round =>
  clear H'
  obtain ⟨x1_1,x5_1,rfl,rfl,HA,HK1,HB⟩:=hrel
  cases gk with
  | zero=>exact absurd HA.out (by simp [laws_heldStringS.l0])
  | succ k1 =>
   have H:=HA.out;clear HA;simp only [laws_heldStringS.l0] at H
   revert H;refine id2 ?_ ?_
   ·intro c3b0 H
    revert H;refine id1 ?_
    intro c4b0 H;replace H:=bo H;obtain ⟨t19,A5,H⟩:=H
    revert H;refine ie2 ?_ ?_
    ·intro c6b0 c6b1 H;have H':=am H;clear H
     try go_wp2
     replace HB:=am (below_drew1 HB.out);have p11:0≤(x5_1:Int):=oa;have q11:x5_1<(l0.length:Int):=oa;obtain ⟨ad11,e11,hx11_0⟩:=Kd.at_string HR0.out x5_1 p11 q11;have hw11_0:=hx11_0
     cases e11
     replace hx11_0:=cb HB hx11_0;replace p11:=eq_true p11;replace q11:=eq_true q11;refine sta 7 (hc (cb HB hw11_0)) (fun hHeld=>?_)
     generalize wr.drew=w7 at HB hx11_0 hHeld ⊢
     refine pure_ (i:=0) (N:=some 12) (v:=?_) (a':=?_) #[true,false,false,false,false,false,false] rfl rfl (by kernel_rfl) (fun _ _ _ h=>h) (Or.inl ⟨by rfl,?_⟩) ?_ ?_
     rotate_left
     ·intro w'
      go_simp
      (with_reducible rfl)
     rotate_left
     ·simp only [Act.put,List.setIfInBounds_toArray,List.set_cons_zero,List.set_cons_succ,i64_w,i32_w]
      rfl
     refine pure_ (i:=1) (N:=some 13) (v:=?_) (a':=?_) #[true,true,false,false,false,false,false] rfl rfl (by kernel_rfl) (fun _ _ _ h=>h) (Or.inl ⟨by rfl,?_⟩) ?_ ?_
     rotate_left
     ·intro w'
      go_simp
      (with_reducible rfl)
     rotate_left
     ·simp only [Act.put,List.setIfInBounds_toArray,List.set_cons_zero,List.set_cons_succ,i64_w,i32_w]
      rfl
     refine pure_ (i:=2) (N:=some 14) (v:=?_) (a':=?_) #[true,true,true,false,false,false,false] rfl rfl (by kernel_rfl) (fun _ _ _ h=>h) (Or.inl ⟨by rfl,?_⟩) ?_ ?_
     rotate_left
     ·intro w'
      go_simp
      (with_reducible rfl)
     rotate_left
     ·simp only [Act.put,List.setIfInBounds_toArray,List.set_cons_zero,List.set_cons_succ,i64_w,i32_w]
      rfl
     refine pure_ (i:=4) (N:=some 16) (v:=?_) (a':=?_) #[true,true,true,false,true,false,false] rfl rfl (by kernel_rfl) (fun _ _ _ h=>h) (Or.inl ⟨by rfl,?_⟩) ?_ ?_
     rotate_left
     ·intro w'
      go_simp
      (with_reducible rfl)
     rotate_left
     ·simp only [Act.put,List.setIfInBounds_toArray,List.set_cons_zero,List.set_cons_succ,i64_w,i32_w]
      rfl
     refine take_ (i:=3) (N:=some 15) (v:=?_) (a':=?_) #[true,true,true,true,true,false,false] rfl rfl (by kernel_rfl) (fun _ _ _ h=>h) (Or.inl ⟨by rfl,?_⟩) hHeld ?_ ?_
     rotate_left
     ·intro w' s0
      go_simp
      (with_reducible rfl)
     rotate_left
     ·simp only [Act.put,List.setIfInBounds_toArray,List.set_cons_zero,List.set_cons_succ,i64_w,i32_w]
      rfl
     refine one_ (i:=5) (N:=some 17) #[true,true,true,true,true,true,false] rfl rfl (by kernel_rfl) (by decide) (fun K hK=>?_);refine gA Tryz.func84 #[.int .i64 x1_1] ?_;(with_reducible refine (laws_markText.calls k1 x1_1 t19 _ A5.out).mono ?_);rintro e w8 ⟨rfl,hb⟩;refine ⟨_,rfl,?_⟩;replace HB:=bq HB hb;(try clear hb);(try clear hb2);(try clear hk);(try clear hi);refine hK.out _ _ (hc (cb HB hw11_0)).out (fun hHeld=>?_);clear hK K;refine nA 17 ?_;refine pure_ (i:=6) (N:=some 18) (v:=?_) (a':=?_) #[true,true,true,true,true,true,true] rfl rfl (by kernel_rfl) (fun _ _ _ h=>h) (Or.inl ⟨by rfl,?_⟩) ?_ ?_
     rotate_left
     ·intro w'
      go_simp
      (with_reducible rfl)
     rotate_left
     ·simp only [Act.put,List.setIfInBounds_toArray,List.set_cons_zero,List.set_cons_succ,i64_w,i32_w]
      rfl
     refine done_ (by kernel_rfl) ?_
     try go_wp2
     go_roundg k1
     case measure=>have:=HK1.out;omega
     case rel=>exact ⟨(wrap64 (x1_1+1)),(wrap64 (x5_1+1)),fg,fg,H',⟨by have:=HK1.out;omega⟩,⟨bs HB⟩⟩
    ·intro c6 c6b0 c6b1 H;obtain rfl:=si H
     try go_wp2
     replace HB:=am (below_drew1 HB.out);have p11:0≤(x5_1:Int):=oa;have q11:x5_1<(l0.length:Int):=oa;obtain ⟨ad11,e11,hx11_0⟩:=Kd.at_string HR0.out x5_1 p11 q11;have hw11_0:=hx11_0
     cases e11
     replace hx11_0:=cb HB hx11_0;replace p11:=eq_true p11;replace q11:=eq_true q11;refine sta 7 (hc (cb HB hw11_0)) (fun hHeld=>?_)
     generalize wr.drew=w9 at HB hx11_0 hHeld ⊢
     refine pure_ (i:=0) (N:=some 12) (v:=?_) (a':=?_) #[true,false,false,false,false,false,false] rfl rfl (by kernel_rfl) (fun _ _ _ h=>h) (Or.inl ⟨by rfl,?_⟩) ?_ ?_
     rotate_left
     ·intro w'
      go_simp
      (with_reducible rfl)
     rotate_left
     ·simp only [Act.put,List.setIfInBounds_toArray,List.set_cons_zero,List.set_cons_succ,i64_w,i32_w]
      rfl
     refine pure_ (i:=1) (N:=some 13) (v:=?_) (a':=?_) #[true,true,false,false,false,false,false] rfl rfl (by kernel_rfl) (fun _ _ _ h=>h) (Or.inl ⟨by rfl,?_⟩) ?_ ?_
     rotate_left
     ·intro w'
      go_simp
      (with_reducible rfl)
     rotate_left
     ·simp only [Act.put,List.setIfInBounds_toArray,List.set_cons_zero,List.set_cons_succ,i64_w,i32_w]
      rfl
     refine pure_ (i:=2) (N:=some 14) (v:=?_) (a':=?_) #[true,true,true,false,false,false,false] rfl rfl (by kernel_rfl) (fun _ _ _ h=>h) (Or.inl ⟨by rfl,?_⟩) ?_ ?_
     rotate_left
     ·intro w'
      go_simp
      (with_reducible rfl)
     rotate_left
     ·simp only [Act.put,List.setIfInBounds_toArray,List.set_cons_zero,List.set_cons_succ,i64_w,i32_w]
      rfl
     refine pure_ (i:=4) (N:=some 16) (v:=?_) (a':=?_) #[true,true,true,false,true,false,false] rfl rfl (by kernel_rfl) (fun _ _ _ h=>h) (Or.inl ⟨by rfl,?_⟩) ?_ ?_
     rotate_left
     ·intro w'
      go_simp
      (with_reducible rfl)
     rotate_left
     ·simp only [Act.put,List.setIfInBounds_toArray,List.set_cons_zero,List.set_cons_succ,i64_w,i32_w]
      rfl
     refine take_ (i:=3) (N:=some 15) (v:=?_) (a':=?_) #[true,true,true,true,true,false,false] rfl rfl (by kernel_rfl) (fun _ _ _ h=>h) (Or.inl ⟨by rfl,?_⟩) hHeld ?_ ?_
     rotate_left
     ·intro w' s0
      go_simp
      (with_reducible rfl)
     rotate_left
     ·simp only [Act.put,List.setIfInBounds_toArray,List.set_cons_zero,List.set_cons_succ,i64_w,i32_w]
      rfl
     refine one_ (i:=5) (N:=some 17) #[true,true,true,true,true,true,false] rfl rfl (by kernel_rfl) (by decide) (fun K hK=>?_);refine gA Tryz.func84 #[.int .i64 x1_1] ?_;(with_reducible refine (laws_markText.calls k1 x1_1 t19 _ A5.out).mono ?_);rintro e w10 ⟨rfl,hb⟩;refine ⟨_,rfl,?_⟩;replace HB:=bq HB hb;(try clear hb);(try clear hb2);(try clear hk);(try clear hi);refine hK.out _ _ (hc (cb HB hw11_0)).out (fun hHeld=>?_);clear hK K;refine nA 17 ?_;refine pure_ (i:=6) (N:=some 18) (v:=?_) (a':=?_) #[true,true,true,true,true,true,true] rfl rfl (by kernel_rfl) (fun _ _ _ h=>h) (Or.inl ⟨by rfl,?_⟩) ?_ ?_
     rotate_left
     ·intro w'
      go_simp
      (with_reducible rfl)
     rotate_left
     ·simp only [Act.put,List.setIfInBounds_toArray,List.set_cons_zero,List.set_cons_succ,i64_w,i32_w]
      rfl
     refine done_ (by kernel_rfl) ?_
     try go_wp2
     go_ret
     exact ⟨ff,bs HB⟩
   ·intro c3b0 H;obtain rfl:=si H
    go_wp2
    go_ret
    exact ⟨ff,bs HB⟩
def laws_heldLineS.T7:Bool × List (List Nat × List Nat):=(true,[([],[]),([],[]),([0,1],[0,1]),([2],[2]),([3],[3]),([],[]),([5],[5]),([4,6],[4,6])])
def laws_heldLineS.B7:List Nat:=[0,0,3,7,15,0,32,127]
theorem laws_heldLineS.tab7:rtab .any (opsOf Tryz.f49 7)=laws_heldLineS.T7:=by kernel_rfl
theorem laws_heldLineS.bits7:waitsOk laws_heldLineS.T7.2 laws_heldLineS.B7=true:=by kernel_rfl
def laws_heldLineS.T16:Bool × List (List Nat × List Nat):=(true,[([],[]),([],[]),([0,1],[0,1]),([2],[2]),([3],[3]),([],[]),([5],[5]),([4,6],[4,6])])
def laws_heldLineS.B16:List Nat:=[0,0,3,7,15,0,32,127]
theorem laws_heldLineS.tab16:rtab .any (opsOf Tryz.f49 16)=laws_heldLineS.T16:=by kernel_rfl
theorem laws_heldLineS.bits16:waitsOk laws_heldLineS.T16.2 laws_heldLineS.B16=true:=by kernel_rfl
theorem laws_heldLineS.calls (k:Nat) (A0:Option Addr) (c0:Nat) (l0:List (S64)) (a1:Int) (r:Int) (w:World) (hr0:Kd.C k64 w A0 l0.length l0) (hc0:l0.length≤c0) (H:laws_heldLineS.f k l0 a1=some r) :
  Calls Tryz.prog 49 #[.slice A0 l0.length c0,.int .i64 a1] w fun e w'=>e=.returned (.int .i64 r)∧Below w.heap.size w w':=by
 have HR0:=am hr0;have HC0:=am hc0;clear hr0 hc0;have HB:=am (Below.refl w.heap.size w);unfold laws_heldLineS.f at H;have H':=am H;clear H
 go_in
 go_wp2
 go_loopg [1,5] k (fun kq v1 v5 w'=>∃ (x1_1:Int) (x5_1:Int),v1=.int .i64 x1_1∧v5=.int .i64 x5_1∧Aside0 (laws_heldLineS.l0 kq l0 x1_1 x5_1=some r)∧Aside0 (kq≤k)∧Aside0 (Below w.heap.size w w'))
 case atStart=>exact ⟨(a1),(0),fg,fg,H',⟨Nat.le_refl _⟩,⟨bs HB⟩⟩
 case round =>
  clear H'
  obtain ⟨x1_1,x5_1,rfl,rfl,HA,HK1,HB⟩:=hrel
  cases gk with
  | zero=>exact absurd HA.out (by simp [laws_heldLineS.l0])
  | succ k1 =>
   have H:=HA.out;clear HA;simp only [laws_heldLineS.l0] at H
   revert H;refine id2 ?_ ?_
   ·intro c3b0 H
    revert H;refine id1 ?_
    intro c4b0 H
    revert H;refine ie2 ?_ ?_
    ·intro c5b0 c5b1 H;replace H:=bo H;obtain ⟨t34,A6,H⟩:=H
     revert H;refine ie2 ?_ ?_
     ·intro c7b0 c7b1 H
      revert H;refine ie2 ?_ ?_
      ·intro c8b0 c8b1 H
       revert H;refine ie2 ?_ ?_
       ·intro c9b0 c9b1 H;replace H:=bo H;obtain ⟨t35,A10,H⟩:=H
        revert H;refine ie2 ?_ ?_
        ·intro c11b0 c11b1 H;have H':=am H;clear H;have p30:0≤(x5_1:Int):=oa;have q30:x5_1<(l0.length:Int):=oa;obtain ⟨ad30,e30,hx30_0,hx30_1,hx30_2,hx30_3,hx30_4⟩:=at_T64 HR0.out x5_1 p30 q30
         cases e30
         replace hx30_0:=cb HB hx30_0;replace hx30_1:=cb HB hx30_1;replace hx30_2:=cb HB hx30_2;replace hx30_3:=cb HB hx30_3;replace hx30_4:=cb HB hx30_4;replace p30:=eq_true p30;replace q30:=eq_true q30
         try go_wp2
         replace HB:=am (below_drew1 HB.out);have p29:0≤(x5_1:Int):=oa;have q29:x5_1<(l0.length:Int):=oa;obtain ⟨ad29,e29,hx29_0,hx29_1,hx29_2,hx29_3,hx29_4⟩:=at_T64 HR0.out x5_1 p29 q29;have hw29_4:=hx29_4;have hw29_3:=hx29_3;have hw29_2:=hx29_2;have hw29_1:=hx29_1;have hw29_0:=hx29_0;obtain rfl:ad30=ad29:=(by injection e29);replace hx29_0:=cb HB hx29_0;replace hx29_1:=cb HB hx29_1;replace hx29_2:=cb HB hx29_2;replace hx29_3:=cb HB hx29_3;replace hx29_4:=cb HB hx29_4;replace p29:=eq_true p29;replace q29:=eq_true q29;refine sta 8 (hca (cb HB hw29_0) (hca (cb HB hw29_1) (hca (cb HB hw29_2) (hca (cb HB hw29_3) (hc (cb HB hw29_4)))))) (fun hHeld=>?_);refine with_tabW laws_heldLineS.tab7 laws_heldLineS.bits7 (fun HT_ HW_=>?_)
         generalize wr.drew=w12 at HB hx29_0 hx29_1 hx29_2 hx29_3 hx29_4 hHeld ⊢
         refine pA 0 21 HT_ ?_;refine pA 1 22 HT_ ?_;refine pA 2 23 HT_ ?_;refine pA 3 24 HT_ ?_;refine pA 5 26 HT_ ?_;refine tA 4 25 HT_ HW_ hHeld ?_;refine oA 6 27 HT_ (fun K hK=>?_);refine gA Tryz.func84 #[.int .i64 (wrap64 (x1_1+1))] ?_;(with_reducible refine (laws_markText.calls k1 (wrap64 (x1_1+1)) t34 _ A6.out).mono ?_);rintro e w13 ⟨rfl,hb⟩;refine ⟨_,rfl,?_⟩;replace HB:=bq HB hb;(try clear hb);(try clear hb2);(try clear hk);(try clear hi);refine hK.out _ _ (hca (cb HB hw29_0) (hca (cb HB hw29_1) (hca (cb HB hw29_2) (hca (cb HB hw29_3) (hc (cb HB hw29_4)))))).out (fun hHeld=>?_);clear hK K;refine nA 27 ?_;refine pA 7 28 HT_ ?_;refine done_ (done_of HT_.out (by kernel_rfl)) ?_;have p31:0≤(x5_1:Int):=oa;have q31:x5_1<(l0.length:Int):=oa;obtain ⟨ad31,e31,hx31_0,hx31_1,hx31_2,hx31_3,hx31_4⟩:=at_T64 HR0.out x5_1 p31 q31;obtain rfl:ad30=ad31:=(by injection e31);replace hx31_0:=cb HB hx31_0;replace hx31_1:=cb HB hx31_1;replace hx31_2:=cb HB hx31_2;replace hx31_3:=cb HB hx31_3;replace hx31_4:=cb HB hx31_4;replace p31:=eq_true p31;replace q31:=eq_true q31;have p33:0≤(x5_1:Int):=oa;have q33:x5_1<(l0.length:Int):=oa;obtain ⟨ad33,e33,hx33_0,hx33_1,hx33_2,hx33_3,hx33_4⟩:=at_T64 HR0.out x5_1 p33 q33;obtain rfl:ad30=ad33:=(by injection e33);replace hx33_0:=cb HB hx33_0;replace hx33_1:=cb HB hx33_1;replace hx33_2:=cb HB hx33_2;replace hx33_3:=cb HB hx33_3;replace hx33_4:=cb HB hx33_4;replace p33:=eq_true p33;replace q33:=eq_true q33
         try go_wp2
         replace HB:=am (below_drew1 HB.out);have p32:0≤(x5_1:Int):=oa;have q32:x5_1<(l0.length:Int):=oa;obtain ⟨ad32,e32,hx32_0,hx32_1,hx32_2,hx32_3,hx32_4⟩:=at_T64 HR0.out x5_1 p32 q32;have hw32_4:=hx32_4;have hw32_3:=hx32_3;have hw32_2:=hx32_2;have hw32_1:=hx32_1;have hw32_0:=hx32_0;obtain rfl:ad30=ad32:=(by injection e32);replace hx32_0:=cb HB hx32_0;replace hx32_1:=cb HB hx32_1;replace hx32_2:=cb HB hx32_2;replace hx32_3:=cb HB hx32_3;replace hx32_4:=cb HB hx32_4;replace p32:=eq_true p32;replace q32:=eq_true q32;refine sta 8 (hca (cb HB hw32_0) (hca (cb HB hw32_1) (hca (cb HB hw32_2) (hca (cb HB hw32_3) (hc (cb HB hw32_4)))))) (fun hHeld=>?_);refine with_tabW laws_heldLineS.tab16 laws_heldLineS.bits16 (fun HT_ HW_=>?_)
         generalize w13.drew=w14 at HB hx32_0 hx32_1 hx32_2 hx32_3 hx32_4 hHeld ⊢
         refine pA 0 49 HT_ ?_;refine pA 1 50 HT_ ?_;refine pA 2 51 HT_ ?_;refine pA 3 52 HT_ ?_;refine pA 5 54 HT_ ?_;refine tA 4 53 HT_ HW_ hHeld ?_;refine oA 6 55 HT_ (fun K hK=>?_);refine gA Tryz.func84 #[.int .i64 (wrap64 ((wrap64 ((wrap64 ((wrap64 (x1_1+1))+1))+1))+1))] ?_;(with_reducible refine (laws_markText.calls k1 (wrap64 ((wrap64 ((wrap64 ((wrap64 (x1_1+1))+1))+1))+1)) t35 _ A10.out).mono ?_);rintro e w15 ⟨rfl,hb⟩;refine ⟨_,rfl,?_⟩;replace HB:=bq HB hb;(try clear hb);(try clear hb2);(try clear hk);(try clear hi);refine hK.out _ _ (hca (cb HB hw32_0) (hca (cb HB hw32_1) (hca (cb HB hw32_2) (hca (cb HB hw32_3) (hc (cb HB hw32_4)))))).out (fun hHeld=>?_);clear hK K;refine nA 55 ?_;refine pA 7 56 HT_ ?_;refine done_ (done_of HT_.out (by kernel_rfl)) ?_
         try go_wp2
         go_roundg k1
         case measure=>have:=HK1.out;omega
         case rel=>exact ⟨(wrap64 ((wrap64 ((wrap64 ((wrap64 ((wrap64 (x1_1+1))+1))+1))+1))+1)),(wrap64 (x5_1+1)),fg,fg,H',⟨by have:=HK1.out;omega⟩,⟨bs HB⟩⟩
        ·intro c11 c11b0 c11b1 H;obtain rfl:=si H;have p30:0≤(x5_1:Int):=oa;have q30:x5_1<(l0.length:Int):=oa;obtain ⟨ad30,e30,hx30_0,hx30_1,hx30_2,hx30_3,hx30_4⟩:=at_T64 HR0.out x5_1 p30 q30
         cases e30
         replace hx30_0:=cb HB hx30_0;replace hx30_1:=cb HB hx30_1;replace hx30_2:=cb HB hx30_2;replace hx30_3:=cb HB hx30_3;replace hx30_4:=cb HB hx30_4;replace p30:=eq_true p30;replace q30:=eq_true q30
         try go_wp2
         replace HB:=am (below_drew1 HB.out);have p29:0≤(x5_1:Int):=oa;have q29:x5_1<(l0.length:Int):=oa;obtain ⟨ad29,e29,hx29_0,hx29_1,hx29_2,hx29_3,hx29_4⟩:=at_T64 HR0.out x5_1 p29 q29;have hw29_4:=hx29_4;have hw29_3:=hx29_3;have hw29_2:=hx29_2;have hw29_1:=hx29_1;have hw29_0:=hx29_0;obtain rfl:ad30=ad29:=(by injection e29);replace hx29_0:=cb HB hx29_0;replace hx29_1:=cb HB hx29_1;replace hx29_2:=cb HB hx29_2;replace hx29_3:=cb HB hx29_3;replace hx29_4:=cb HB hx29_4;replace p29:=eq_true p29;replace q29:=eq_true q29;refine sta 8 (hca (cb HB hw29_0) (hca (cb HB hw29_1) (hca (cb HB hw29_2) (hca (cb HB hw29_3) (hc (cb HB hw29_4)))))) (fun hHeld=>?_);refine with_tabW laws_heldLineS.tab7 laws_heldLineS.bits7 (fun HT_ HW_=>?_)
         generalize wr.drew=w16 at HB hx29_0 hx29_1 hx29_2 hx29_3 hx29_4 hHeld ⊢
         refine pA 0 21 HT_ ?_;refine pA 1 22 HT_ ?_;refine pA 2 23 HT_ ?_;refine pA 3 24 HT_ ?_;refine pA 5 26 HT_ ?_;refine tA 4 25 HT_ HW_ hHeld ?_;refine oA 6 27 HT_ (fun K hK=>?_);refine gA Tryz.func84 #[.int .i64 (wrap64 (x1_1+1))] ?_;(with_reducible refine (laws_markText.calls k1 (wrap64 (x1_1+1)) t34 _ A6.out).mono ?_);rintro e w17 ⟨rfl,hb⟩;refine ⟨_,rfl,?_⟩;replace HB:=bq HB hb;(try clear hb);(try clear hb2);(try clear hk);(try clear hi);refine hK.out _ _ (hca (cb HB hw29_0) (hca (cb HB hw29_1) (hca (cb HB hw29_2) (hca (cb HB hw29_3) (hc (cb HB hw29_4)))))).out (fun hHeld=>?_);clear hK K;refine nA 27 ?_;refine pA 7 28 HT_ ?_;refine done_ (done_of HT_.out (by kernel_rfl)) ?_;have p31:0≤(x5_1:Int):=oa;have q31:x5_1<(l0.length:Int):=oa;obtain ⟨ad31,e31,hx31_0,hx31_1,hx31_2,hx31_3,hx31_4⟩:=at_T64 HR0.out x5_1 p31 q31;obtain rfl:ad30=ad31:=(by injection e31);replace hx31_0:=cb HB hx31_0;replace hx31_1:=cb HB hx31_1;replace hx31_2:=cb HB hx31_2;replace hx31_3:=cb HB hx31_3;replace hx31_4:=cb HB hx31_4;replace p31:=eq_true p31;replace q31:=eq_true q31;have p33:0≤(x5_1:Int):=oa;have q33:x5_1<(l0.length:Int):=oa;obtain ⟨ad33,e33,hx33_0,hx33_1,hx33_2,hx33_3,hx33_4⟩:=at_T64 HR0.out x5_1 p33 q33;obtain rfl:ad30=ad33:=(by injection e33);replace hx33_0:=cb HB hx33_0;replace hx33_1:=cb HB hx33_1;replace hx33_2:=cb HB hx33_2;replace hx33_3:=cb HB hx33_3;replace hx33_4:=cb HB hx33_4;replace p33:=eq_true p33;replace q33:=eq_true q33
         try go_wp2
         replace HB:=am (below_drew1 HB.out);have p32:0≤(x5_1:Int):=oa;have q32:x5_1<(l0.length:Int):=oa;obtain ⟨ad32,e32,hx32_0,hx32_1,hx32_2,hx32_3,hx32_4⟩:=at_T64 HR0.out x5_1 p32 q32;have hw32_4:=hx32_4;have hw32_3:=hx32_3;have hw32_2:=hx32_2;have hw32_1:=hx32_1;have hw32_0:=hx32_0;obtain rfl:ad30=ad32:=(by injection e32);replace hx32_0:=cb HB hx32_0;replace hx32_1:=cb HB hx32_1;replace hx32_2:=cb HB hx32_2;replace hx32_3:=cb HB hx32_3;replace hx32_4:=cb HB hx32_4;replace p32:=eq_true p32;replace q32:=eq_true q32;refine sta 8 (hca (cb HB hw32_0) (hca (cb HB hw32_1) (hca (cb HB hw32_2) (hca (cb HB hw32_3) (hc (cb HB hw32_4)))))) (fun hHeld=>?_);refine with_tabW laws_heldLineS.tab16 laws_heldLineS.bits16 (fun HT_ HW_=>?_)
         generalize w17.drew=w18 at HB hx32_0 hx32_1 hx32_2 hx32_3 hx32_4 hHeld ⊢
         refine pA 0 49 HT_ ?_;refine pA 1 50 HT_ ?_;refine pA 2 51 HT_ ?_;refine pA 3 52 HT_ ?_;refine pA 5 54 HT_ ?_;refine tA 4 53 HT_ HW_ hHeld ?_;refine oA 6 55 HT_ (fun K hK=>?_);refine gA Tryz.func84 #[.int .i64 (wrap64 ((wrap64 ((wrap64 ((wrap64 (x1_1+1))+1))+1))+1))] ?_;(with_reducible refine (laws_markText.calls k1 (wrap64 ((wrap64 ((wrap64 ((wrap64 (x1_1+1))+1))+1))+1)) t35 _ A10.out).mono ?_);rintro e w19 ⟨rfl,hb⟩;refine ⟨_,rfl,?_⟩;replace HB:=bq HB hb;(try clear hb);(try clear hb2);(try clear hk);(try clear hi);refine hK.out _ _ (hca (cb HB hw32_0) (hca (cb HB hw32_1) (hca (cb HB hw32_2) (hca (cb HB hw32_3) (hc (cb HB hw32_4)))))).out (fun hHeld=>?_);clear hK K;refine nA 55 ?_;refine pA 7 56 HT_ ?_;refine done_ (done_of HT_.out (by kernel_rfl)) ?_
         try go_wp2
         go_ret
         exact ⟨ff,bs HB⟩
       ·intro c9 c9b0 c9b1 H;obtain rfl:=si H;have p30:0≤(x5_1:Int):=oa;have q30:x5_1<(l0.length:Int):=oa;obtain ⟨ad30,e30,hx30_0,hx30_1,hx30_2,hx30_3,hx30_4⟩:=at_T64 HR0.out x5_1 p30 q30
        cases e30
        replace hx30_0:=cb HB hx30_0;replace hx30_1:=cb HB hx30_1;replace hx30_2:=cb HB hx30_2;replace hx30_3:=cb HB hx30_3;replace hx30_4:=cb HB hx30_4;replace p30:=eq_true p30;replace q30:=eq_true q30
        try go_wp2
        replace HB:=am (below_drew1 HB.out);have p29:0≤(x5_1:Int):=oa;have q29:x5_1<(l0.length:Int):=oa;obtain ⟨ad29,e29,hx29_0,hx29_1,hx29_2,hx29_3,hx29_4⟩:=at_T64 HR0.out x5_1 p29 q29;have hw29_4:=hx29_4;have hw29_3:=hx29_3;have hw29_2:=hx29_2;have hw29_1:=hx29_1;have hw29_0:=hx29_0;obtain rfl:ad30=ad29:=(by injection e29);replace hx29_0:=cb HB hx29_0;replace hx29_1:=cb HB hx29_1;replace hx29_2:=cb HB hx29_2;replace hx29_3:=cb HB hx29_3;replace hx29_4:=cb HB hx29_4;replace p29:=eq_true p29;replace q29:=eq_true q29;refine sta 8 (hca (cb HB hw29_0) (hca (cb HB hw29_1) (hca (cb HB hw29_2) (hca (cb HB hw29_3) (hc (cb HB hw29_4)))))) (fun hHeld=>?_);refine with_tabW laws_heldLineS.tab7 laws_heldLineS.bits7 (fun HT_ HW_=>?_)
        generalize wr.drew=w20 at HB hx29_0 hx29_1 hx29_2 hx29_3 hx29_4 hHeld ⊢
        refine pA 0 21 HT_ ?_;refine pA 1 22 HT_ ?_;refine pA 2 23 HT_ ?_;refine pA 3 24 HT_ ?_;refine pA 5 26 HT_ ?_;refine tA 4 25 HT_ HW_ hHeld ?_;refine oA 6 27 HT_ (fun K hK=>?_);refine gA Tryz.func84 #[.int .i64 (wrap64 (x1_1+1))] ?_;(with_reducible refine (laws_markText.calls k1 (wrap64 (x1_1+1)) t34 _ A6.out).mono ?_);rintro e w21 ⟨rfl,hb⟩;refine ⟨_,rfl,?_⟩;replace HB:=bq HB hb;(try clear hb);(try clear hb2);(try clear hk);(try clear hi);refine hK.out _ _ (hca (cb HB hw29_0) (hca (cb HB hw29_1) (hca (cb HB hw29_2) (hca (cb HB hw29_3) (hc (cb HB hw29_4)))))).out (fun hHeld=>?_);clear hK K;refine nA 27 ?_;refine pA 7 28 HT_ ?_;refine done_ (done_of HT_.out (by kernel_rfl)) ?_;have p31:0≤(x5_1:Int):=oa;have q31:x5_1<(l0.length:Int):=oa;obtain ⟨ad31,e31,hx31_0,hx31_1,hx31_2,hx31_3,hx31_4⟩:=at_T64 HR0.out x5_1 p31 q31;obtain rfl:ad30=ad31:=(by injection e31);replace hx31_0:=cb HB hx31_0;replace hx31_1:=cb HB hx31_1;replace hx31_2:=cb HB hx31_2;replace hx31_3:=cb HB hx31_3;replace hx31_4:=cb HB hx31_4;replace p31:=eq_true p31;replace q31:=eq_true q31;have p33:0≤(x5_1:Int):=oa;have q33:x5_1<(l0.length:Int):=oa;obtain ⟨ad33,e33,hx33_0,hx33_1,hx33_2,hx33_3,hx33_4⟩:=at_T64 HR0.out x5_1 p33 q33;obtain rfl:ad30=ad33:=(by injection e33);replace hx33_0:=cb HB hx33_0;replace hx33_1:=cb HB hx33_1;replace hx33_2:=cb HB hx33_2;replace hx33_3:=cb HB hx33_3;replace hx33_4:=cb HB hx33_4;replace p33:=eq_true p33;replace q33:=eq_true q33
        try go_wp2
        go_ret
        exact ⟨ff,bs HB⟩
      ·intro c8 c8b0 c8b1 H;obtain rfl:=si H;have p30:0≤(x5_1:Int):=oa;have q30:x5_1<(l0.length:Int):=oa;obtain ⟨ad30,e30,hx30_0,hx30_1,hx30_2,hx30_3,hx30_4⟩:=at_T64 HR0.out x5_1 p30 q30
       cases e30
       replace hx30_0:=cb HB hx30_0;replace hx30_1:=cb HB hx30_1;replace hx30_2:=cb HB hx30_2;replace hx30_3:=cb HB hx30_3;replace hx30_4:=cb HB hx30_4;replace p30:=eq_true p30;replace q30:=eq_true q30
       try go_wp2
       replace HB:=am (below_drew1 HB.out);have p29:0≤(x5_1:Int):=oa;have q29:x5_1<(l0.length:Int):=oa;obtain ⟨ad29,e29,hx29_0,hx29_1,hx29_2,hx29_3,hx29_4⟩:=at_T64 HR0.out x5_1 p29 q29;have hw29_4:=hx29_4;have hw29_3:=hx29_3;have hw29_2:=hx29_2;have hw29_1:=hx29_1;have hw29_0:=hx29_0;obtain rfl:ad30=ad29:=(by injection e29);replace hx29_0:=cb HB hx29_0;replace hx29_1:=cb HB hx29_1;replace hx29_2:=cb HB hx29_2;replace hx29_3:=cb HB hx29_3;replace hx29_4:=cb HB hx29_4;replace p29:=eq_true p29;replace q29:=eq_true q29;refine sta 8 (hca (cb HB hw29_0) (hca (cb HB hw29_1) (hca (cb HB hw29_2) (hca (cb HB hw29_3) (hc (cb HB hw29_4)))))) (fun hHeld=>?_);refine with_tabW laws_heldLineS.tab7 laws_heldLineS.bits7 (fun HT_ HW_=>?_)
       generalize wr.drew=w22 at HB hx29_0 hx29_1 hx29_2 hx29_3 hx29_4 hHeld ⊢
       refine pA 0 21 HT_ ?_;refine pA 1 22 HT_ ?_;refine pA 2 23 HT_ ?_;refine pA 3 24 HT_ ?_;refine pA 5 26 HT_ ?_;refine tA 4 25 HT_ HW_ hHeld ?_;refine oA 6 27 HT_ (fun K hK=>?_);refine gA Tryz.func84 #[.int .i64 (wrap64 (x1_1+1))] ?_;(with_reducible refine (laws_markText.calls k1 (wrap64 (x1_1+1)) t34 _ A6.out).mono ?_);rintro e w23 ⟨rfl,hb⟩;refine ⟨_,rfl,?_⟩;replace HB:=bq HB hb;(try clear hb);(try clear hb2);(try clear hk);(try clear hi);refine hK.out _ _ (hca (cb HB hw29_0) (hca (cb HB hw29_1) (hca (cb HB hw29_2) (hca (cb HB hw29_3) (hc (cb HB hw29_4)))))).out (fun hHeld=>?_);clear hK K;refine nA 27 ?_;refine pA 7 28 HT_ ?_;refine done_ (done_of HT_.out (by kernel_rfl)) ?_;have p31:0≤(x5_1:Int):=oa;have q31:x5_1<(l0.length:Int):=oa;obtain ⟨ad31,e31,hx31_0,hx31_1,hx31_2,hx31_3,hx31_4⟩:=at_T64 HR0.out x5_1 p31 q31;obtain rfl:ad30=ad31:=(by injection e31);replace hx31_0:=cb HB hx31_0;replace hx31_1:=cb HB hx31_1;replace hx31_2:=cb HB hx31_2;replace hx31_3:=cb HB hx31_3;replace hx31_4:=cb HB hx31_4;replace p31:=eq_true p31;replace q31:=eq_true q31
       try go_wp2
       go_ret
       exact ⟨ff,bs HB⟩
     ·intro c7 c7b0 c7b1 H;obtain rfl:=si H;have p30:0≤(x5_1:Int):=oa;have q30:x5_1<(l0.length:Int):=oa;obtain ⟨ad30,e30,hx30_0,hx30_1,hx30_2,hx30_3,hx30_4⟩:=at_T64 HR0.out x5_1 p30 q30
      cases e30
      replace hx30_0:=cb HB hx30_0;replace hx30_1:=cb HB hx30_1;replace hx30_2:=cb HB hx30_2;replace hx30_3:=cb HB hx30_3;replace hx30_4:=cb HB hx30_4;replace p30:=eq_true p30;replace q30:=eq_true q30
      try go_wp2
      replace HB:=am (below_drew1 HB.out);have p29:0≤(x5_1:Int):=oa;have q29:x5_1<(l0.length:Int):=oa;obtain ⟨ad29,e29,hx29_0,hx29_1,hx29_2,hx29_3,hx29_4⟩:=at_T64 HR0.out x5_1 p29 q29;have hw29_4:=hx29_4;have hw29_3:=hx29_3;have hw29_2:=hx29_2;have hw29_1:=hx29_1;have hw29_0:=hx29_0;obtain rfl:ad30=ad29:=(by injection e29);replace hx29_0:=cb HB hx29_0;replace hx29_1:=cb HB hx29_1;replace hx29_2:=cb HB hx29_2;replace hx29_3:=cb HB hx29_3;replace hx29_4:=cb HB hx29_4;replace p29:=eq_true p29;replace q29:=eq_true q29;refine sta 8 (hca (cb HB hw29_0) (hca (cb HB hw29_1) (hca (cb HB hw29_2) (hca (cb HB hw29_3) (hc (cb HB hw29_4)))))) (fun hHeld=>?_);refine with_tabW laws_heldLineS.tab7 laws_heldLineS.bits7 (fun HT_ HW_=>?_)
      generalize wr.drew=w24 at HB hx29_0 hx29_1 hx29_2 hx29_3 hx29_4 hHeld ⊢
      refine pA 0 21 HT_ ?_;refine pA 1 22 HT_ ?_;refine pA 2 23 HT_ ?_;refine pA 3 24 HT_ ?_;refine pA 5 26 HT_ ?_;refine tA 4 25 HT_ HW_ hHeld ?_;refine oA 6 27 HT_ (fun K hK=>?_);refine gA Tryz.func84 #[.int .i64 (wrap64 (x1_1+1))] ?_;(with_reducible refine (laws_markText.calls k1 (wrap64 (x1_1+1)) t34 _ A6.out).mono ?_);rintro e w25 ⟨rfl,hb⟩;refine ⟨_,rfl,?_⟩;replace HB:=bq HB hb;(try clear hb);(try clear hb2);(try clear hk);(try clear hi);refine hK.out _ _ (hca (cb HB hw29_0) (hca (cb HB hw29_1) (hca (cb HB hw29_2) (hca (cb HB hw29_3) (hc (cb HB hw29_4)))))).out (fun hHeld=>?_);clear hK K;refine nA 27 ?_;refine pA 7 28 HT_ ?_;refine done_ (done_of HT_.out (by kernel_rfl)) ?_
      try go_wp2
      go_ret
      exact ⟨ff,bs HB⟩
    ·intro c5 c5b0 c5b1 H;obtain rfl:=si H;have p30:0≤(x5_1:Int):=oa;have q30:x5_1<(l0.length:Int):=oa;obtain ⟨ad30,e30,hx30_0,hx30_1,hx30_2,hx30_3,hx30_4⟩:=at_T64 HR0.out x5_1 p30 q30
     cases e30
     replace hx30_0:=cb HB hx30_0;replace hx30_1:=cb HB hx30_1;replace hx30_2:=cb HB hx30_2;replace hx30_3:=cb HB hx30_3;replace hx30_4:=cb HB hx30_4;replace p30:=eq_true p30;replace q30:=eq_true q30
     go_wp2
     go_ret
     exact ⟨ff,bs HB⟩
   ·intro c3b0 H;obtain rfl:=si H
    go_wp2
    go_ret
    exact ⟨ff,bs HB⟩
theorem laws_heldPaper.calls (k:Nat) (a0_0:Int) (a0_1:ByteArray) (a0_2:ByteArray) (a0_3:Int) (A0_4:Option Addr) (c0_4:Nat) (l0_4:List ByteArray) (A0_5:Option Addr) (c0_5:Nat) (l0_5:List (S64)) (a1:Int) (r:Int) (w:World) (hr0_4:Kd.C Kd.string w A0_4 l0_4.length l0_4) (hc0_4:l0_4.length≤c0_4) (hr0_5:Kd.C k64 w A0_5 l0_5.length l0_5) (hc0_5:l0_5.length≤c0_5) (H:laws_heldPaper.f k a0_0 a0_1 a0_2 a0_3 l0_4 l0_5 a1=some r) :
  Calls Tryz.prog 12 #[.agg #[.int .i64 a0_0,.string a0_1,.string a0_2,.int .i64 a0_3,.slice A0_4 l0_4.length c0_4,.slice A0_5 l0_5.length c0_5],.int .i64 a1] w fun e w'=>e=.returned (.int .i64 r)∧Below w.heap.size w w':=by
 have hu36:=Tryz.underlying36;have HR0_4:=am hr0_4;have HC0_4:=am hc0_4;clear hr0_4 hc0_4;have HR0_5:=am hr0_5;have HC0_5:=am hc0_5;clear hr0_5 hc0_5;have HB:=am (Below.refl w.heap.size w);unfold laws_heldPaper.f at H;replace H:=bo H;obtain ⟨t14,A3,H⟩:=H
 go_in
 try go_wp2_with (first|((with_reducible refine gate_dst (N:=2) rfl ?_);refine bz 2 (cs:=#[.int .i64 a0_0,.string a0_1,.string a0_2,.int .i64 a0_3,.slice A0_4 l0_4.length c0_4,.slice A0_5 l0_5.length c0_5]) (t:=36) HB ?_;clear HB;intro gb13 hg w4 BK13 GW13 hb HB;clear hb hg;have hcz5:=cf6 BK13))
 go_at_call 48;(with_reducible refine (laws_heldStringS.calls k _ _ l0_4 a1 t14 _ (Kd.C_below HR0_4.out (bs HB)) HC0_4.out A3.out).mono ?_);rintro e w6 ⟨rfl,hb⟩;replace BK13:=bb BK13 hb;replace HB:=bq HB hb;(try clear hb);(try clear hb2);(try clear hk);(try clear hi)
 revert H;refine id2 ?_ ?_
 ·intro c7b0 H;obtain rfl:=si H
  go_wp2
  go_ret
  exact ⟨ff,bs HB⟩
 ·intro c7b0 H;replace H:=bo H;obtain ⟨t15,A8,H⟩:=H;have hcz9:=cf6 BK13
  try go_wp2_with (fail)
  go_at_call 49;(with_reducible refine (laws_heldLineS.calls k _ _ l0_5 t14 t15 _ (Kd.C_below HR0_5.out (bs HB)) HC0_5.out A8.out).mono ?_);rintro e w10 ⟨rfl,hb⟩;replace BK13:=bb BK13 hb;replace HB:=bq HB hb;(try clear hb);(try clear hb2);(try clear hk);(try clear hi)
  revert H;refine id2 ?_ ?_
  ·intro c11b0 H;obtain rfl:=si H
   go_wp2
   go_ret
   exact ⟨ff,bs HB⟩
  ·intro c11b0 H;obtain rfl:=si H
   go_wp2
   go_ret
   exact ⟨ff,bs HB⟩
end Go.Proofs.YtkfcahggnpecjaaGreatDoor.QW
