-- Merged by a program of this session (wip/tool/pack.py) out of its own texts for this claim.
import Derived.Test.YtomoflpgdbjojaaGreatKFnExactGatePartner21
set_option maxHeartbeats 8000000
set_option maxRecDepth 100000
set_option linter.unusedSimpArgs false
set_option linter.unusedVariables false
namespace Go.Proofs.YtomoflpgdbjojaaGreat.QO
open Go.RowKit Go.Proofs.YtomoflpgdbjojaaGreatW.PrintWords Go.Proofs.YtomoflpgdbjojaaGreatW.PrintLast Go.Proofs.YtomoflpgdbjojaaGreatW.PrintMore
attribute [local go_sem] max2_int min2_int max_two min_two max_three min_three max_four min_four   -- for this text's walks alone
theorem laws_markStockS.calls (k:Nat) (P0_:Nat→Prop) (u9000_:Value) (l0:List (S152)) (a1:Int) (r1:Int) (r2:List (S152)) (w0 w:World) (hB:Below w0.heap.size w0 w) (ho0:Kd.R k152 152 w w0.heap.size P0_ u9000_ l0) (h:laws_markStockS.f k l0 a1=some (r1,r2)) :
  Calls Tryz.prog 96 #[u9000_,.int .i64 a1] w fun e w'=>e=.returned (.int .i64 r1)∧Kd.R k152 152 w' w0.heap.size (fun k_=>(P0_ k_∨w.heap.size≤k_)) u9000_ r2∧Below w0.heap.size w0 w'∧Kept w w' (fun k_=>P0_ k_):=by
 have HO:=am (show Kd.R k152 152 w w0.heap.size (fun k_=>(P0_ k_∨w.heap.size≤k_)) u9000_ l0 from Kd.R_mono ho0 (fun _ hk=>(.inl hk)));have HK:=am (Kept.refl w (fun k_=>P0_ k_));have HB:=am hB;have H':=am (show laws_markStockS.l0 k l0 a1 0=some (r1,r2) from h);clear hB h
 go_in
 go_wp2
 go_loopg [1,5] k (fun kq v1 v5 w'=>∃ (x0:List (S152)) (x1:Int) (x5:Int),v1=.int .i64 x1∧v5=.int .i64 x5∧Aside0 (laws_markStockS.l0 kq x0 x1 x5=some (r1,r2))∧Aside0 (kq≤k)∧Aside0 (Kd.R k152 152 w' w0.heap.size (fun k_=>(P0_ k_∨w.heap.size≤k_)) u9000_ x0)∧Aside0 (Kept w w' (fun k_=>P0_ k_))∧Aside0 (Below w0.heap.size w0 w'))
 case atStart=>exact ⟨l0,a1,0,rfl,rfl,H',⟨Nat.le_refl _⟩,HO,HK,HB⟩
 case round =>
  clear H';obtain ⟨x0,x1,x5,rfl,rfl,HA,HK1,HO,HK,HB⟩:=hrel
  cases gk with
  | zero=>exact absurd HA.out (by simp [laws_markStockS.l0])
  | succ k1 =>
   have H:=HA.out;clear HA;simp only [laws_markStockS.l0] at H
   by_cases c3:x5<(x0.length:Int)
   ·rw [if_pos c3] at H;have c3b0:decide (x5<(x0.length:Int))=true:=decide_eq_true c3;obtain ⟨t0,A0,H⟩:=Option.bind_eq_some_iff.mp H;replace A0:=am A0
    revert H;refine id1k ?_
    intro c5 c5b0 H;have H':=am H;clear H;obtain ⟨g,cap,oki,c,eo,hM,hL⟩:=hol z152 x5 (S_flat (fun _ _ _ _ _ h=>by obtain rfl:=k152_openM h;exact k152_mkM _ _ _ _) HO.out) HB.out HK.out c5 c3;subst eo;obtain rfl:=k152_openM hM;have HL:=am hL;clear hL hM HO HK HB;replace c3:=eq_true c3;replace c5:=eq_true c5
    go_wp2_with (first|(go_at_call 94;(with_reducible refine (laws_markText.calls k1 x1 t0 _ A0.out).mono ?_);rintro e w0a ⟨rfl,hb⟩;replace HL:=am (HL.out.below hb);clear hb;obtain ⟨hx,hf⟩:=HL.out.nz 2 rfl rfl)|((with_reducible refine gate_store (t:=9) (p:=17) rfl ?_);refine store_event (t:=9) (p:=17) (v:=?vo0) (w1:=(w0a.setCell ⟨g,(x5:Int).toNat * 2,none⟩ (.string t0))) ?hg ?ho ?hn ?hr ?_;(case ho=>rfl);(case hg=>rfl);(case hn=>rfl);(case hr=>first|(go_simp;done)|(go_simp;rfl));intro w0b hw;replace HL:=am (HL.out.put 0 (.string t0) (by decide) rfl hw);clear hw hx hf;obtain ⟨hz,hx,hf⟩:=HL.out.nx 2 1 rfl rfl rfl)|((with_reducible refine gate_store (t:=2) (p:=24) rfl ?_);refine store_event (t:=2) (p:=24) (v:=?vo1) (w1:=(w0b.setCell ⟨g,(x5:Int).toNat * 2+1,none⟩ (.int .i64 (wrap64 (x1+1))))) ?hg ?ho ?hn ?hr ?_;(case ho=>rfl);(case hg=>rfl);(case hn=>rfl);(case hr=>first|(go_simp;done)|(go_simp;rfl));intro w1b hw;replace HL:=am (HL.out.put 1 (.int .i64 (wrap64 (x1+1))) (by decide) rfl hw);clear hw hx hf hz))
    go_roundg k1
    case measure=>have:=HK1.out;omega
    case rel=>exact ⟨_,_,_,rfl,rfl,H',⟨by have:=HK1.out;omega⟩,⟨HL.out.back (⟨t0,wrap64 (x1+1)⟩:S152) (k152_mkM _ _ _ (⟨t0,wrap64 (x1+1)⟩:S152))⟩,⟨HL.out.hK⟩,⟨HL.out.hB⟩⟩
   ·rw [if_neg c3] at H;have c3b0:decide (x5<(x0.length:Int))=false:=decide_eq_false c3;clear c3;obtain ⟨rfl,rfl⟩:=Prod.mk.inj (Option.some.inj H);obtain ⟨Ao,co,eo⟩:=Kd.R_slice HO.out;subst eo
    go_wp2
    go_ret
    exact ⟨rfl,HO.out,HB.out,HK.out⟩
theorem laws_markOrderLineS.calls (k:Nat) (P0_:Nat→Prop) (u9000_:Value) (l0:List (S161)) (a1:Int) (r1:Int) (r2:List (S161)) (w0 w:World) (hB:Below w0.heap.size w0 w) (ho0:Kd.R k161 161 w w0.heap.size P0_ u9000_ l0) (h:laws_markOrderLineS.f k l0 a1=some (r1,r2)) :
  Calls Tryz.prog 97 #[u9000_,.int .i64 a1] w fun e w'=>e=.returned (.int .i64 r1)∧Kd.R k161 161 w' w0.heap.size (fun k_=>(P0_ k_∨w.heap.size≤k_)) u9000_ r2∧Below w0.heap.size w0 w'∧Kept w w' (fun k_=>P0_ k_):=by
 have HO:=am (show Kd.R k161 161 w w0.heap.size (fun k_=>(P0_ k_∨w.heap.size≤k_)) u9000_ l0 from Kd.R_mono ho0 (fun _ hk=>(.inl hk)));have HK:=am (Kept.refl w (fun k_=>P0_ k_));have HB:=am hB;have H':=am (show laws_markOrderLineS.l0 k l0 a1 0=some (r1,r2) from h);clear hB h
 go_in
 go_wp2
 go_loopg [1,5] k (fun kq v1 v5 w'=>∃ (x0:List (S161)) (x1:Int) (x5:Int),v1=.int .i64 x1∧v5=.int .i64 x5∧Aside0 (laws_markOrderLineS.l0 kq x0 x1 x5=some (r1,r2))∧Aside0 (kq≤k)∧Aside0 (Kd.R k161 161 w' w0.heap.size (fun k_=>(P0_ k_∨w.heap.size≤k_)) u9000_ x0)∧Aside0 (Kept w w' (fun k_=>P0_ k_))∧Aside0 (Below w0.heap.size w0 w'))
 case atStart=>exact ⟨l0,a1,0,rfl,rfl,H',⟨Nat.le_refl _⟩,HO,HK,HB⟩
 case round =>
  clear H';obtain ⟨x0,x1,x5,rfl,rfl,HA,HK1,HO,HK,HB⟩:=hrel
  cases gk with
  | zero=>exact absurd HA.out (by simp [laws_markOrderLineS.l0])
  | succ k1 =>
   have H:=HA.out;clear HA;simp only [laws_markOrderLineS.l0] at H
   by_cases c3:x5<(x0.length:Int)
   ·rw [if_pos c3] at H;have c3b0:decide (x5<(x0.length:Int))=true:=decide_eq_true c3;obtain ⟨t0,A0,H⟩:=Option.bind_eq_some_iff.mp H;replace A0:=am A0
    revert H;refine id1k ?_
    intro c5 c5b0 H;obtain ⟨t1,A1,H⟩:=Option.bind_eq_some_iff.mp H;replace A1:=am A1;obtain ⟨t3,A3,H⟩:=Option.bind_eq_some_iff.mp H;replace A3:=am A3;have H':=am H;clear H;obtain ⟨g,cap,oki,c,eo,hM,hL⟩:=hol z161 x5 (S_flat (fun _ _ _ _ _ h=>by obtain rfl:=k161_openM h;exact k161_mkM _ _ _ _) HO.out) HB.out HK.out c5 c3;subst eo;obtain rfl:=k161_openM hM;have HL:=am hL;clear hL hM HO HK HB;replace c3:=eq_true c3;replace c5:=eq_true c5
    go_wp2_with (first|(go_at_call 94;(with_reducible refine (laws_markText.calls k1 x1 t0 _ A0.out).mono ?_);rintro e w0a ⟨rfl,hb⟩;replace HL:=am (HL.out.below hb);clear hb;obtain ⟨hx,hf⟩:=HL.out.nz 8 rfl rfl)|((with_reducible refine gate_store (t:=9) (p:=17) rfl ?_);refine store_event (t:=9) (p:=17) (v:=?vo0) (w1:=(w0a.setCell ⟨g,(x5:Int).toNat * 8,none⟩ (.string t0))) ?hg ?ho ?hn ?hr ?_;(case ho=>rfl);(case hg=>rfl);(case hn=>rfl);(case hr=>first|(go_simp;done)|(go_simp;rfl));intro w0b hw;replace HL:=am (HL.out.put 0 (.string t0) (by decide) rfl hw);clear hw hx hf)|(go_at_call 94;(with_reducible refine (laws_markText.calls k1 (wrap64 (x1+1)) t1 _ A1.out).mono ?_);rintro e w1a ⟨rfl,hb⟩;replace HL:=am (HL.out.below hb);clear hb;obtain ⟨hz,hx,hf⟩:=HL.out.nx 8 1 rfl rfl rfl)|((with_reducible refine gate_store (t:=9) (p:=25) rfl ?_);refine store_event (t:=9) (p:=25) (v:=?vo1) (w1:=(w1a.setCell ⟨g,(x5:Int).toNat * 8+1,none⟩ (.string t1))) ?hg ?ho ?hn ?hr ?_;(case ho=>rfl);(case hg=>rfl);(case hn=>rfl);(case hr=>first|(go_simp;done)|(go_simp;rfl));intro w1b hw;replace HL:=am (HL.out.put 1 (.string t1) (by decide) rfl hw);clear hw hx hf hz;obtain ⟨hz,hx,hf⟩:=HL.out.nx 8 2 rfl rfl rfl)|((with_reducible refine gate_store (t:=2) (p:=32) rfl ?_);refine store_event (t:=2) (p:=32) (v:=?vo2) (w1:=(w1b.setCell ⟨g,(x5:Int).toNat * 8+2,none⟩ (.int .i64 (wrap64 ((wrap64 (x1+1))+1))))) ?hg ?ho ?hn ?hr ?_;(case ho=>rfl);(case hg=>rfl);(case hn=>rfl);(case hr=>first|(go_simp;done)|(go_simp;rfl));intro w2b hw;replace HL:=am (HL.out.put 2 (.int .i64 (wrap64 ((wrap64 (x1+1))+1))) (by decide) rfl hw);clear hw hx hf hz)|(go_at_call 94;(with_reducible refine (laws_markText.calls k1 (wrap64 ((wrap64 ((wrap64 (x1+1))+1))+1)) t3 _ A3.out).mono ?_);rintro e w3a ⟨rfl,hb⟩;replace HL:=am (HL.out.below hb);clear hb;obtain ⟨hz,hx,hf⟩:=HL.out.nx 8 3 rfl rfl rfl)|((with_reducible refine gate_store (t:=9) (p:=40) rfl ?_);refine store_event (t:=9) (p:=40) (v:=?vo3) (w1:=(w3a.setCell ⟨g,(x5:Int).toNat * 8+3,none⟩ (.string t3))) ?hg ?ho ?hn ?hr ?_;(case ho=>rfl);(case hg=>rfl);(case hn=>rfl);(case hr=>first|(go_simp;done)|(go_simp;rfl));intro w3b hw;replace HL:=am (HL.out.put 3 (.string t3) (by decide) rfl hw);clear hw hx hf hz;obtain ⟨hz,hx,hf⟩:=HL.out.nx 8 4 rfl rfl rfl)|((with_reducible refine gate_store (t:=2) (p:=47) rfl ?_);refine store_event (t:=2) (p:=47) (v:=?vo4) (w1:=(w3b.setCell ⟨g,(x5:Int).toNat * 8+4,none⟩ (.int .i64 (wrap64 ((wrap64 ((wrap64 ((wrap64 (x1+1))+1))+1))+1))))) ?hg ?ho ?hn ?hr ?_;(case ho=>rfl);(case hg=>rfl);(case hn=>rfl);(case hr=>first|(go_simp;done)|(go_simp;rfl));intro w4b hw;replace HL:=am (HL.out.put 4 (.int .i64 (wrap64 ((wrap64 ((wrap64 ((wrap64 (x1+1))+1))+1))+1))) (by decide) rfl hw);clear hw hx hf hz;obtain ⟨hz,hx,hf⟩:=HL.out.nx 8 5 rfl rfl rfl)|((with_reducible refine gate_store (t:=2) (p:=54) rfl ?_);refine store_event (t:=2) (p:=54) (v:=?vo5) (w1:=(w4b.setCell ⟨g,(x5:Int).toNat * 8+5,none⟩ (.int .i64 (wrap64 ((wrap64 ((wrap64 ((wrap64 ((wrap64 (x1+1))+1))+1))+1))+1))))) ?hg ?ho ?hn ?hr ?_;(case ho=>rfl);(case hg=>rfl);(case hn=>rfl);(case hr=>first|(go_simp;done)|(go_simp;rfl));intro w5b hw;replace HL:=am (HL.out.put 5 (.int .i64 (wrap64 ((wrap64 ((wrap64 ((wrap64 ((wrap64 (x1+1))+1))+1))+1))+1))) (by decide) rfl hw);clear hw hx hf hz;obtain ⟨hz,hx,hf⟩:=HL.out.nx 8 6 rfl rfl rfl)|((with_reducible refine gate_store (t:=2) (p:=61) rfl ?_);refine store_event (t:=2) (p:=61) (v:=?vo6) (w1:=(w5b.setCell ⟨g,(x5:Int).toNat * 8+6,none⟩ (.int .i64 (wrap64 ((wrap64 ((wrap64 ((wrap64 ((wrap64 ((wrap64 (x1+1))+1))+1))+1))+1))+1))))) ?hg ?ho ?hn ?hr ?_;(case ho=>rfl);(case hg=>rfl);(case hn=>rfl);(case hr=>first|(go_simp;done)|(go_simp;rfl));intro w6b hw;replace HL:=am (HL.out.put 6 (.int .i64 (wrap64 ((wrap64 ((wrap64 ((wrap64 ((wrap64 ((wrap64 (x1+1))+1))+1))+1))+1))+1))) (by decide) rfl hw);clear hw hx hf hz;obtain ⟨hz,hx,hf⟩:=HL.out.nx 8 7 rfl rfl rfl)|((with_reducible refine gate_store (t:=2) (p:=68) rfl ?_);refine store_event (t:=2) (p:=68) (v:=?vo7) (w1:=(w6b.setCell ⟨g,(x5:Int).toNat * 8+7,none⟩ (.int .i64 (wrap64 ((wrap64 ((wrap64 ((wrap64 ((wrap64 ((wrap64 ((wrap64 (x1+1))+1))+1))+1))+1))+1))+1))))) ?hg ?ho ?hn ?hr ?_;(case ho=>rfl);(case hg=>rfl);(case hn=>rfl);(case hr=>first|(go_simp;done)|(go_simp;rfl));intro w7b hw;replace HL:=am (HL.out.put 7 (.int .i64 (wrap64 ((wrap64 ((wrap64 ((wrap64 ((wrap64 ((wrap64 ((wrap64 (x1+1))+1))+1))+1))+1))+1))+1))) (by decide) rfl hw);clear hw hx hf hz))
    go_roundg k1
    case measure=>have:=HK1.out;omega
    case rel=>exact ⟨_,_,_,rfl,rfl,H',⟨by have:=HK1.out;omega⟩,⟨HL.out.back (⟨t0,t1,wrap64 ((wrap64 (x1+1))+1),t3,wrap64 ((wrap64 ((wrap64 ((wrap64 (x1+1))+1))+1))+1),wrap64 ((wrap64 ((wrap64 ((wrap64 ((wrap64 (x1+1))+1))+1))+1))+1),wrap64 ((wrap64 ((wrap64 ((wrap64 ((wrap64 ((wrap64 (x1+1))+1))+1))+1))+1))+1),wrap64 ((wrap64 ((wrap64 ((wrap64 ((wrap64 ((wrap64 ((wrap64 (x1+1))+1))+1))+1))+1))+1))+1)⟩:S161) (k161_mkM _ _ _ (⟨t0,t1,wrap64 ((wrap64 (x1+1))+1),t3,wrap64 ((wrap64 ((wrap64 ((wrap64 (x1+1))+1))+1))+1),wrap64 ((wrap64 ((wrap64 ((wrap64 ((wrap64 (x1+1))+1))+1))+1))+1),wrap64 ((wrap64 ((wrap64 ((wrap64 ((wrap64 ((wrap64 (x1+1))+1))+1))+1))+1))+1),wrap64 ((wrap64 ((wrap64 ((wrap64 ((wrap64 ((wrap64 ((wrap64 (x1+1))+1))+1))+1))+1))+1))+1)⟩:S161))⟩,⟨HL.out.hK⟩,⟨HL.out.hB⟩⟩
   ·rw [if_neg c3] at H;have c3b0:decide (x5<(x0.length:Int))=false:=decide_eq_false c3;clear c3;obtain ⟨rfl,rfl⟩:=Prod.mk.inj (Option.some.inj H);obtain ⟨Ao,co,eo⟩:=Kd.R_slice HO.out;subst eo
    go_wp2
    go_ret
    exact ⟨rfl,HO.out,HB.out,HK.out⟩
theorem laws_markBook.calls (k:Nat) (P0_0_:Nat→Prop) (u9000_:Value) (l0_0:List (S152)) (P0_1_:Nat→Prop) (u9001_:Value) (l0_1:List (S161)) (a1:Int) (r1:Int) (r2:List (S152)) (r3:List (S161)) (w0 w:World) (hB:Below w0.heap.size w0 w) (ho0_0:Kd.R k152 152 w w0.heap.size P0_0_ u9000_ l0_0) (ho0_1:Kd.R k161 161 w w0.heap.size P0_1_ u9001_ l0_1) (H:laws_markBook.f k l0_0 l0_1 a1=some (r1,r2,r3)) :
  Calls Tryz.prog 40 #[.agg #[u9000_,u9001_],.int .i64 a1] w fun e w'=>e=.returned (.int .i64 r1)∧Kd.R k152 152 w' w0.heap.size (fun k_=>((P0_0_ k_∨P0_1_ k_)∨w.heap.size≤k_)) u9000_ r2∧Kd.R k161 161 w' w0.heap.size (fun k_=>((P0_0_ k_∨P0_1_ k_)∨w.heap.size≤k_)) u9001_ r3∧Below w0.heap.size w0 w'∧Kept w w' (fun k_=>P0_0_ k_∨P0_1_ k_):=by
 have hu38:=Tryz.underlying38;have HO0_0:=am (show Kd.R k152 152 w w0.heap.size (fun k_=>((P0_0_ k_∨P0_1_ k_)∨w.heap.size≤k_)) u9000_ l0_0 from Kd.R_mono ho0_0 (fun k_ hk=>(.inl (.inl hk))));have HO0_1:=am (show Kd.R k161 161 w w0.heap.size (fun k_=>((P0_0_ k_∨P0_1_ k_)∨w.heap.size≤k_)) u9001_ l0_1 from Kd.R_mono ho0_1 (fun k_ hk=>(.inl (.inr hk))));have HK:=am (Kept.refl w (fun k_=>P0_0_ k_∨P0_1_ k_));have HW0:=am hB.size;have HB:=am hB;clear hB;unfold laws_markBook.f at H;replace H:=bo H;obtain ⟨⟨t14,t15⟩,A3,H⟩:=H;(try dsimp only at H);replace H:=bo H;obtain ⟨⟨t16,t17⟩,A4,H⟩:=H;(try dsimp only at H);replace H:=sj3 H;obtain ⟨rfl,rfl,rfl⟩:=H;obtain ⟨Ao5,co5,eo5⟩:=Kd.R_slice HO0_0.out;subst eo5;obtain ⟨Ao6,co6,eo6⟩:=Kd.R_slice HO0_1.out;subst eo6
 go_in
 go_wp2_with (first|((with_reducible refine gate_dst (N:=2) rfl ?_);refine bx 2 (cs:=#[.slice Ao5 l0_0.length co5,.slice Ao6 l0_1.length co6]) (t:=38) ?_;intro gb13 hg w7 hbox hb;have n0_:=am (Kd.R_below (rs HO0_0) hb);have n1_:=am (Kd.R_below (rs HO0_1) hb);have n2_:=am (Kept.below (S:=(fun k_=>P0_0_ k_∨P0_1_ k_)) (by repeat (first|(with_reducible first|exact HK.out|apply Kept.alloc|apply Kept.drewN|apply Kept.drew)|exact HK.out)) hb);have n3_:=am (below_step (bs HB) hb);have n4_:=am (hbox);have n5_:=am ((by rw [hg];exact (by first|exact HK.out.1|exact (show Kept w _ (fun k_=>P0_0_ k_∨P0_1_ k_) from by repeat (first|(with_reducible first|exact HK.out|apply Kept.alloc|apply Kept.drewN|apply Kept.drew)|exact HK.out)).1):w.heap.size≤gb13));have n6_:=am ((gs hg (bs HB)));clear HO0_0;clear HO0_1;clear HK;clear HB;have HO0_0:=n0_;have HO0_1:=n1_;have HK:=n2_;have HB:=n3_;have BK13:=n4_;have GW13:=n5_;have GE13:=n6_;clear n0_ n1_ n2_ n3_ n4_ n5_ n6_;clear hb hbox hg;have hcz8_0:w7.cell? ⟨gb13,0,none⟩=some (.slice Ao5 l0_0.length co5):=(blk_cell BK13.out 0).trans rfl;have hcz8_1:w7.cell? ⟨gb13,1,none⟩=some (.slice Ao6 l0_1.length co6):=(blk_cell BK13.out 1).trans rfl;have hfz8_0:=blk_frozen BK13.out 0;have hfz8_1:=blk_frozen BK13.out 1)|((first|((with_reducible refine gate_callee (f:=96) rfl ?_);refine goesL_ (some 8) rfl rfl Tryz.func96 (by kernel_rfl) rfl #[.slice Ao5 l0_0.length co5,.int .i64 a1] rfl (by (try simp only [List.map_toArray,List.map_cons,List.map_nil]);first|done|rfl|(simp only [List.length_drop,List.length_take];rfl)) ?_;(with_reducible refine (laws_markStockS.calls k (fun k_=>some k_=(.slice Ao5 l0_0.length co5:Value).ownBlock) (.slice Ao5 l0_0.length co5) l0_0 a1 t14 t15 w0 _ ?side1 ?side2 A3.out).mono ?_);(case side1=>repeat (first|(with_reducible first|exact HB.out|apply below_alloc|apply pw_below_drewN|apply below_drew1|refine below_set ?_ GE13.out)|exact HB.out));(case side2=>exact Kd.R_tight rfl HO0_0.out);rintro e w9 ⟨rfl,hy0,hb,hkp⟩;refine ⟨_,rfl,?_⟩)|(go_at_call 96;(with_reducible refine (laws_markStockS.calls k (fun k_=>some k_=(.slice Ao5 l0_0.length co5:Value).ownBlock) (.slice Ao5 l0_0.length co5) l0_0 a1 t14 t15 w0 _ ?side1 ?side2 A3.out).mono ?_);(case side1=>repeat (first|(with_reducible first|exact HB.out|apply below_alloc|apply pw_below_drewN|apply below_drew1|refine below_set ?_ GE13.out)|exact HB.out));(case side2=>exact Kd.R_tight rfl HO0_0.out);rintro e w9 ⟨rfl,hy0,hb,hkp⟩));replace HO0_1:=am (Kd.R_mono (ok':=fun k_=>((P0_0_ k_∨P0_1_ k_)∨w.heap.size≤k_)) (Kd.R_keptB ((Kd.R_apart' HO0_1.out (Kd.R_typed HO0_0.out) (by decide))) hkp (fun k_ hk_ hs_=>(hk_.2) hs_)) (fun k_ hk_=>hk_.1.1));replace BK13:=am (blk_kept (ks BK13) hkp (fun hs_=>(fun e_=>(Kd.R_ne HO0_0.out BK13.out (by decide)) e_) hs_));replace HK:=am (Kept.then_ (S:=(fun k_=>P0_0_ k_∨P0_1_ k_)) (by repeat (first|(with_reducible first|exact HK.out|apply Kept.alloc|apply Kept.drewN|apply Kept.drew|refine Kept.setCell ?_ (.inr GW13.out) _)|exact HK.out)) hkp (fun k_ hs_=>(fun e_=>(HO0_0.out.1 k_ e_.symm)) hs_));replace HO0_0:=am (Kd.R_reok rfl hy0 (fun k_ e_=>HO0_0.out.1 k_ e_));replace HB:=am (hb);(try clear hb);(try clear hkp);(try clear hy0);have hcz10_0:w9.cell? ⟨gb13,0,none⟩=some (.slice Ao5 l0_0.length co5):=(blk_cell BK13.out 0).trans rfl;have hcz10_1:w9.cell? ⟨gb13,1,none⟩=some (.slice Ao6 l0_1.length co6):=(blk_cell BK13.out 1).trans rfl;have hfz10_0:=blk_frozen BK13.out 0;have hfz10_1:=blk_frozen BK13.out 1)|((first|((with_reducible refine gate_callee (f:=97) rfl ?_);refine goesL_ (some 12) rfl rfl Tryz.func97 (by kernel_rfl) rfl #[.slice Ao6 l0_1.length co6,.int .i64 t14] rfl (by (try simp only [List.map_toArray,List.map_cons,List.map_nil]);first|done|rfl|(simp only [List.length_drop,List.length_take];rfl)) ?_;(with_reducible refine (laws_markOrderLineS.calls k (fun k_=>some k_=(.slice Ao6 l0_1.length co6:Value).ownBlock) (.slice Ao6 l0_1.length co6) l0_1 t14 t16 t17 w0 _ ?side1 ?side2 A4.out).mono ?_);(case side1=>repeat (first|(with_reducible first|exact HB.out|apply below_alloc|apply pw_below_drewN|apply below_drew1|refine below_set ?_ GE13.out)|exact HB.out));(case side2=>exact Kd.R_tight rfl HO0_1.out);rintro e w11 ⟨rfl,hy0,hb,hkp⟩;refine ⟨_,rfl,?_⟩)|(go_at_call 97;(with_reducible refine (laws_markOrderLineS.calls k (fun k_=>some k_=(.slice Ao6 l0_1.length co6:Value).ownBlock) (.slice Ao6 l0_1.length co6) l0_1 t14 t16 t17 w0 _ ?side1 ?side2 A4.out).mono ?_);(case side1=>repeat (first|(with_reducible first|exact HB.out|apply below_alloc|apply pw_below_drewN|apply below_drew1|refine below_set ?_ GE13.out)|exact HB.out));(case side2=>exact Kd.R_tight rfl HO0_1.out);rintro e w11 ⟨rfl,hy0,hb,hkp⟩));replace HO0_0:=am (Kd.R_mono (ok':=fun k_=>((P0_0_ k_∨P0_1_ k_)∨w.heap.size≤k_)) (Kd.R_keptB ((Kd.R_apart' HO0_0.out (Kd.R_typed HO0_1.out) (by decide))) hkp (fun k_ hk_ hs_=>(hk_.2) hs_)) (fun k_ hk_=>hk_.1.1));replace BK13:=am (blk_kept (ks BK13) hkp (fun hs_=>(fun e_=>(Kd.R_ne HO0_1.out BK13.out (by decide)) e_) hs_));replace HK:=am (Kept.then_ (S:=(fun k_=>P0_0_ k_∨P0_1_ k_)) (by repeat (first|(with_reducible first|exact HK.out|apply Kept.alloc|apply Kept.drewN|apply Kept.drew|refine Kept.setCell ?_ (.inr GW13.out) _)|exact HK.out)) hkp (fun k_ hs_=>(fun e_=>(HO0_1.out.1 k_ e_.symm)) hs_));replace HO0_1:=am (Kd.R_reok rfl hy0 (fun k_ e_=>HO0_1.out.1 k_ e_));replace HB:=am (hb);(try clear hb);(try clear hkp);(try clear hy0)))
 go_ret
 exact ⟨ff,by (with_reducible repeat (first|apply Kd.R_alloc|apply Kd.R_drewN|apply Kd.R_drew));exact HO0_0.out,by (with_reducible repeat (first|apply Kd.R_alloc|apply Kd.R_drewN|apply Kd.R_drew));exact HO0_1.out,bs HB,by repeat (first|(with_reducible first|exact HK.out|apply Kept.alloc|apply Kept.drewN|apply Kept.drew|refine Kept.setCell ?_ (.inr GW13.out) _)|exact HK.out)⟩
theorem laws_markDiffS.calls (k:Nat) (P0_:Nat→Prop) (u9000_:Value) (l0:List (S118)) (a1:Int) (r1:Int) (r2:List (S118)) (w0 w:World) (hB:Below w0.heap.size w0 w) (ho0:Kd.R k118 118 w w0.heap.size P0_ u9000_ l0) (h:laws_markDiffS.f k l0 a1=some (r1,r2)) :
  Calls Tryz.prog 41 #[u9000_,.int .i64 a1] w fun e w'=>e=.returned (.int .i64 r1)∧Kd.R k118 118 w' w0.heap.size (fun k_=>(P0_ k_∨w.heap.size≤k_)) u9000_ r2∧Below w0.heap.size w0 w'∧Kept w w' (fun k_=>P0_ k_):=by
 have HO:=am (show Kd.R k118 118 w w0.heap.size (fun k_=>(P0_ k_∨w.heap.size≤k_)) u9000_ l0 from Kd.R_mono ho0 (fun _ hk=>(.inl hk)));have HK:=am (Kept.refl w (fun k_=>P0_ k_));have HB:=am hB;have H':=am (show laws_markDiffS.l0 k l0 a1 0=some (r1,r2) from h);clear hB h
 go_in
 go_wp2
 go_loopg [1,5] k (fun kq v1 v5 w'=>∃ (x0:List (S118)) (x1:Int) (x5:Int),v1=.int .i64 x1∧v5=.int .i64 x5∧Aside0 (laws_markDiffS.l0 kq x0 x1 x5=some (r1,r2))∧Aside0 (kq≤k)∧Aside0 (Kd.R k118 118 w' w0.heap.size (fun k_=>(P0_ k_∨w.heap.size≤k_)) u9000_ x0)∧Aside0 (Kept w w' (fun k_=>P0_ k_))∧Aside0 (Below w0.heap.size w0 w'))
 case atStart=>exact ⟨l0,a1,0,rfl,rfl,H',⟨Nat.le_refl _⟩,HO,HK,HB⟩
 case round =>
  clear H';obtain ⟨x0,x1,x5,rfl,rfl,HA,HK1,HO,HK,HB⟩:=hrel
  cases gk with
  | zero=>exact absurd HA.out (by simp [laws_markDiffS.l0])
  | succ k1 =>
   have H:=HA.out;clear HA;simp only [laws_markDiffS.l0] at H
   by_cases c3:x5<(x0.length:Int)
   ·rw [if_pos c3] at H;have c3b0:decide (x5<(x0.length:Int))=true:=decide_eq_true c3
    revert H;refine id1k ?_
    intro c5 c5b0 H;obtain ⟨t1,A1,H⟩:=Option.bind_eq_some_iff.mp H;replace A1:=am A1;obtain ⟨t2,A2,H⟩:=Option.bind_eq_some_iff.mp H;replace A2:=am A2;obtain ⟨t4,A4,H⟩:=Option.bind_eq_some_iff.mp H;replace A4:=am A4;have H':=am H;clear H;obtain ⟨g,cap,oki,c,eo,hM,hL⟩:=hol z118 x5 (S_flat (fun _ _ _ _ _ h=>by obtain rfl:=k118_openM h;exact k118_mkM _ _ _ _) HO.out) HB.out HK.out c5 c3;subst eo;obtain rfl:=k118_openM hM;have HL:=am hL;clear hL hM HO HK HB;replace c3:=eq_true c3;replace c5:=eq_true c5;obtain ⟨hx,hf⟩:=HL.out.nz 6 rfl rfl
    go_wp2_with (first|((with_reducible refine gate_store (t:=2) (p:=16) rfl ?_);refine store_event (t:=2) (p:=16) (v:=?vo0) (w1:=(wr.setCell ⟨g,(x5:Int).toNat * 6,none⟩ (.int .i64 x1))) ?hg ?ho ?hn ?hr ?_;(case ho=>rfl);(case hg=>rfl);(case hn=>rfl);(case hr=>first|(go_simp;done)|(go_simp;rfl));intro w0b hw;replace HL:=am (HL.out.put 0 (.int .i64 x1) (by decide) rfl hw);clear hw hx hf)|(go_at_call 94;(with_reducible refine (laws_markText.calls k1 (wrap64 (x1+1)) t1 _ A1.out).mono ?_);rintro e w1a ⟨rfl,hb⟩;replace HL:=am (HL.out.below hb);clear hb;obtain ⟨hz,hx,hf⟩:=HL.out.nx 6 1 rfl rfl rfl)|((with_reducible refine gate_store (t:=9) (p:=24) rfl ?_);refine store_event (t:=9) (p:=24) (v:=?vo1) (w1:=(w1a.setCell ⟨g,(x5:Int).toNat * 6+1,none⟩ (.string t1))) ?hg ?ho ?hn ?hr ?_;(case ho=>rfl);(case hg=>rfl);(case hn=>rfl);(case hr=>first|(go_simp;done)|(go_simp;rfl));intro w1b hw;replace HL:=am (HL.out.put 1 (.string t1) (by decide) rfl hw);clear hw hx hf hz)|(go_at_call 94;(with_reducible refine (laws_markText.calls k1 (wrap64 ((wrap64 (x1+1))+1)) t2 _ A2.out).mono ?_);rintro e w2a ⟨rfl,hb⟩;replace HL:=am (HL.out.below hb);clear hb;obtain ⟨hz,hx,hf⟩:=HL.out.nx 6 2 rfl rfl rfl)|((with_reducible refine gate_store (t:=9) (p:=32) rfl ?_);refine store_event (t:=9) (p:=32) (v:=?vo2) (w1:=(w2a.setCell ⟨g,(x5:Int).toNat * 6+2,none⟩ (.string t2))) ?hg ?ho ?hn ?hr ?_;(case ho=>rfl);(case hg=>rfl);(case hn=>rfl);(case hr=>first|(go_simp;done)|(go_simp;rfl));intro w2b hw;replace HL:=am (HL.out.put 2 (.string t2) (by decide) rfl hw);clear hw hx hf hz;obtain ⟨hz,hx,hf⟩:=HL.out.nx 6 3 rfl rfl rfl)|((with_reducible refine gate_store (t:=2) (p:=39) rfl ?_);refine store_event (t:=2) (p:=39) (v:=?vo3) (w1:=(w2b.setCell ⟨g,(x5:Int).toNat * 6+3,none⟩ (.int .i64 (wrap64 ((wrap64 ((wrap64 (x1+1))+1))+1))))) ?hg ?ho ?hn ?hr ?_;(case ho=>rfl);(case hg=>rfl);(case hn=>rfl);(case hr=>first|(go_simp;done)|(go_simp;rfl));intro w3b hw;replace HL:=am (HL.out.put 3 (.int .i64 (wrap64 ((wrap64 ((wrap64 (x1+1))+1))+1))) (by decide) rfl hw);clear hw hx hf hz)|(go_at_call 94;(with_reducible refine (laws_markText.calls k1 (wrap64 ((wrap64 ((wrap64 ((wrap64 (x1+1))+1))+1))+1)) t4 _ A4.out).mono ?_);rintro e w4a ⟨rfl,hb⟩;replace HL:=am (HL.out.below hb);clear hb;obtain ⟨hz,hx,hf⟩:=HL.out.nx 6 4 rfl rfl rfl)|((with_reducible refine gate_store (t:=9) (p:=47) rfl ?_);refine store_event (t:=9) (p:=47) (v:=?vo4) (w1:=(w4a.setCell ⟨g,(x5:Int).toNat * 6+4,none⟩ (.string t4))) ?hg ?ho ?hn ?hr ?_;(case ho=>rfl);(case hg=>rfl);(case hn=>rfl);(case hr=>first|(go_simp;done)|(go_simp;rfl));intro w4b hw;replace HL:=am (HL.out.put 4 (.string t4) (by decide) rfl hw);clear hw hx hf hz;obtain ⟨hz,hx,hf⟩:=HL.out.nx 6 5 rfl rfl rfl)|((with_reducible refine gate_store (t:=2) (p:=54) rfl ?_);refine store_event (t:=2) (p:=54) (v:=?vo5) (w1:=(w4b.setCell ⟨g,(x5:Int).toNat * 6+5,none⟩ (.int .i64 (wrap64 ((wrap64 ((wrap64 ((wrap64 ((wrap64 (x1+1))+1))+1))+1))+1))))) ?hg ?ho ?hn ?hr ?_;(case ho=>rfl);(case hg=>rfl);(case hn=>rfl);(case hr=>first|(go_simp;done)|(go_simp;rfl));intro w5b hw;replace HL:=am (HL.out.put 5 (.int .i64 (wrap64 ((wrap64 ((wrap64 ((wrap64 ((wrap64 (x1+1))+1))+1))+1))+1))) (by decide) rfl hw);clear hw hx hf hz))
    go_roundg k1
    case measure=>have:=HK1.out;omega
    case rel=>exact ⟨_,_,_,rfl,rfl,H',⟨by have:=HK1.out;omega⟩,⟨HL.out.back (⟨x1,t1,t2,wrap64 ((wrap64 ((wrap64 (x1+1))+1))+1),t4,wrap64 ((wrap64 ((wrap64 ((wrap64 ((wrap64 (x1+1))+1))+1))+1))+1)⟩:S118) (k118_mkM _ _ _ (⟨x1,t1,t2,wrap64 ((wrap64 ((wrap64 (x1+1))+1))+1),t4,wrap64 ((wrap64 ((wrap64 ((wrap64 ((wrap64 (x1+1))+1))+1))+1))+1)⟩:S118))⟩,⟨HL.out.hK⟩,⟨HL.out.hB⟩⟩
   ·rw [if_neg c3] at H;have c3b0:decide (x5<(x0.length:Int))=false:=decide_eq_false c3;clear c3;obtain ⟨rfl,rfl⟩:=Prod.mk.inj (Option.some.inj H);obtain ⟨Ao,co,eo⟩:=Kd.R_slice HO.out;subst eo
    go_wp2
    go_ret
    exact ⟨rfl,HO.out,HB.out,HK.out⟩
theorem laws_markOutS.calls (k:Nat) (P0_:Nat→Prop) (u9000_:Value) (l0:List (S120)) (a1:Int) (r1:Int) (r2:List (S120)) (w0 w:World) (hB:Below w0.heap.size w0 w) (ho0:Kd.R k120 120 w w0.heap.size P0_ u9000_ l0) (h:laws_markOutS.f k l0 a1=some (r1,r2)) :
  Calls Tryz.prog 42 #[u9000_,.int .i64 a1] w fun e w'=>e=.returned (.int .i64 r1)∧Kd.R k120 120 w' w0.heap.size (fun k_=>(P0_ k_∨w.heap.size≤k_)) u9000_ r2∧Below w0.heap.size w0 w'∧Kept w w' (fun k_=>P0_ k_):=by
 have HO:=am (show Kd.R k120 120 w w0.heap.size (fun k_=>(P0_ k_∨w.heap.size≤k_)) u9000_ l0 from Kd.R_mono ho0 (fun _ hk=>(.inl hk)));have HK:=am (Kept.refl w (fun k_=>P0_ k_));have HB:=am hB;have H':=am (show laws_markOutS.l0 k l0 a1 0=some (r1,r2) from h);clear hB h
 go_in
 go_wp2
 go_loopg [1,5] k (fun kq v1 v5 w'=>∃ (x0:List (S120)) (x1:Int) (x5:Int),v1=.int .i64 x1∧v5=.int .i64 x5∧Aside0 (laws_markOutS.l0 kq x0 x1 x5=some (r1,r2))∧Aside0 (kq≤k)∧Aside0 (Kd.R k120 120 w' w0.heap.size (fun k_=>(P0_ k_∨w.heap.size≤k_)) u9000_ x0)∧Aside0 (Kept w w' (fun k_=>P0_ k_))∧Aside0 (Below w0.heap.size w0 w'))
 case atStart=>exact ⟨l0,a1,0,rfl,rfl,H',⟨Nat.le_refl _⟩,HO,HK,HB⟩
 case round =>
  clear H';obtain ⟨x0,x1,x5,rfl,rfl,HA,HK1,HO,HK,HB⟩:=hrel
  cases gk with
  | zero=>exact absurd HA.out (by simp [laws_markOutS.l0])
  | succ k1 =>
   have H:=HA.out;clear HA;simp only [laws_markOutS.l0] at H
   by_cases c3:x5<(x0.length:Int)
   ·rw [if_pos c3] at H;have c3b0:decide (x5<(x0.length:Int))=true:=decide_eq_true c3;obtain ⟨t0,A0,H⟩:=Option.bind_eq_some_iff.mp H;replace A0:=am A0
    revert H;refine id1k ?_
    intro c5 c5b0 H;obtain ⟨t2,A2,H⟩:=Option.bind_eq_some_iff.mp H;replace A2:=am A2;have H':=am H;clear H;obtain ⟨g,cap,oki,c,eo,hM,hL⟩:=hol z120 x5 (S_flat (fun _ _ _ _ _ h=>by obtain rfl:=k120_openM h;exact k120_mkM _ _ _ _) HO.out) HB.out HK.out c5 c3;subst eo;obtain rfl:=k120_openM hM;have HL:=am hL;clear hL hM HO HK HB;replace c3:=eq_true c3;replace c5:=eq_true c5
    go_wp2_with (first|(go_at_call 94;(with_reducible refine (laws_markText.calls k1 x1 t0 _ A0.out).mono ?_);rintro e w0a ⟨rfl,hb⟩;replace HL:=am (HL.out.below hb);clear hb;obtain ⟨hx,hf⟩:=HL.out.nz 5 rfl rfl)|((with_reducible refine gate_store (t:=9) (p:=17) rfl ?_);refine store_event (t:=9) (p:=17) (v:=?vo0) (w1:=(w0a.setCell ⟨g,(x5:Int).toNat * 5,none⟩ (.string t0))) ?hg ?ho ?hn ?hr ?_;(case ho=>rfl);(case hg=>rfl);(case hn=>rfl);(case hr=>first|(go_simp;done)|(go_simp;rfl));intro w0b hw;replace HL:=am (HL.out.put 0 (.string t0) (by decide) rfl hw);clear hw hx hf;obtain ⟨hz,hx,hf⟩:=HL.out.nx 5 1 rfl rfl rfl)|((with_reducible refine gate_store (t:=2) (p:=24) rfl ?_);refine store_event (t:=2) (p:=24) (v:=?vo1) (w1:=(w0b.setCell ⟨g,(x5:Int).toNat * 5+1,none⟩ (.int .i64 (wrap64 (x1+1))))) ?hg ?ho ?hn ?hr ?_;(case ho=>rfl);(case hg=>rfl);(case hn=>rfl);(case hr=>first|(go_simp;done)|(go_simp;rfl));intro w1b hw;replace HL:=am (HL.out.put 1 (.int .i64 (wrap64 (x1+1))) (by decide) rfl hw);clear hw hx hf hz)|(go_at_call 94;(with_reducible refine (laws_markText.calls k1 (wrap64 ((wrap64 (x1+1))+1)) t2 _ A2.out).mono ?_);rintro e w2a ⟨rfl,hb⟩;replace HL:=am (HL.out.below hb);clear hb;obtain ⟨hz,hx,hf⟩:=HL.out.nx 5 2 rfl rfl rfl)|((with_reducible refine gate_store (t:=9) (p:=32) rfl ?_);refine store_event (t:=9) (p:=32) (v:=?vo2) (w1:=(w2a.setCell ⟨g,(x5:Int).toNat * 5+2,none⟩ (.string t2))) ?hg ?ho ?hn ?hr ?_;(case ho=>rfl);(case hg=>rfl);(case hn=>rfl);(case hr=>first|(go_simp;done)|(go_simp;rfl));intro w2b hw;replace HL:=am (HL.out.put 2 (.string t2) (by decide) rfl hw);clear hw hx hf hz;obtain ⟨hz,hx,hf⟩:=HL.out.nx 5 3 rfl rfl rfl)|((with_reducible refine gate_store (t:=2) (p:=39) rfl ?_);refine store_event (t:=2) (p:=39) (v:=?vo3) (w1:=(w2b.setCell ⟨g,(x5:Int).toNat * 5+3,none⟩ (.int .i64 (wrap64 ((wrap64 ((wrap64 (x1+1))+1))+1))))) ?hg ?ho ?hn ?hr ?_;(case ho=>rfl);(case hg=>rfl);(case hn=>rfl);(case hr=>first|(go_simp;done)|(go_simp;rfl));intro w3b hw;replace HL:=am (HL.out.put 3 (.int .i64 (wrap64 ((wrap64 ((wrap64 (x1+1))+1))+1))) (by decide) rfl hw);clear hw hx hf hz;obtain ⟨hz,hx,hf⟩:=HL.out.nx 5 4 rfl rfl rfl)|((with_reducible refine gate_store (t:=2) (p:=46) rfl ?_);refine store_event (t:=2) (p:=46) (v:=?vo4) (w1:=(w3b.setCell ⟨g,(x5:Int).toNat * 5+4,none⟩ (.int .i64 (wrap64 ((wrap64 ((wrap64 ((wrap64 (x1+1))+1))+1))+1))))) ?hg ?ho ?hn ?hr ?_;(case ho=>rfl);(case hg=>rfl);(case hn=>rfl);(case hr=>first|(go_simp;done)|(go_simp;rfl));intro w4b hw;replace HL:=am (HL.out.put 4 (.int .i64 (wrap64 ((wrap64 ((wrap64 ((wrap64 (x1+1))+1))+1))+1))) (by decide) rfl hw);clear hw hx hf hz))
    go_roundg k1
    case measure=>have:=HK1.out;omega
    case rel=>exact ⟨_,_,_,rfl,rfl,H',⟨by have:=HK1.out;omega⟩,⟨HL.out.back (⟨t0,wrap64 (x1+1),t2,wrap64 ((wrap64 ((wrap64 (x1+1))+1))+1),wrap64 ((wrap64 ((wrap64 ((wrap64 (x1+1))+1))+1))+1)⟩:S120) (k120_mkM _ _ _ (⟨t0,wrap64 (x1+1),t2,wrap64 ((wrap64 ((wrap64 (x1+1))+1))+1),wrap64 ((wrap64 ((wrap64 ((wrap64 (x1+1))+1))+1))+1)⟩:S120))⟩,⟨HL.out.hK⟩,⟨HL.out.hB⟩⟩
   ·rw [if_neg c3] at H;have c3b0:decide (x5<(x0.length:Int))=false:=decide_eq_false c3;clear c3;obtain ⟨rfl,rfl⟩:=Prod.mk.inj (Option.some.inj H);obtain ⟨Ao,co,eo⟩:=Kd.R_slice HO.out;subst eo
    go_wp2
    go_ret
    exact ⟨rfl,HO.out,HB.out,HK.out⟩
theorem laws_markGate.calls (k:Nat) (a0_0:ByteArray) (a0_1:Int) (lo hi:Nat) (u2 u3 u4 u5 u6 u7:Value) (l2:List S83) (l3:List S114) (l4:List S152) (l5:List S161) (l6:List S118) (l7:List S120) (a1:Int) (r:Int) (r2:List S83) (r3:List S114) (r4:List S152) (r5:List S161) (r6:List S118) (r7:List S120) (w0 w:World) (hB:Below w0.heap.size w0 w) (hG:GG w0.heap.size lo hi w u2 u3 u4 u5 u6 u7 l2 l3 l4 l5 l6 l7) (h:laws_markGate.f k a0_0 a0_1 l2 l3 l4 l5 l6 l7 a1=some (r,r2,r3,r4,r5,r6,r7)) :
  Calls Tryz.prog 10 #[.agg #[.string a0_0,.int .i64 a0_1,u2,u3,u4,u5,u6,u7],.int .i64 a1] w fun e w'=>e=.returned (.int .i64 r)∧GG w0.heap.size lo hi w' u2 u3 u4 u5 u6 u7 r2 r3 r4 r5 r6 r7∧Below w0.heap.size w0 w'∧Kept w w' (fun k_=>lo≤k_∧k_<hi):=by
 have hu:=Tryz.underlying42;have hu2:=Tryz.underlying38;obtain ⟨⟨t1,y2⟩,A1,h⟩:=Option.bind_eq_some_iff.mp h;obtain ⟨⟨t2,y3⟩,A2,h⟩:=Option.bind_eq_some_iff.mp h;obtain ⟨⟨t3,y4,y5⟩,A3,h⟩:=Option.bind_eq_some_iff.mp h;obtain ⟨⟨t4,y6⟩,A4,h⟩:=Option.bind_eq_some_iff.mp h;obtain ⟨⟨t5,y7⟩,A5,h⟩:=Option.bind_eq_some_iff.mp h
 simp only [Option.some.injEq,Prod.mk.injEq] at h
 obtain ⟨rfl,rfl,rfl,rfl,rfl,rfl,rfl⟩:=h;replace A1:=am A1;replace A2:=am A2;replace A3:=am A3;replace A4:=am A4;replace A5:=am A5;obtain ⟨ho2,ho3,ho4,ho5,ho6,ho7,ht⟩:=hG;obtain ⟨o2,c2,e2⟩:=Kd.S_slice ho2;subst e2;have HO2:=am ho2;clear ho2;obtain ⟨o3,c3,e3⟩:=Kd.R_slice ho3;subst e3;have HO3:=am ho3;clear ho3;obtain ⟨o4,c4,e4⟩:=Kd.R_slice ho4;subst e4;have HO4:=am ho4;clear ho4;obtain ⟨o5,c5,e5⟩:=Kd.R_slice ho5;subst e5;have HO5:=am ho5;clear ho5;obtain ⟨o6,c6,e6⟩:=Kd.R_slice ho6;subst e6;have HO6:=am ho6;clear ho6;obtain ⟨o7,c7,e7⟩:=Kd.R_slice ho7;subst e7;have HO7:=am ho7;clear ho7;have HT:=am ht;have HB:=am hB;have HK:=am (Kept.refl w (fun k_=>lo≤k_∧k_<hi));clear ht hB
 go_in
 go_wp2_with (first|((with_reducible refine gate_dst (N:=2) rfl ?_);refine bx 2 (cs:=#[.string a0_0,.int .i64 a0_1,.slice o2 l2.length c2,.slice o3 l3.length c3,.slice o4 l4.length c4,.slice o5 l5.length c5,.slice o6 l6.length c6,.slice o7 l7.length c7]) (t:=42) ?_;intro gb hg w7 hbox hb;have BK:=am hbox;replace HO2:=am (Kd.S_below HO2.out hb);replace HO3:=am (Kd.R_below HO3.out hb);replace HO4:=am (Kd.R_below HO4.out hb);replace HO5:=am (Kd.R_below HO5.out hb);replace HO6:=am (Kd.R_below HO6.out hb);replace HO7:=am (Kd.R_below HO7.out hb);replace HK:=am (Kept.below (S:=(fun k_=>lo≤k_∧k_<hi)) HK.out hb);replace HB:=am (below_step HB.out hb);clear hb hbox hg;have hq2:=bc (v:=.slice o2 l2.length c2) BK 2 rfl)|(go_at_call 38;(refine (laws_markPartnerS.calls0 k (fun k_=>(lo≤k_∧k_<hi)∧TyP w0.heap.size w7 [83,155] k_) _ l2 a1 t1 y2 w0 _ HB.out (S_tyP2 HO2.out (by decide)) A1.out).mono ?_);rintro e w9 ⟨rfl,hy2,hb,hkp⟩;replace HO3:=am (Kd.R_mono (ok':=(fun k_=>lo≤k_∧k_<hi)) (Kd.R_kept (R_noTy HO3.out (by decide)) hkp (fun _ hk_ hs_=>hk_.2 hs_.2)) (fun _ hk_=>hk_.1));replace HO4:=am (Kd.R_mono (ok':=(fun k_=>lo≤k_∧k_<hi)) (Kd.R_kept (R_noTy HO4.out (by decide)) hkp (fun _ hk_ hs_=>hk_.2 hs_.2)) (fun _ hk_=>hk_.1));replace HO5:=am (Kd.R_mono (ok':=(fun k_=>lo≤k_∧k_<hi)) (Kd.R_kept (R_noTy HO5.out (by decide)) hkp (fun _ hk_ hs_=>hk_.2 hs_.2)) (fun _ hk_=>hk_.1));replace HO6:=am (Kd.R_mono (ok':=(fun k_=>lo≤k_∧k_<hi)) (Kd.R_kept (R_noTy HO6.out (by decide)) hkp (fun _ hk_ hs_=>hk_.2 hs_.2)) (fun _ hk_=>hk_.1));replace HO7:=am (Kd.R_mono (ok':=(fun k_=>lo≤k_∧k_<hi)) (Kd.R_kept (R_noTy HO7.out (by decide)) hkp (fun _ hk_ hs_=>hk_.2 hs_.2)) (fun _ hk_=>hk_.1));replace BK:=am (blk_kept BK.out hkp (fun hs_=>blk_noTy BK.out (by decide) hs_.2));replace HK:=am (HK.out.then_ hkp (fun _ hs_=>.inl hs_.1));have HY2:=am (Kd.S_mono (ok':=(fun k_=>lo≤k_∧k_<hi)) hy2 (fun _ q_=>q_.1));replace HB:=am hb;clear hb hkp hy2 HO2 hq2;have hq3:=bc (v:=.slice o3 l3.length c3) BK 3 rfl)|(go_at_call 39;(refine (laws_markCrossS.calls k (fun k_=>some k_=(.slice o3 l3.length c3:Value).ownBlock) _ l3 t1 t2 y3 w0 _ HB.out (Kd.R_tight rfl HO3.out) A2.out).mono ?_);rintro e w11 ⟨rfl,hy3,hb,hkp⟩;replace HY2:=am (Kd.S_mono (ok':=(fun k_=>lo≤k_∧k_<hi)) (Kd.S_kept (Kd.S_apart' HY2.out (Kd.R_typed HO3.out) (by decide)) hkp (fun _ hk_ hs_=>hk_.2 hs_)) (fun _ hk_=>hk_.1));replace HO4:=am (Kd.R_mono (ok':=(fun k_=>lo≤k_∧k_<hi)) (Kd.R_kept (Kd.R_apart' HO4.out (Kd.R_typed HO3.out) (by decide)) hkp (fun _ hk_ hs_=>hk_.2 hs_)) (fun _ hk_=>hk_.1));replace HO5:=am (Kd.R_mono (ok':=(fun k_=>lo≤k_∧k_<hi)) (Kd.R_kept (Kd.R_apart' HO5.out (Kd.R_typed HO3.out) (by decide)) hkp (fun _ hk_ hs_=>hk_.2 hs_)) (fun _ hk_=>hk_.1));replace HO6:=am (Kd.R_mono (ok':=(fun k_=>lo≤k_∧k_<hi)) (Kd.R_kept (Kd.R_apart' HO6.out (Kd.R_typed HO3.out) (by decide)) hkp (fun _ hk_ hs_=>hk_.2 hs_)) (fun _ hk_=>hk_.1));replace HO7:=am (Kd.R_mono (ok':=(fun k_=>lo≤k_∧k_<hi)) (Kd.R_kept (Kd.R_apart' HO7.out (Kd.R_typed HO3.out) (by decide)) hkp (fun _ hk_ hs_=>hk_.2 hs_)) (fun _ hk_=>hk_.1));replace BK:=am (blk_kept BK.out hkp (fun hs_=>(Kd.R_ne HO3.out BK.out (by decide)) hs_));replace HK:=am (HK.out.then_ hkp (fun z_=>(fun hs_=>.inl (HO3.out.1 z_ hs_.symm))));have HY3:=am (Kd.R_reok rfl hy3 (fun z_ e_=>HO3.out.1 z_ e_));replace HB:=am hb;clear hb hkp hy3 HO3 hq3;have hq4:=bc (v:=.slice o4 l4.length c4) BK 4 rfl;have hq5:=bc (v:=.slice o5 l5.length c5) BK 5 rfl)|(go_at_call 40;(refine (laws_markBook.calls k (fun k_=>some k_=(.slice o4 l4.length c4:Value).ownBlock) _ l4 (fun k_=>some k_=(.slice o5 l5.length c5:Value).ownBlock) _ l5 t2 t3 y4 y5 w0 _ HB.out (Kd.R_tight rfl HO4.out) (Kd.R_tight rfl HO5.out) A3.out).mono ?_);rintro e w13 ⟨rfl,hy4,hy5,hb,hkp⟩;replace HY2:=am (Kd.S_mono (ok':=(fun k_=>lo≤k_∧k_<hi)) (Kd.S_kept (Kd.S_apart' (Kd.S_apart' HY2.out (Kd.R_typed HO4.out) (by decide)) (Kd.R_typed HO5.out) (by decide)) hkp (fun _ hk_ hs_=>hs_.elim hk_.1.2 hk_.2)) (fun _ hk_=>hk_.1.1));replace HY3:=am (Kd.R_mono (ok':=(fun k_=>lo≤k_∧k_<hi)) (Kd.R_kept (Kd.R_apart' (Kd.R_apart' HY3.out (Kd.R_typed HO4.out) (by decide)) (Kd.R_typed HO5.out) (by decide)) hkp (fun _ hk_ hs_=>hs_.elim hk_.1.2 hk_.2)) (fun _ hk_=>hk_.1.1));replace HO6:=am (Kd.R_mono (ok':=(fun k_=>lo≤k_∧k_<hi)) (Kd.R_kept (Kd.R_apart' (Kd.R_apart' HO6.out (Kd.R_typed HO4.out) (by decide)) (Kd.R_typed HO5.out) (by decide)) hkp (fun _ hk_ hs_=>hs_.elim hk_.1.2 hk_.2)) (fun _ hk_=>hk_.1.1));replace HO7:=am (Kd.R_mono (ok':=(fun k_=>lo≤k_∧k_<hi)) (Kd.R_kept (Kd.R_apart' (Kd.R_apart' HO7.out (Kd.R_typed HO4.out) (by decide)) (Kd.R_typed HO5.out) (by decide)) hkp (fun _ hk_ hs_=>hs_.elim hk_.1.2 hk_.2)) (fun _ hk_=>hk_.1.1));replace BK:=am (blk_kept BK.out hkp (fun hs_=>hs_.elim (fun e_=>(Kd.R_ne HO4.out BK.out (by decide)) e_) (fun e_=>(Kd.R_ne HO5.out BK.out (by decide)) e_)));replace HK:=am (HK.out.then_ hkp (fun z_=>(fun hs_=>hs_.elim (fun e_=>.inl (HO4.out.1 z_ e_.symm)) (fun e_=>.inl (HO5.out.1 z_ e_.symm)))));have HY4:=am (Kd.R_reok rfl hy4 (fun z_ e_=>HO4.out.1 z_ e_));have HY5:=am (Kd.R_reok rfl hy5 (fun z_ e_=>HO5.out.1 z_ e_));replace HB:=am hb;clear hb hkp hy4 hy5 HO4 HO5 hq4 hq5;have hq6:=bc (v:=.slice o6 l6.length c6) BK 6 rfl)|(go_at_call 41;(refine (laws_markDiffS.calls k (fun k_=>some k_=(.slice o6 l6.length c6:Value).ownBlock) _ l6 t3 t4 y6 w0 _ HB.out (Kd.R_tight rfl HO6.out) A4.out).mono ?_);rintro e w15 ⟨rfl,hy6,hb,hkp⟩;replace HY2:=am (Kd.S_mono (ok':=(fun k_=>lo≤k_∧k_<hi)) (Kd.S_kept (Kd.S_apart' HY2.out (Kd.R_typed HO6.out) (by decide)) hkp (fun _ hk_ hs_=>hk_.2 hs_)) (fun _ hk_=>hk_.1));replace HY3:=am (Kd.R_mono (ok':=(fun k_=>lo≤k_∧k_<hi)) (Kd.R_kept (Kd.R_apart' HY3.out (Kd.R_typed HO6.out) (by decide)) hkp (fun _ hk_ hs_=>hk_.2 hs_)) (fun _ hk_=>hk_.1));replace HY4:=am (Kd.R_mono (ok':=(fun k_=>lo≤k_∧k_<hi)) (Kd.R_kept (Kd.R_apart' HY4.out (Kd.R_typed HO6.out) (by decide)) hkp (fun _ hk_ hs_=>hk_.2 hs_)) (fun _ hk_=>hk_.1));replace HY5:=am (Kd.R_mono (ok':=(fun k_=>lo≤k_∧k_<hi)) (Kd.R_kept (Kd.R_apart' HY5.out (Kd.R_typed HO6.out) (by decide)) hkp (fun _ hk_ hs_=>hk_.2 hs_)) (fun _ hk_=>hk_.1));replace HO7:=am (Kd.R_mono (ok':=(fun k_=>lo≤k_∧k_<hi)) (Kd.R_kept (Kd.R_apart' HO7.out (Kd.R_typed HO6.out) (by decide)) hkp (fun _ hk_ hs_=>hk_.2 hs_)) (fun _ hk_=>hk_.1));replace BK:=am (blk_kept BK.out hkp (fun hs_=>(Kd.R_ne HO6.out BK.out (by decide)) hs_));replace HK:=am (HK.out.then_ hkp (fun z_=>(fun hs_=>.inl (HO6.out.1 z_ hs_.symm))));have HY6:=am (Kd.R_reok rfl hy6 (fun z_ e_=>HO6.out.1 z_ e_));replace HB:=am hb;clear hb hkp hy6 HO6 hq6;have hq7:=bc (v:=.slice o7 l7.length c7) BK 7 rfl)|(go_at_call 42;(refine (laws_markOutS.calls k (fun k_=>some k_=(.slice o7 l7.length c7:Value).ownBlock) _ l7 t4 t5 y7 w0 _ HB.out (Kd.R_tight rfl HO7.out) A5.out).mono ?_);rintro e w17 ⟨rfl,hy7,hb,hkp⟩;replace HY2:=am (Kd.S_mono (ok':=(fun k_=>lo≤k_∧k_<hi)) (Kd.S_kept (Kd.S_apart' HY2.out (Kd.R_typed HO7.out) (by decide)) hkp (fun _ hk_ hs_=>hk_.2 hs_)) (fun _ hk_=>hk_.1));replace HY3:=am (Kd.R_mono (ok':=(fun k_=>lo≤k_∧k_<hi)) (Kd.R_kept (Kd.R_apart' HY3.out (Kd.R_typed HO7.out) (by decide)) hkp (fun _ hk_ hs_=>hk_.2 hs_)) (fun _ hk_=>hk_.1));replace HY4:=am (Kd.R_mono (ok':=(fun k_=>lo≤k_∧k_<hi)) (Kd.R_kept (Kd.R_apart' HY4.out (Kd.R_typed HO7.out) (by decide)) hkp (fun _ hk_ hs_=>hk_.2 hs_)) (fun _ hk_=>hk_.1));replace HY5:=am (Kd.R_mono (ok':=(fun k_=>lo≤k_∧k_<hi)) (Kd.R_kept (Kd.R_apart' HY5.out (Kd.R_typed HO7.out) (by decide)) hkp (fun _ hk_ hs_=>hk_.2 hs_)) (fun _ hk_=>hk_.1));replace HY6:=am (Kd.R_mono (ok':=(fun k_=>lo≤k_∧k_<hi)) (Kd.R_kept (Kd.R_apart' HY6.out (Kd.R_typed HO7.out) (by decide)) hkp (fun _ hk_ hs_=>hk_.2 hs_)) (fun _ hk_=>hk_.1));replace BK:=am (blk_kept BK.out hkp (fun hs_=>(Kd.R_ne HO7.out BK.out (by decide)) hs_));replace HK:=am (HK.out.then_ hkp (fun z_=>(fun hs_=>.inl (HO7.out.1 z_ hs_.symm))));have HY7:=am (Kd.R_reok rfl hy7 (fun z_ e_=>HO7.out.1 z_ e_));replace HB:=am hb;clear hb hkp hy7 HO7 hq7))
 go_ret
 exact ⟨rfl,⟨HY2.out,HY3.out,HY4.out,HY5.out,HY6.out,HY7.out,Nat.le_trans HT.out HK.out.1⟩,HB.out,HK.out⟩
theorem laws_markGateOut.calls (k:Nat) (a0_0:ByteArray) (a0_1:Int) (lo hi:Nat) (u2 u3 u4 u5 u6 u7:Value) (l2:List S83) (l3:List S114) (l4:List S152) (l5:List S161) (l6:List S118) (l7:List S120) (e8:ByteArray) (e9 e10 e11 e12 e13:Int) (a1:Int) (r:Int) (r2:List S83) (r3:List S114) (r4:List S152) (r5:List S161) (r6:List S118) (r7:List S120) (w0 w:World) (hB:Below w0.heap.size w0 w) (hG:GG w0.heap.size lo hi w u2 u3 u4 u5 u6 u7 l2 l3 l4 l5 l6 l7) (h:laws_markGateOut.f k a0_0 a0_1 l2 l3 l4 l5 l6 l7 e8 e9 e10 e11 e12 e13 a1=some (r,r2,r3,r4,r5,r6,r7)) :
  Calls Tryz.prog 15 #[.agg #[.string a0_0,.int .i64 a0_1,u2,u3,u4,u5,u6,u7,.string e8,.int .i64 e9,.int .i64 e10,.int .i64 e11,.int .i64 e12,.int .i64 e13],.int .i64 a1] w fun e w'=>e=.returned (.int .i64 r)∧GG w0.heap.size lo hi w' u2 u3 u4 u5 u6 u7 r2 r3 r4 r5 r6 r7∧Below w0.heap.size w0 w'∧Kept w w' (fun k_=>lo≤k_∧k_<hi):=by
 have hu:=Tryz.underlying42;have hu2:=Tryz.underlying49;obtain ⟨A2,c2,e_⟩:=Kd.S_slice hG.1;subst e_;obtain ⟨A3,c3,e_⟩:=Kd.R_slice hG.2.1;subst e_;obtain ⟨A4,c4,e_⟩:=Kd.R_slice hG.2.2.1;subst e_;obtain ⟨A5,c5,e_⟩:=Kd.R_slice hG.2.2.2.1;subst e_;obtain ⟨A6,c6,e_⟩:=Kd.R_slice hG.2.2.2.2.1;subst e_;obtain ⟨A7,c7,e_⟩:=Kd.R_slice hG.2.2.2.2.2.1;subst e_;have HB:=am hB;have G:=am hG;have A1:=am (show laws_markGate.f k a0_0 a0_1 l2 l3 l4 l5 l6 l7 a1=some (r,r2,r3,r4,r5,r6,r7) from h);clear hB hG h
 go_in
 try go_wp2_with (first|((with_reducible refine gate_dst (N:=2) rfl ?_);refine bx 2 (cs:=#[.string a0_0,.int .i64 a0_1,.slice A2 l2.length c2,.slice A3 l3.length c3,.slice A4 l4.length c4,.slice A5 l5.length c5,.slice A6 l6.length c6,.slice A7 l7.length c7,.string e8,.int .i64 e9,.int .i64 e10,.int .i64 e11,.int .i64 e12,.int .i64 e13]) (t:=49) ?_;intro gb hg w7 hbox hb;have BK:=am hbox;replace G:=am (G.out.below hb);have HK:=am (Kept.below (S:=(fun k_=>lo≤k_∧k_<hi)) (Kept.refl w _) hb);replace HB:=am (below_step HB.out hb);clear hb hbox hg;have hz:=cf14 BK))
 go_at_call 10;refine (laws_markGate.calls k a0_0 a0_1 lo hi _ _ _ _ _ _ l2 l3 l4 l5 l6 l7 a1 r r2 r3 r4 r5 r6 r7 w0 _ HB.out G.out A1.out).mono ?_;rintro e w8 ⟨rfl,hG,hb,hk⟩
 go_wp2
 go_ret
 exact ⟨ff,hG,hb,HK.out.then_ hk (fun _ q=>.inl q)⟩
theorem laws_heldSeenS.calls (k:Nat) (A0:Option Addr) (c0:Nat) (l0:List (S155)) (a1:Int) (r:Int) (w:World) (hr0:Kd.C k155 w A0 l0.length l0) (hc0:l0.length≤c0) (H:laws_heldSeenS.f k l0 a1=some r) :
  Calls Tryz.prog 98 #[.slice A0 l0.length c0,.int .i64 a1] w fun e w'=>e=.returned (.int .i64 r)∧Drawn0 w w':=by
 have HR0:=am hr0;have HC0:=am hc0;clear hr0 hc0;unfold laws_heldSeenS.f at H;have H':=am H;clear H
 go_in
 go_wp2
 go_loopg [1,5] k (fun kq v1 v5 w'=>∃ (x1_1:Int) (x5_1:Int),v1=.int .i64 x1_1∧v5=.int .i64 x5_1∧Aside0 (laws_heldSeenS.l0 kq l0 x1_1 x5_1=some r)∧Aside0 (kq≤k)∧Drawn0 w w')
 case atStart=>exact ⟨(a1),(0),fg,fg,H',⟨Nat.le_refl _⟩,by repeat (first|exact Drawn0.refl _|apply Drawn0.step)⟩
 case round =>
  clear H'
  obtain ⟨x1_1,x5_1,rfl,rfl,HA,HK1,⟨m1,rfl⟩⟩:=hrel
  cases gk with
  | zero=>exact absurd HA.out (by simp [laws_heldSeenS.l0])
  | succ k1 =>
   have H:=HA.out;clear HA;simp only [laws_heldSeenS.l0] at H
   revert H;refine id2 ?_ ?_
   ·intro c3b0 H
    revert H;refine id1 ?_
    intro c4b0 H
    revert H;refine ie2 ?_ ?_
    ·intro c5b0 c5b1 H
     revert H;refine ie2 ?_ ?_
     ·intro c6b0 c6b1 H
      revert H;refine ie2 ?_ ?_
      ·intro c7b0 c7b1 H;have H':=am H;clear H;have p8:0≤(x5_1:Int):=oa;have q8:x5_1<(l0.length:Int):=oa;obtain ⟨ad8,e8,hx8_0,hx8_1,hx8_2⟩:=at_T155 HR0.out x5_1 p8 q8
       cases e8
       replace p8:=eq_true p8;replace q8:=eq_true q8;have p9:0≤(x5_1:Int):=oa;have q9:x5_1<(l0.length:Int):=oa;obtain ⟨ad9,e9,hx9_0,hx9_1,hx9_2⟩:=at_T155 HR0.out x5_1 p9 q9;obtain rfl:ad8=ad9:=(by injection e9);replace p9:=eq_true p9;replace q9:=eq_true q9;have p10:0≤(x5_1:Int):=oa;have q10:x5_1<(l0.length:Int):=oa;obtain ⟨ad10,e10,hx10_0,hx10_1,hx10_2⟩:=at_T155 HR0.out x5_1 p10 q10;obtain rfl:ad8=ad10:=(by injection e10);replace p10:=eq_true p10;replace q10:=eq_true q10
       go_wp2
       go_roundg k1
       case measure=>have:=HK1.out;omega
       case rel=>exact ⟨(wrap64 ((wrap64 ((wrap64 (x1_1+1))+1))+1)),(wrap64 (x5_1+1)),fg,fg,H',⟨by have:=HK1.out;omega⟩,by repeat (first|exact Drawn0.refl _|apply Drawn0.step)⟩
      ·intro c7 c7b0 c7b1 H;obtain rfl:=si H;have p8:0≤(x5_1:Int):=oa;have q8:x5_1<(l0.length:Int):=oa;obtain ⟨ad8,e8,hx8_0,hx8_1,hx8_2⟩:=at_T155 HR0.out x5_1 p8 q8
       cases e8
       replace p8:=eq_true p8;replace q8:=eq_true q8;have p9:0≤(x5_1:Int):=oa;have q9:x5_1<(l0.length:Int):=oa;obtain ⟨ad9,e9,hx9_0,hx9_1,hx9_2⟩:=at_T155 HR0.out x5_1 p9 q9;obtain rfl:ad8=ad9:=(by injection e9);replace p9:=eq_true p9;replace q9:=eq_true q9;have p10:0≤(x5_1:Int):=oa;have q10:x5_1<(l0.length:Int):=oa;obtain ⟨ad10,e10,hx10_0,hx10_1,hx10_2⟩:=at_T155 HR0.out x5_1 p10 q10;obtain rfl:ad8=ad10:=(by injection e10);replace p10:=eq_true p10;replace q10:=eq_true q10
       go_wp2
       go_ret
       exact ⟨fg,dr⟩
     ·intro c6 c6b0 c6b1 H;obtain rfl:=si H;have p8:0≤(x5_1:Int):=oa;have q8:x5_1<(l0.length:Int):=oa;obtain ⟨ad8,e8,hx8_0,hx8_1,hx8_2⟩:=at_T155 HR0.out x5_1 p8 q8
      cases e8
      replace p8:=eq_true p8;replace q8:=eq_true q8;have p9:0≤(x5_1:Int):=oa;have q9:x5_1<(l0.length:Int):=oa;obtain ⟨ad9,e9,hx9_0,hx9_1,hx9_2⟩:=at_T155 HR0.out x5_1 p9 q9;obtain rfl:ad8=ad9:=(by injection e9);replace p9:=eq_true p9;replace q9:=eq_true q9
      go_wp2
      go_ret
      exact ⟨fg,dr⟩
    ·intro c5 c5b0 c5b1 H;obtain rfl:=si H;have p8:0≤(x5_1:Int):=oa;have q8:x5_1<(l0.length:Int):=oa;obtain ⟨ad8,e8,hx8_0,hx8_1,hx8_2⟩:=at_T155 HR0.out x5_1 p8 q8
     cases e8
     replace p8:=eq_true p8;replace q8:=eq_true q8
     go_wp2
     go_ret
     exact ⟨fg,dr⟩
   ·intro c3b0 H;obtain rfl:=si H
    go_wp2
    go_ret
    exact ⟨fg,dr⟩
def laws_heldT:Bool × List (List Nat × List Nat):=(true,[([],[]),([],[]),([0,1],[0,1]),([2],[2]),([3],[3]),([],[]),([5],[5]),([4,6],[4,6])])
def laws_heldB:List Nat:=[0,0,3,7,15,0,32,127]
theorem laws_heldPartnerS.calls (k:Nat) (A0:Option Addr) (c0:Nat) (l0:List (S83)) (a1:Int) (r:Int) (w:World) (hr0:Kd.C k83 w A0 l0.length l0) (hc0:l0.length≤c0) (h:laws_heldPartnerS.f k l0 a1=some r) :
  Calls Tryz.prog 43 #[.slice A0 l0.length c0,.int .i64 a1] w fun e w'=>e=.returned (.int .i64 r)∧Below w.heap.size w w':=by
 have HB:=am (Below.refl w.heap.size w);have HR0:=am hr0;have H':=am (show laws_heldPartnerS.l0 k l0 a1 0=some r from h);clear h hr0 hc0
 go_in
 go_wp2
 go_loopg [1,5] k (fun kq v1 v5 w'=>∃ (x1:Int) (x5:Int),v1=.int .i64 x1∧v5=.int .i64 x5∧Aside0 (laws_heldPartnerS.l0 kq l0 x1 x5=some r)∧Aside0 (kq≤k)∧Aside0 (Below w.heap.size w w'))
 case atStart=>exact ⟨a1,0,rfl,rfl,H',⟨Nat.le_refl _⟩,HB⟩
 case round =>
  clear H';obtain ⟨x1,x5,rfl,rfl,HA,HK1,HB⟩:=hrel
  cases gk with
  | zero=>exact absurd HA.out (by simp [laws_heldPartnerS.l0])
  | succ k1 =>
   have H:=HA.out;clear HA;simp only [laws_heldPartnerS.l0] at H
   revert H;refine id2 ?_ ?_
   ·intro c3b0 H
    revert H;refine id1 ?_
    intro c4b0 H;have p1:0≤(x5:Int):=oa;have q1:x5<(l0.length:Int):=oa;obtain ⟨ad,Ai,ci,ead,g0,g1,g2,g3,hi,gi⟩:=at_T83 HR0.out x5 p1 q1;cases ead;replace p1:=eq_true p1;replace q1:=eq_true q1;have G3:=am g3;have HI:=am hi;have GI:=am gi;clear g3 hi gi;have G0:=am g0;clear g0;have G1:=am g1;clear g1;have G2:=am g2;clear g2
    try go_upto_region 4 with (fail)
    replace H:=bo H;obtain ⟨t0,A0,H⟩:=H;revert H;refine ie1 ?_;intro c0b0 c0b1 H;replace HB:=am (below_drew1 HB.out);refine sta 8 (hc (cb HB G0.out)) (fun hHeld=>?_);refine with_tabW (show rtab .any (opsOf Tryz.f43 4)=laws_heldT from by kernel_rfl) (show waitsOk laws_heldT.2 laws_heldB=true from by kernel_rfl) (fun HT_ HW_=>?_)
    generalize wr.drew=w0a at HB hHeld ⊢
    have hx:=cb HB G0.out;refine pz4 0 ?_;refine pz1 5 ?_;refine ta 4 ?_;refine oA 6 18 HT_ (fun K hK=>?_);refine gA Tryz.func94 #[.int .i64 x1] ?_;(with_reducible refine (laws_markText.calls k1 x1 t0 _ A0.out).mono ?_);rintro e w0b ⟨rfl,hb⟩;refine ⟨_,rfl,?_⟩;replace HB:=bq HB hb;clear hb hx;refine hK.out _ _ (hc (cb HB G0.out)).out (fun hHeld=>?_);clear hK K hHeld;refine nA 18 ?_;refine pz1 7 ?_;refine done_ (done_of HT_.out (by kernel_rfl)) ?_;clear HT_ HW_
    try go_upto_region 7 with (fail)
    have hx:=cb HB G1.out
    revert H;refine ie1 ?_;intro c1b0 c1b1 H
    try go_upto_region 10 with (fail)
    have hx:=cb HB G2.out
    revert H;refine ie1 ?_;intro c2b0 c2b1 H
    replace H:=bo H;obtain ⟨tq,AQ,H⟩:=H;have hy:=cb HB G3.out
    try go_wp2_with (fail)
    go_at_call 98;refine (laws_heldSeenS.calls k1 _ _ (rd_T83 l0 x5).f3 (wrap64 ((wrap64 ((wrap64 (x1+1))+1))+1)) tq _ (Kd.C_below GI.out (bs HB)) HI.out AQ.out).mono ?_;rintro e w' ⟨rfl,⟨nd,rfl⟩⟩;clear hy
    revert H;refine id2 ?_ ?_;· intro _ H;cases H
    intro cq H;have H':=am H;clear H
    try go_wp2
    go_roundg k1
    case measure=>have:=HK1.out;omega
    case rel=>exact ⟨tq,wrap64 (x5+1),fg,fg,H',⟨by have:=HK1.out;omega⟩,⟨bs HB⟩⟩
   ·intro c3b0 H;obtain rfl:=si H
    go_wp2
    go_ret
    exact ⟨ff,bs HB⟩
theorem laws_heldCrossS.calls (k:Nat) (A0:Option Addr) (c0:Nat) (l0:List (S114)) (a1:Int) (r:Int) (w:World) (hr0:Kd.C k114 w A0 l0.length l0) (hc0:l0.length≤c0) (h:laws_heldCrossS.f k l0 a1=some r) :
  Calls Tryz.prog 44 #[.slice A0 l0.length c0,.int .i64 a1] w fun e w'=>e=.returned (.int .i64 r)∧Below w.heap.size w w':=by
 have HB:=am (Below.refl w.heap.size w);have HR0:=am hr0;have H':=am (show laws_heldCrossS.l0 k l0 a1 0=some r from h);clear h hr0 hc0
 go_in
 go_wp2
 go_loopg [1,5] k (fun kq v1 v5 w'=>∃ (x1:Int) (x5:Int),v1=.int .i64 x1∧v5=.int .i64 x5∧Aside0 (laws_heldCrossS.l0 kq l0 x1 x5=some r)∧Aside0 (kq≤k)∧Aside0 (Below w.heap.size w w'))
 case atStart=>exact ⟨a1,0,rfl,rfl,H',⟨Nat.le_refl _⟩,HB⟩
 case round =>
  clear H';obtain ⟨x1,x5,rfl,rfl,HA,HK1,HB⟩:=hrel
  cases gk with
  | zero=>exact absurd HA.out (by simp [laws_heldCrossS.l0])
  | succ k1 =>
   have H:=HA.out;clear HA;simp only [laws_heldCrossS.l0] at H
   revert H;refine id2 ?_ ?_
   ·intro c3b0 H
    revert H;refine id1 ?_
    intro c4b0 H;have p1:0≤(x5:Int):=oa;have q1:x5<(l0.length:Int):=oa;obtain ⟨ad,ead,g0,g1,g2⟩:=at_T114 HR0.out x5 p1 q1;cases ead;replace p1:=eq_true p1;replace q1:=eq_true q1;have G0:=am g0;clear g0;have G1:=am g1;clear g1;have G2:=am g2;clear g2
    try go_upto_region 4 with (fail)
    replace H:=bo H;obtain ⟨t0,A0,H⟩:=H;revert H;refine ie1 ?_;intro c0b0 c0b1 H;replace HB:=am (below_drew1 HB.out);refine sta 8 (hc (cb HB G0.out)) (fun hHeld=>?_);refine with_tabW (show rtab .any (opsOf Tryz.f44 4)=laws_heldT from by kernel_rfl) (show waitsOk laws_heldT.2 laws_heldB=true from by kernel_rfl) (fun HT_ HW_=>?_)
    generalize wr.drew=w0a at HB hHeld ⊢
    have hx:=cb HB G0.out;refine pz4 0 ?_;refine pz1 5 ?_;refine ta 4 ?_;refine oA 6 18 HT_ (fun K hK=>?_);refine gA Tryz.func94 #[.int .i64 x1] ?_;(with_reducible refine (laws_markText.calls k1 x1 t0 _ A0.out).mono ?_);rintro e w0b ⟨rfl,hb⟩;refine ⟨_,rfl,?_⟩;replace HB:=bq HB hb;clear hb hx;refine hK.out _ _ (hc (cb HB G0.out)).out (fun hHeld=>?_);clear hK K hHeld;refine nA 18 ?_;refine pz1 7 ?_;refine done_ (done_of HT_.out (by kernel_rfl)) ?_;clear HT_ HW_
    try go_upto_region 7 with (fail)
    replace H:=bo H;obtain ⟨t1,A1,H⟩:=H;revert H;refine ie1 ?_;intro c1b0 c1b1 H;replace HB:=am (below_drew1 HB.out);refine sta 8 (hc (cb HB G1.out)) (fun hHeld=>?_);refine with_tabW (show rtab .any (opsOf Tryz.f44 7)=laws_heldT from by kernel_rfl) (show waitsOk laws_heldT.2 laws_heldB=true from by kernel_rfl) (fun HT_ HW_=>?_)
    generalize w0b.drew=w1a at HB hHeld ⊢
    have hx:=cb HB G1.out;refine pz4 0 ?_;refine pz1 5 ?_;refine ta 4 ?_;refine oA 6 28 HT_ (fun K hK=>?_);refine gA Tryz.func94 #[.int .i64 (wrap64 (x1+1))] ?_;(with_reducible refine (laws_markText.calls k1 (wrap64 (x1+1)) t1 _ A1.out).mono ?_);rintro e w1b ⟨rfl,hb⟩;refine ⟨_,rfl,?_⟩;replace HB:=bq HB hb;clear hb hx;refine hK.out _ _ (hc (cb HB G1.out)).out (fun hHeld=>?_);clear hK K hHeld;refine nA 28 ?_;refine pz1 7 ?_;refine done_ (done_of HT_.out (by kernel_rfl)) ?_;clear HT_ HW_
    try go_upto_region 10 with (fail)
    replace H:=bo H;obtain ⟨t2,A2,H⟩:=H;revert H;refine ie1 ?_;intro c2b0 c2b1 H;replace HB:=am (below_drew1 HB.out);refine sta 8 (hc (cb HB G2.out)) (fun hHeld=>?_);refine with_tabW (show rtab .any (opsOf Tryz.f44 10)=laws_heldT from by kernel_rfl) (show waitsOk laws_heldT.2 laws_heldB=true from by kernel_rfl) (fun HT_ HW_=>?_)
    generalize w1b.drew=w2a at HB hHeld ⊢
    have hx:=cb HB G2.out;refine pz4 0 ?_;refine pz1 5 ?_;refine ta 4 ?_;refine oA 6 38 HT_ (fun K hK=>?_);refine gA Tryz.func94 #[.int .i64 (wrap64 ((wrap64 (x1+1))+1))] ?_;(with_reducible refine (laws_markText.calls k1 (wrap64 ((wrap64 (x1+1))+1)) t2 _ A2.out).mono ?_);rintro e w2b ⟨rfl,hb⟩;refine ⟨_,rfl,?_⟩;replace HB:=bq HB hb;clear hb hx;refine hK.out _ _ (hc (cb HB G2.out)).out (fun hHeld=>?_);clear hK K hHeld;refine nA 38 ?_;refine pz1 7 ?_;refine done_ (done_of HT_.out (by kernel_rfl)) ?_;clear HT_ HW_;have H':=am H;clear H
    try go_wp2
    go_roundg k1
    case measure=>have:=HK1.out;omega
    case rel=>exact ⟨wrap64 ((wrap64 ((wrap64 (x1+1))+1))+1),wrap64 (x5+1),fg,fg,H',⟨by have:=HK1.out;omega⟩,⟨bs HB⟩⟩
   ·intro c3b0 H;obtain rfl:=si H
    go_wp2
    go_ret
    exact ⟨ff,bs HB⟩
theorem laws_heldStockS.calls (k:Nat) (A0:Option Addr) (c0:Nat) (l0:List (S152)) (a1:Int) (r:Int) (w:World) (hr0:Kd.C k152 w A0 l0.length l0) (hc0:l0.length≤c0) (h:laws_heldStockS.f k l0 a1=some r) :
  Calls Tryz.prog 99 #[.slice A0 l0.length c0,.int .i64 a1] w fun e w'=>e=.returned (.int .i64 r)∧Below w.heap.size w w':=by
 have HB:=am (Below.refl w.heap.size w);have HR0:=am hr0;have H':=am (show laws_heldStockS.l0 k l0 a1 0=some r from h);clear h hr0 hc0
 go_in
 go_wp2
 go_loopg [1,5] k (fun kq v1 v5 w'=>∃ (x1:Int) (x5:Int),v1=.int .i64 x1∧v5=.int .i64 x5∧Aside0 (laws_heldStockS.l0 kq l0 x1 x5=some r)∧Aside0 (kq≤k)∧Aside0 (Below w.heap.size w w'))
 case atStart=>exact ⟨a1,0,rfl,rfl,H',⟨Nat.le_refl _⟩,HB⟩
 case round =>
  clear H';obtain ⟨x1,x5,rfl,rfl,HA,HK1,HB⟩:=hrel
  cases gk with
  | zero=>exact absurd HA.out (by simp [laws_heldStockS.l0])
  | succ k1 =>
   have H:=HA.out;clear HA;simp only [laws_heldStockS.l0] at H
   revert H;refine id2 ?_ ?_
   ·intro c3b0 H
    revert H;refine id1 ?_
    intro c4b0 H;have p1:0≤(x5:Int):=oa;have q1:x5<(l0.length:Int):=oa;obtain ⟨ad,ead,g0,g1⟩:=at_T152 HR0.out x5 p1 q1;cases ead;replace p1:=eq_true p1;replace q1:=eq_true q1;have G0:=am g0;clear g0;have G1:=am g1;clear g1
    try go_upto_region 4 with (fail)
    replace H:=bo H;obtain ⟨t0,A0,H⟩:=H;revert H;refine ie1 ?_;intro c0b0 c0b1 H;replace HB:=am (below_drew1 HB.out);refine sta 8 (hc (cb HB G0.out)) (fun hHeld=>?_);refine with_tabW (show rtab .any (opsOf Tryz.f99 4)=laws_heldT from by kernel_rfl) (show waitsOk laws_heldT.2 laws_heldB=true from by kernel_rfl) (fun HT_ HW_=>?_)
    generalize wr.drew=w0a at HB hHeld ⊢
    have hx:=cb HB G0.out;refine pz4 0 ?_;refine pz1 5 ?_;refine ta 4 ?_;refine oA 6 18 HT_ (fun K hK=>?_);refine gA Tryz.func94 #[.int .i64 x1] ?_;(with_reducible refine (laws_markText.calls k1 x1 t0 _ A0.out).mono ?_);rintro e w0b ⟨rfl,hb⟩;refine ⟨_,rfl,?_⟩;replace HB:=bq HB hb;clear hb hx;refine hK.out _ _ (hc (cb HB G0.out)).out (fun hHeld=>?_);clear hK K hHeld;refine nA 18 ?_;refine pz1 7 ?_;refine done_ (done_of HT_.out (by kernel_rfl)) ?_;clear HT_ HW_
    try go_upto_region 7 with (fail)
    have hx:=cb HB G1.out
    revert H;refine ie1 ?_;intro c1b0 c1b1 H
    have H':=am H;clear H
    try go_wp2
    go_roundg k1
    case measure=>have:=HK1.out;omega
    case rel=>exact ⟨wrap64 ((wrap64 (x1+1))+1),wrap64 (x5+1),fg,fg,H',⟨by have:=HK1.out;omega⟩,⟨bs HB⟩⟩
   ·intro c3b0 H;obtain rfl:=si H
    go_wp2
    go_ret
    exact ⟨ff,bs HB⟩
theorem laws_heldOrderLineS.calls (k:Nat) (A0:Option Addr) (c0:Nat) (l0:List (S161)) (a1:Int) (r:Int) (w:World) (hr0:Kd.C k161 w A0 l0.length l0) (hc0:l0.length≤c0) (h:laws_heldOrderLineS.f k l0 a1=some r) :
  Calls Tryz.prog 100 #[.slice A0 l0.length c0,.int .i64 a1] w fun e w'=>e=.returned (.int .i64 r)∧Below w.heap.size w w':=by
 have HB:=am (Below.refl w.heap.size w);have HR0:=am hr0;have H':=am (show laws_heldOrderLineS.l0 k l0 a1 0=some r from h);clear h hr0 hc0
 go_in
 go_wp2
 go_loopg [1,5] k (fun kq v1 v5 w'=>∃ (x1:Int) (x5:Int),v1=.int .i64 x1∧v5=.int .i64 x5∧Aside0 (laws_heldOrderLineS.l0 kq l0 x1 x5=some r)∧Aside0 (kq≤k)∧Aside0 (Below w.heap.size w w'))
 case atStart=>exact ⟨a1,0,rfl,rfl,H',⟨Nat.le_refl _⟩,HB⟩
 case round =>
  clear H';obtain ⟨x1,x5,rfl,rfl,HA,HK1,HB⟩:=hrel
  cases gk with
  | zero=>exact absurd HA.out (by simp [laws_heldOrderLineS.l0])
  | succ k1 =>
   have H:=HA.out;clear HA;simp only [laws_heldOrderLineS.l0] at H
   revert H;refine id2 ?_ ?_
   ·intro c3b0 H
    revert H;refine id1 ?_
    intro c4b0 H;have p1:0≤(x5:Int):=oa;have q1:x5<(l0.length:Int):=oa;obtain ⟨ad,ead,g0,g1,g2,g3,g4,g5,g6,g7⟩:=at_T161 HR0.out x5 p1 q1;cases ead;replace p1:=eq_true p1;replace q1:=eq_true q1;have G0:=am g0;clear g0;have G1:=am g1;clear g1;have G2:=am g2;clear g2;have G3:=am g3;clear g3;have G4:=am g4;clear g4;have G5:=am g5;clear g5;have G6:=am g6;clear g6;have G7:=am g7;clear g7
    try go_upto_region 4 with (fail)
    replace H:=bo H;obtain ⟨t0,A0,H⟩:=H;revert H;refine ie1 ?_;intro c0b0 c0b1 H;replace HB:=am (below_drew1 HB.out);refine sta 8 (hc (cb HB G0.out)) (fun hHeld=>?_);refine with_tabW (show rtab .any (opsOf Tryz.f100 4)=laws_heldT from by kernel_rfl) (show waitsOk laws_heldT.2 laws_heldB=true from by kernel_rfl) (fun HT_ HW_=>?_)
    generalize wr.drew=w0a at HB hHeld ⊢
    have hx:=cb HB G0.out;refine pz4 0 ?_;refine pz1 5 ?_;refine ta 4 ?_;refine oA 6 18 HT_ (fun K hK=>?_);refine gA Tryz.func94 #[.int .i64 x1] ?_;(with_reducible refine (laws_markText.calls k1 x1 t0 _ A0.out).mono ?_);rintro e w0b ⟨rfl,hb⟩;refine ⟨_,rfl,?_⟩;replace HB:=bq HB hb;clear hb hx;refine hK.out _ _ (hc (cb HB G0.out)).out (fun hHeld=>?_);clear hK K hHeld;refine nA 18 ?_;refine pz1 7 ?_;refine done_ (done_of HT_.out (by kernel_rfl)) ?_;clear HT_ HW_
    try go_upto_region 7 with (fail)
    replace H:=bo H;obtain ⟨t1,A1,H⟩:=H;revert H;refine ie1 ?_;intro c1b0 c1b1 H;replace HB:=am (below_drew1 HB.out);refine sta 8 (hc (cb HB G1.out)) (fun hHeld=>?_);refine with_tabW (show rtab .any (opsOf Tryz.f100 7)=laws_heldT from by kernel_rfl) (show waitsOk laws_heldT.2 laws_heldB=true from by kernel_rfl) (fun HT_ HW_=>?_)
    generalize w0b.drew=w1a at HB hHeld ⊢
    have hx:=cb HB G1.out;refine pz4 0 ?_;refine pz1 5 ?_;refine ta 4 ?_;refine oA 6 28 HT_ (fun K hK=>?_);refine gA Tryz.func94 #[.int .i64 (wrap64 (x1+1))] ?_;(with_reducible refine (laws_markText.calls k1 (wrap64 (x1+1)) t1 _ A1.out).mono ?_);rintro e w1b ⟨rfl,hb⟩;refine ⟨_,rfl,?_⟩;replace HB:=bq HB hb;clear hb hx;refine hK.out _ _ (hc (cb HB G1.out)).out (fun hHeld=>?_);clear hK K hHeld;refine nA 28 ?_;refine pz1 7 ?_;refine done_ (done_of HT_.out (by kernel_rfl)) ?_;clear HT_ HW_
    try go_upto_region 10 with (fail)
    have hx:=cb HB G2.out
    revert H;refine ie1 ?_;intro c2b0 c2b1 H
    try go_upto_region 13 with (fail)
    replace H:=bo H;obtain ⟨t3,A3,H⟩:=H;revert H;refine ie1 ?_;intro c3b0 c3b1 H;replace HB:=am (below_drew1 HB.out);refine sta 8 (hc (cb HB G3.out)) (fun hHeld=>?_);refine with_tabW (show rtab .any (opsOf Tryz.f100 13)=laws_heldT from by kernel_rfl) (show waitsOk laws_heldT.2 laws_heldB=true from by kernel_rfl) (fun HT_ HW_=>?_)
    generalize w1b.drew=w3a at HB hHeld ⊢
    have hx:=cb HB G3.out;refine pz4 0 ?_;refine pz1 5 ?_;refine ta 4 ?_;refine oA 6 47 HT_ (fun K hK=>?_);refine gA Tryz.func94 #[.int .i64 (wrap64 ((wrap64 ((wrap64 (x1+1))+1))+1))] ?_;(with_reducible refine (laws_markText.calls k1 (wrap64 ((wrap64 ((wrap64 (x1+1))+1))+1)) t3 _ A3.out).mono ?_);rintro e w3b ⟨rfl,hb⟩;refine ⟨_,rfl,?_⟩;replace HB:=bq HB hb;clear hb hx;refine hK.out _ _ (hc (cb HB G3.out)).out (fun hHeld=>?_);clear hK K hHeld;refine nA 47 ?_;refine pz1 7 ?_;refine done_ (done_of HT_.out (by kernel_rfl)) ?_;clear HT_ HW_
    try go_upto_region 16 with (fail)
    have hx:=cb HB G4.out
    revert H;refine ie1 ?_;intro c4b0 c4b1 H
    try go_upto_region 19 with (fail)
    have hx:=cb HB G5.out
    revert H;refine ie1 ?_;intro c5b0 c5b1 H
    try go_upto_region 22 with (fail)
    have hx:=cb HB G6.out
    revert H;refine ie1 ?_;intro c6b0 c6b1 H
    try go_upto_region 25 with (fail)
    have hx:=cb HB G7.out
    revert H;refine ie1 ?_;intro c7b0 c7b1 H
    have H':=am H;clear H
    try go_wp2
    go_roundg k1
    case measure=>have:=HK1.out;omega
    case rel=>exact ⟨wrap64 ((wrap64 ((wrap64 ((wrap64 ((wrap64 ((wrap64 ((wrap64 ((wrap64 (x1+1))+1))+1))+1))+1))+1))+1))+1),wrap64 (x5+1),fg,fg,H',⟨by have:=HK1.out;omega⟩,⟨bs HB⟩⟩
   ·intro c3b0 H;obtain rfl:=si H
    go_wp2
    go_ret
    exact ⟨ff,bs HB⟩
end Go.Proofs.YtomoflpgdbjojaaGreat.QO
