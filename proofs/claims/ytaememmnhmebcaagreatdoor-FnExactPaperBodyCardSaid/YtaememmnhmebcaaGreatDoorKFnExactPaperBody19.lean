-- Merged by a program of this session (wip/tool/pack.py) out of its own texts for this claim.
import Derived.Test.YtaememmnhmebcaaGreatDoorKFnExactPaperBody18
set_option maxHeartbeats 8000000
set_option maxRecDepth 100000
set_option linter.unusedSimpArgs false
set_option linter.unusedVariables false
namespace Go.Proofs.YtaememmnhmebcaaGreatDoor.QB
open Go.RowKit Go.Proofs.YtaememmnhmebcaaGreatDoorW.PrintWords Go.Proofs.YtaememmnhmebcaaGreatDoorW.PrintLast Go.Proofs.YtaememmnhmebcaaGreatDoorW.PrintMore
attribute [local go_sem] max2_int min2_int max_two min_two max_three min_three max_four min_four   -- for this text's walks alone
theorem laws_markText.calls (k:Nat) (a0:Int) (r:ByteArray) (w:World) (H:laws_markText.f k a0=some r) :
  Calls Tryz.prog 26 #[.int .i64 a0] w fun e w'=>e=.returned (.string r)∧Below w.heap.size w w':=by
 have HB:=am (Below.refl w.heap.size w);unfold laws_markText.f at H
 revert H;refine id2 ?_ ?_
 ·intro c2b0 H;obtain rfl:=si H
  go_in
  go_wp2
  go_ret
  exact ⟨ff,bs HB⟩
 ·intro c2b0 H;have H':=am H;clear H
  go_in
  go_wp2
  go_loopg [0,3] k (fun kq v0 v3 w'=>∃ (x0_1:Int) (x3_1:ByteArray),v0=.int .i64 x0_1∧v3=.string x3_1∧Aside0 (laws_markText.l0 kq x0_1 x3_1=some r)∧Aside0 (kq≤k)∧Aside0 (Below w.heap.size w w'))
  case atStart=>exact ⟨(a0),((⟨#[]⟩:ByteArray)),fg,fg,H',⟨Nat.le_refl _⟩,⟨bs HB⟩⟩
  case round =>
   clear H'
   try clear c2b0
   obtain ⟨x0_1,x3_1,rfl,rfl,HA,HK1,HB⟩:=hrel
   cases gk with
   | zero=>exact absurd HA.out (by simp [laws_markText.l0])
   | succ k1 =>
    have H:=HA.out;clear HA;simp only [laws_markText.l0] at H
    revert H;refine ip2 ?_ ?_
    ·intro c3 H;have c3b0:decide (0<x0_1)=true:=decide_eq_true c3;clear c3;obtain ⟨y11,hy11⟩:∃ y_:List Int,y_=(([(wrap64 (48+(Int.tmod x0_1 10))) % 256]:List Int)):=⟨_,rfl⟩
     replace H:(if (strOfNums y11).size+x3_1.size≤9223372036854775807 then (laws_markText.l0 k1 (wrap64 (Int.tdiv x0_1 10)) ((strOfNums y11)++x3_1)) else (none))=some r:=ye hy11 H
     have Ny11:=am hy11;clear hy11
     revert H;refine ip1 ?_
     intro c4 H;have c4b0:=eq_true c4;have c4b1:decide ((strOfNums y11).size+x3_1.size≤9223372036854775807)=true:=decide_eq_true c4
     try have c4b2:(9223372036854775807<(strOfNums y11).size+x3_1.size)=False:=eq_false (Nat.not_lt.2 c4)
     have H':=am H;clear H
     go_wp2_with (first|((with_reducible refine gate_dst (N:=12) rfl ?_);refine rl (Kd.int .u8) 5 (N:=12) (xs:=([(wrap64 (48+(Int.tmod x0_1 10))) % 256]:List Int)) (inner:=[.int .u8 ((wrap64 (48+(Int.tmod x0_1 10))) % 256)]) ?hp ?_;(case hp=>exact (Reps.one (show Kd.M (Kd.int .u8) _ _ _ ((wrap64 (48+(Int.tmod x0_1 10))) % 256) [.int .u8 ((wrap64 (48+(Int.tmod x0_1 10))) % 256)] from rfl) (Reps.none _ _)));intro v14 w5 ho6 hb hg_ hnew_;clear hg_ hnew_;(first|rw [← Ny11.out] at ho6|(simp only [Int.reduceToNat] at ho6;rw [← Ny11.out] at ho6));have HO13:=am (Kd.R_lower ho6 (below_size (bs HB)));replace HB:=bq HB hb;clear hb ho6;have hcv7:=own_string (P:=Tryz.prog) Tryz.underlying75 Tryz.underlying5 Tryz.underlying9 (Kd.own_of_R HO13.out)))
     go_roundg k1
     case measure=>have:=HK1.out;omega
     case rel=>exact ⟨(wrap64 (Int.tdiv x0_1 10)),((strOfNums y11)++x3_1),fg,fg,H',⟨by have:=HK1.out;omega⟩,⟨bs HB⟩⟩
    ·intro c3 H;have c3b0:decide (0<x0_1)=false:=decide_eq_false c3;clear c3
     revert H;refine ip2 ?_ ?_
     ·intro c8 H;have c8b0:=eq_true c8;have c8b1:decide (1+x3_1.size≤9223372036854775807)=true:=decide_eq_true c8
      try have c8b2:(9223372036854775807<1+x3_1.size)=False:=eq_false (Nat.not_lt.2 c8)
      obtain rfl:=si H
      go_wp2
      go_ret
      exact ⟨ff,bs HB⟩
     ·intro c8 H
      exact absurd H (by simp)
theorem laws_markStringS.calls (k:Nat) (P0_:Nat→Prop) (u9000_:Value) (l0:List ByteArray) (a1:Int) (r1:Int) (r2:List ByteArray) (w0 w:World) (hB:Below w0.heap.size w0 w) (ho0:Kd.R Kd.string 9 w w0.heap.size P0_ u9000_ l0) (H:laws_markStringS.f k l0 a1=some (r1,r2)) :
  Calls Tryz.prog 24 #[u9000_,.int .i64 a1] w fun e w'=>e=.returned (.int .i64 r1)∧Kd.R Kd.string 9 w' w0.heap.size (fun k_=>(P0_ k_∨w.heap.size≤k_)) u9000_ r2∧Below w0.heap.size w0 w'∧Kept w w' (fun k_=>P0_ k_):=by
 have HO0:=am (show Kd.R Kd.string 9 w w0.heap.size (fun k_=>(P0_ k_∨w.heap.size≤k_)) u9000_ l0 from Kd.R_mono ho0 (fun k_ hk=>(.inl hk)));have HK:=am (Kept.refl w (fun k_=>P0_ k_));have HW0:=am hB.size;have HB:=am hB;clear hB;unfold laws_markStringS.f at H;have H':=am H;clear H
 go_in
 go_wp2
 go_loopg [1,5] k (fun kq v1 v5 w'=>∃ (x0_1:List ByteArray) (x1_1:Int) (x5_1:Int),v1=.int .i64 x1_1∧v5=.int .i64 x5_1∧Aside0 (laws_markStringS.l0 kq x0_1 x1_1 x5_1=some (r1,r2))∧Aside0 (kq≤k)∧Aside0 (Kd.R Kd.string 9 w' w0.heap.size (fun k_=>(P0_ k_∨w.heap.size≤k_)) u9000_ x0_1)∧Aside0 (Kept w w' (fun k_=>P0_ k_))∧Aside0 (Below w0.heap.size w0 w'))
 case atStart=>exact ⟨(l0),(a1),(0),fg,fg,H',⟨Nat.le_refl _⟩,⟨rz HO0.out⟩,⟨by repeat (first|(with_reducible first|exact HK.out|apply Kept.alloc|apply Kept.drewN|apply Kept.drew)|exact HK.out)⟩,⟨bs HB⟩⟩
 case round =>
  clear H'
  obtain ⟨x0_1,x1_1,x5_1,rfl,rfl,HA,HK1,HO_0,HK,HB⟩:=hrel
  cases gk with
  | zero=>exact absurd HA.out (by simp [laws_markStringS.l0])
  | succ k1 =>
   have H:=HA.out;clear HA;simp only [laws_markStringS.l0] at H
   revert H;refine id2 ?_ ?_
   ·intro c3b0 H;replace H:=bo H;obtain ⟨t13,A4,H⟩:=H
    revert H;refine id1 ?_
    intro c5b0 H;obtain ⟨y12,hy12⟩:∃ y_:List ByteArray,y_=(x0_1.set (x5_1:Int).toNat t13):=⟨_,rfl⟩
    replace H:(laws_markStringS.l0 k1 y12 (wrap64 (x1_1+1)) (wrap64 (x5_1+1)))=some (r1,r2):=ye hy12 H
    have Ny12:=am hy12;clear hy12;have H':=am H;clear H;obtain ⟨Ao7,co7,eo7⟩:=Kd.R_slice HO_0.out;subst eo7
    go_wp2_with (first|((first|((with_reducible refine gate_callee (f:=26) rfl ?_);refine goesL_ (some 15) rfl rfl Tryz.func26 (by kernel_rfl) rfl #[.int .i64 x1_1] rfl (by (try simp only [List.map_toArray,List.map_cons,List.map_nil]);first|done|rfl|(simp only [List.length_drop,List.length_take];rfl)) ?_;(with_reducible refine (laws_markText.calls k1 x1_1 t13 _ A4.out).mono ?_);rintro e w8 ⟨rfl,hb⟩;refine ⟨_,rfl,?_⟩)|(go_at_call 26;(with_reducible refine (laws_markText.calls k1 x1_1 t13 _ A4.out).mono ?_);rintro e w8 ⟨rfl,hb⟩));replace HO_0:=am (Kd.R_below (rs HO_0) hb);replace HK:=am (Kept.below (S:=(fun k_=>P0_ k_)) (by repeat (first|(with_reducible first|exact HK.out|apply Kept.alloc|apply Kept.drewN|apply Kept.drew)|exact HK.out)) hb);replace HB:=bq HB hb;(try clear hb);(try clear hb2);(try clear hk);(try clear hi);have p6:0≤(x5_1:Int):=oa;have q6:(x5_1:Int)<((x0_1.length:Int):Int):=oa;obtain ⟨go6,co6,eo6,gb6,gl6,cl6,HG6⟩:=Kd.R_form HO_0.out (by omega);(first|cases eo6|(injection eo6 with ea_ en_ ec_;(first|subst ea_|(injection ea_ with ea_;subst ea_));subst ec_;clear en_));have GB6:=am gb6;have GG6:=am HG6;clear gb6 gl6 HG6;have HMgo6:=am (show (P0_ go6∨w.heap.size≤go6) from (HO_0.out.1 _ rfl));obtain ⟨hx6_0,hf6_0⟩:=Kd.R_celln (⟨#[]⟩:ByteArray) HO_0.out (x5_1:Int) p6 q6;replace p6:=eq_true p6;replace q6:=eq_true q6;obtain ⟨hy9_,hz9_⟩:=Kd.R_celln (⟨#[]⟩:ByteArray) HO_0.out (x5_1:Int) (oa) (oa);have HP9:=Kd.R_putg HO_0.out (x5_1:Int) t13)|((with_reducible refine gate_store (t:=9) (p:=16) rfl ?_);refine store_event (t:=9) (p:=16) (v:=?vo_w10) (w1:=(w8.setCell ⟨go6,(x5_1:Int).toNat,none⟩ (.string t13))) ?hg ?ho ?hn ?hr ?_;(case ho=>rfl);(case hg=>rfl);(case hn=>rfl);(case hr=>first|(go_simp;done)|(go_simp;rfl));intro w10 hw;have hg:w8.grownBy w10 (some go6):=(by rw [hw];exact HP9.2);have hp_:Kd.R Kd.string 9 w10 w0.heap.size (fun k_=>(P0_ k_∨w.heap.size≤k_)) (.slice (some ⟨go6,0,none⟩) x0_1.length co7) y12:=(by rw [hw,Ny12.out];exact HP9.1);clear HP9;have n0_:=am (hp_);have n1_:=am ((by rw [hw];exact below_set (HB.out) GB6.out:Below w0.heap.size w0 w10));have n2_:=am (Kept.of_grown (S:=(fun k_=>P0_ k_)) hg (by repeat (first|(with_reducible first|exact HK.out|apply Kept.alloc|apply Kept.drewN|apply Kept.drew)|exact HK.out)) (fun k_ e_=>(HO_0.out.1 k_ e_)));clear HO_0;clear HB;clear HK;have HO_0:=n0_;have HB:=n1_;have HK:=n2_;clear n0_ n1_ n2_;clear hg hw hp_))
    go_roundg k1
    case measure=>have:=HK1.out;omega
    case rel=>exact ⟨(y12),(wrap64 (x1_1+1)),(wrap64 (x5_1+1)),fg,fg,H',⟨by have:=HK1.out;omega⟩,⟨rz HO_0.out⟩,⟨by repeat (first|(with_reducible first|exact HK.out|apply Kept.alloc|apply Kept.drewN|apply Kept.drew)|exact HK.out)⟩,⟨bs HB⟩⟩
   ·intro c3b0 H;replace H:=sj2 H;obtain ⟨rfl,rfl⟩:=H;obtain ⟨Ao11,co11,eo11⟩:=Kd.R_slice HO_0.out;subst eo11
    go_wp2
    go_ret
    exact ⟨ff,by (with_reducible repeat (first|apply Kd.R_alloc|apply Kd.R_drewN|apply Kd.R_drew));exact HO_0.out,bs HB,by repeat (first|(with_reducible first|exact HK.out|apply Kept.alloc|apply Kept.drewN|apply Kept.drew)|exact HK.out)⟩
theorem laws_markLineS.calls (k:Nat) (P0_:Nat→Prop) (u9000_:Value) (l0:List (S63)) (a1:Int) (r1:Int) (r2:List (S63)) (w0 w:World) (hB:Below w0.heap.size w0 w) (ho0:Kd.R k63 63 w w0.heap.size P0_ u9000_ l0) (h:laws_markLineS.f k l0 a1=some (r1,r2)) :
  Calls Tryz.prog 25 #[u9000_,.int .i64 a1] w fun e w'=>e=.returned (.int .i64 r1)∧Kd.R k63 63 w' w0.heap.size (fun k_=>(P0_ k_∨w.heap.size≤k_)) u9000_ r2∧Below w0.heap.size w0 w'∧Kept w w' (fun k_=>P0_ k_):=by
 have HO:=am (show Kd.R k63 63 w w0.heap.size (fun k_=>(P0_ k_∨w.heap.size≤k_)) u9000_ l0 from Kd.R_mono ho0 (fun _ hk=>(.inl hk)));have HK:=am (Kept.refl w (fun k_=>P0_ k_));have HB:=am hB;have H':=am (show laws_markLineS.l0 k l0 a1 0=some (r1,r2) from h);clear hB h
 go_in
 go_wp2
 go_loopg [1,5] k (fun kq v1 v5 w'=>∃ (x0:List (S63)) (x1:Int) (x5:Int),v1=.int .i64 x1∧v5=.int .i64 x5∧Aside0 (laws_markLineS.l0 kq x0 x1 x5=some (r1,r2))∧Aside0 (kq≤k)∧Aside0 (Kd.R k63 63 w' w0.heap.size (fun k_=>(P0_ k_∨w.heap.size≤k_)) u9000_ x0)∧Aside0 (Kept w w' (fun k_=>P0_ k_))∧Aside0 (Below w0.heap.size w0 w'))
 case atStart=>exact ⟨l0,a1,0,rfl,rfl,H',⟨Nat.le_refl _⟩,HO,HK,HB⟩
 case round =>
  clear H';obtain ⟨x0,x1,x5,rfl,rfl,HA,HK1,HO,HK,HB⟩:=hrel
  cases gk with
  | zero=>exact absurd HA.out (by simp [laws_markLineS.l0])
  | succ k1 =>
   have H:=HA.out;clear HA;simp only [laws_markLineS.l0] at H
   by_cases c3:x5<(x0.length:Int)
   ·rw [if_pos c3] at H;have c3b0:decide (x5<(x0.length:Int))=true:=decide_eq_true c3
    revert H;refine id1k ?_
    intro c5 c5b0 H;obtain ⟨t1,A1,H⟩:=Option.bind_eq_some_iff.mp H;replace A1:=am A1;obtain ⟨t4,A4,H⟩:=Option.bind_eq_some_iff.mp H;replace A4:=am A4;have H':=am H;clear H;obtain ⟨g,cap,oki,c,eo,hM,hL⟩:=hol z63 x5 (S_flat (fun _ _ _ _ _ h=>by obtain rfl:=k63_openM h;exact k63_mkM _ _ _ _) HO.out) HB.out HK.out c5 c3;subst eo;obtain rfl:=k63_openM hM;have HL:=am hL;clear hL hM HO HK HB;replace c3:=eq_true c3;replace c5:=eq_true c5;obtain ⟨hx,hf⟩:=HL.out.nz 5 rfl rfl
    go_wp2_with (first|((with_reducible refine gate_store (t:=2) (p:=16) rfl ?_);refine store_event (t:=2) (p:=16) (v:=?vo0) (w1:=(wr.setCell ⟨g,(x5:Int).toNat * 5,none⟩ (.int .i64 x1))) ?hg ?ho ?hn ?hr ?_;(case ho=>rfl);(case hg=>rfl);(case hn=>rfl);(case hr=>first|(go_simp;done)|(go_simp;rfl));intro w0b hw;replace HL:=am (HL.out.put 0 (.int .i64 x1) (by decide) rfl hw);clear hw hx hf)|(go_at_call 26;(with_reducible refine (laws_markText.calls k1 (wrap64 (x1+1)) t1 _ A1.out).mono ?_);rintro e w1a ⟨rfl,hb⟩;replace HL:=am (HL.out.below hb);clear hb;obtain ⟨hz,hx,hf⟩:=HL.out.nx 5 1 rfl rfl rfl)|((with_reducible refine gate_store (t:=9) (p:=24) rfl ?_);refine store_event (t:=9) (p:=24) (v:=?vo1) (w1:=(w1a.setCell ⟨g,(x5:Int).toNat * 5+1,none⟩ (.string t1))) ?hg ?ho ?hn ?hr ?_;(case ho=>rfl);(case hg=>rfl);(case hn=>rfl);(case hr=>first|(go_simp;done)|(go_simp;rfl));intro w1b hw;replace HL:=am (HL.out.put 1 (.string t1) (by decide) rfl hw);clear hw hx hf hz;obtain ⟨hz,hx,hf⟩:=HL.out.nx 5 2 rfl rfl rfl)|((with_reducible refine gate_store (t:=2) (p:=31) rfl ?_);refine store_event (t:=2) (p:=31) (v:=?vo2) (w1:=(w1b.setCell ⟨g,(x5:Int).toNat * 5+2,none⟩ (.int .i64 (wrap64 ((wrap64 (x1+1))+1))))) ?hg ?ho ?hn ?hr ?_;(case ho=>rfl);(case hg=>rfl);(case hn=>rfl);(case hr=>first|(go_simp;done)|(go_simp;rfl));intro w2b hw;replace HL:=am (HL.out.put 2 (.int .i64 (wrap64 ((wrap64 (x1+1))+1))) (by decide) rfl hw);clear hw hx hf hz;obtain ⟨hz,hx,hf⟩:=HL.out.nx 5 3 rfl rfl rfl)|((with_reducible refine gate_store (t:=2) (p:=38) rfl ?_);refine store_event (t:=2) (p:=38) (v:=?vo3) (w1:=(w2b.setCell ⟨g,(x5:Int).toNat * 5+3,none⟩ (.int .i64 (wrap64 ((wrap64 ((wrap64 (x1+1))+1))+1))))) ?hg ?ho ?hn ?hr ?_;(case ho=>rfl);(case hg=>rfl);(case hn=>rfl);(case hr=>first|(go_simp;done)|(go_simp;rfl));intro w3b hw;replace HL:=am (HL.out.put 3 (.int .i64 (wrap64 ((wrap64 ((wrap64 (x1+1))+1))+1))) (by decide) rfl hw);clear hw hx hf hz)|(go_at_call 26;(with_reducible refine (laws_markText.calls k1 (wrap64 ((wrap64 ((wrap64 ((wrap64 (x1+1))+1))+1))+1)) t4 _ A4.out).mono ?_);rintro e w4a ⟨rfl,hb⟩;replace HL:=am (HL.out.below hb);clear hb;obtain ⟨hz,hx,hf⟩:=HL.out.nx 5 4 rfl rfl rfl)|((with_reducible refine gate_store (t:=9) (p:=46) rfl ?_);refine store_event (t:=9) (p:=46) (v:=?vo4) (w1:=(w4a.setCell ⟨g,(x5:Int).toNat * 5+4,none⟩ (.string t4))) ?hg ?ho ?hn ?hr ?_;(case ho=>rfl);(case hg=>rfl);(case hn=>rfl);(case hr=>first|(go_simp;done)|(go_simp;rfl));intro w4b hw;replace HL:=am (HL.out.put 4 (.string t4) (by decide) rfl hw);clear hw hx hf hz))
    go_roundg k1
    case measure=>have:=HK1.out;omega
    case rel=>exact ⟨_,_,_,rfl,rfl,H',⟨by have:=HK1.out;omega⟩,⟨HL.out.back (⟨x1,t1,wrap64 ((wrap64 (x1+1))+1),wrap64 ((wrap64 ((wrap64 (x1+1))+1))+1),t4⟩:S63) (k63_mkM _ _ _ (⟨x1,t1,wrap64 ((wrap64 (x1+1))+1),wrap64 ((wrap64 ((wrap64 (x1+1))+1))+1),t4⟩:S63))⟩,⟨HL.out.hK⟩,⟨HL.out.hB⟩⟩
   ·rw [if_neg c3] at H;have c3b0:decide (x5<(x0.length:Int))=false:=decide_eq_false c3;clear c3;obtain ⟨rfl,rfl⟩:=Prod.mk.inj (Option.some.inj H);obtain ⟨Ao,co,eo⟩:=Kd.R_slice HO.out;subst eo
    go_wp2
    go_ret
    exact ⟨rfl,HO.out,HB.out,HK.out⟩
theorem laws_markPaper.calls (k:Nat) (a0_0:Int) (a0_1:ByteArray) (a0_2:ByteArray) (a0_3:Int) (P0_4_:Nat→Prop) (u9000_:Value) (l0_4:List ByteArray) (P0_5_:Nat→Prop) (u9001_:Value) (l0_5:List (S63)) (a1:Int) (r1:Int) (r2:List ByteArray) (r3:List (S63)) (w0 w:World) (hB:Below w0.heap.size w0 w) (ho0_4:Kd.R Kd.string 9 w w0.heap.size P0_4_ u9000_ l0_4) (ho0_5:Kd.R k63 63 w w0.heap.size P0_5_ u9001_ l0_5) (H:laws_markPaper.f k a0_0 a0_1 a0_2 a0_3 l0_4 l0_5 a1=some (r1,r2,r3)) :
  Calls Tryz.prog 10 #[.agg #[.int .i64 a0_0,.string a0_1,.string a0_2,.int .i64 a0_3,u9000_,u9001_],.int .i64 a1] w fun e w'=>e=.returned (.int .i64 r1)∧Kd.R Kd.string 9 w' w0.heap.size (fun k_=>((P0_4_ k_∨P0_5_ k_)∨w.heap.size≤k_)) u9000_ r2∧Kd.R k63 63 w' w0.heap.size (fun k_=>((P0_4_ k_∨P0_5_ k_)∨w.heap.size≤k_)) u9001_ r3∧Below w0.heap.size w0 w'∧Kept w w' (fun k_=>P0_4_ k_∨P0_5_ k_):=by
 have hu31:=Tryz.underlying31;have HO0_4:=am (show Kd.R Kd.string 9 w w0.heap.size (fun k_=>((P0_4_ k_∨P0_5_ k_)∨w.heap.size≤k_)) u9000_ l0_4 from Kd.R_mono ho0_4 (fun k_ hk=>(.inl (.inl hk))));have HO0_5:=am (show Kd.R k63 63 w w0.heap.size (fun k_=>((P0_4_ k_∨P0_5_ k_)∨w.heap.size≤k_)) u9001_ l0_5 from Kd.R_mono ho0_5 (fun k_ hk=>(.inl (.inr hk))));have HK:=am (Kept.refl w (fun k_=>P0_4_ k_∨P0_5_ k_));have HW0:=am hB.size;have HB:=am hB;clear hB;unfold laws_markPaper.f at H;replace H:=bo H;obtain ⟨⟨t14,t15⟩,A3,H⟩:=H;(try dsimp only at H);replace H:=bo H;obtain ⟨⟨t16,t17⟩,A4,H⟩:=H;(try dsimp only at H);replace H:=sj3 H;obtain ⟨rfl,rfl,rfl⟩:=H;obtain ⟨Ao5,co5,eo5⟩:=Kd.R_slice HO0_4.out;subst eo5;obtain ⟨Ao6,co6,eo6⟩:=Kd.R_slice HO0_5.out;subst eo6
 go_in
 go_wp2_with (first|((with_reducible refine gate_dst (N:=2) rfl ?_);refine bx 2 (cs:=#[.int .i64 a0_0,.string a0_1,.string a0_2,.int .i64 a0_3,.slice Ao5 l0_4.length co5,.slice Ao6 l0_5.length co6]) (t:=31) ?_;intro gb13 hg w7 hbox hb;have n0_:=am (Kd.R_below (rs HO0_4) hb);have n1_:=am (Kd.R_below (rs HO0_5) hb);have n2_:=am (Kept.below (S:=(fun k_=>P0_4_ k_∨P0_5_ k_)) (by repeat (first|(with_reducible first|exact HK.out|apply Kept.alloc|apply Kept.drewN|apply Kept.drew)|exact HK.out)) hb);have n3_:=am (below_step (bs HB) hb);have n4_:=am (hbox);have n5_:=am ((by rw [hg];exact (by first|exact HK.out.1|exact (show Kept w _ (fun k_=>P0_4_ k_∨P0_5_ k_) from by repeat (first|(with_reducible first|exact HK.out|apply Kept.alloc|apply Kept.drewN|apply Kept.drew)|exact HK.out)).1):w.heap.size≤gb13));have n6_:=am ((gs hg (bs HB)));clear HO0_4;clear HO0_5;clear HK;clear HB;have HO0_4:=n0_;have HO0_5:=n1_;have HK:=n2_;have HB:=n3_;have BK13:=n4_;have GW13:=n5_;have GE13:=n6_;clear n0_ n1_ n2_ n3_ n4_ n5_ n6_;clear hb hbox hg;have hcz8_0:w7.cell? ⟨gb13,0,none⟩=some (.int .i64 a0_0):=(blk_cell BK13.out 0).trans rfl;have hcz8_1:w7.cell? ⟨gb13,1,none⟩=some (.string a0_1):=(blk_cell BK13.out 1).trans rfl;have hcz8_2:w7.cell? ⟨gb13,2,none⟩=some (.string a0_2):=(blk_cell BK13.out 2).trans rfl;have hcz8_3:w7.cell? ⟨gb13,3,none⟩=some (.int .i64 a0_3):=(blk_cell BK13.out 3).trans rfl;have hcz8_4:w7.cell? ⟨gb13,4,none⟩=some (.slice Ao5 l0_4.length co5):=(blk_cell BK13.out 4).trans rfl;have hcz8_5:w7.cell? ⟨gb13,5,none⟩=some (.slice Ao6 l0_5.length co6):=(blk_cell BK13.out 5).trans rfl;have hfz8_0:=blk_frozen BK13.out 0;have hfz8_1:=blk_frozen BK13.out 1;have hfz8_2:=blk_frozen BK13.out 2;have hfz8_3:=blk_frozen BK13.out 3;have hfz8_4:=blk_frozen BK13.out 4;have hfz8_5:=blk_frozen BK13.out 5)|((first|((with_reducible refine gate_callee (f:=24) rfl ?_);refine goesL_ (some 8) rfl rfl Tryz.func24 (by kernel_rfl) rfl #[.slice Ao5 l0_4.length co5,.int .i64 a1] rfl (by (try simp only [List.map_toArray,List.map_cons,List.map_nil]);first|done|rfl|(simp only [List.length_drop,List.length_take];rfl)) ?_;(with_reducible refine (laws_markStringS.calls k (fun k_=>some k_=(.slice Ao5 l0_4.length co5:Value).ownBlock) (.slice Ao5 l0_4.length co5) l0_4 a1 t14 t15 w0 _ ?side1 ?side2 A3.out).mono ?_);(case side1=>repeat (first|(with_reducible first|exact HB.out|apply below_alloc|apply pw_below_drewN|apply below_drew1|refine below_set ?_ GE13.out)|exact HB.out));(case side2=>exact Kd.R_tight rfl HO0_4.out);rintro e w9 ⟨rfl,hy0,hb,hkp⟩;refine ⟨_,rfl,?_⟩)|(go_at_call 24;(with_reducible refine (laws_markStringS.calls k (fun k_=>some k_=(.slice Ao5 l0_4.length co5:Value).ownBlock) (.slice Ao5 l0_4.length co5) l0_4 a1 t14 t15 w0 _ ?side1 ?side2 A3.out).mono ?_);(case side1=>repeat (first|(with_reducible first|exact HB.out|apply below_alloc|apply pw_below_drewN|apply below_drew1|refine below_set ?_ GE13.out)|exact HB.out));(case side2=>exact Kd.R_tight rfl HO0_4.out);rintro e w9 ⟨rfl,hy0,hb,hkp⟩));replace HO0_5:=am (Kd.R_mono (ok':=fun k_=>((P0_4_ k_∨P0_5_ k_)∨w.heap.size≤k_)) (Kd.R_keptB ((Kd.R_apart' HO0_5.out (Kd.R_typed HO0_4.out) (by decide))) hkp (fun k_ hk_ hs_=>(hk_.2) hs_)) (fun k_ hk_=>hk_.1.1));replace BK13:=am (blk_kept (ks BK13) hkp (fun hs_=>(fun e_=>(Kd.R_ne HO0_4.out BK13.out (by decide)) e_) hs_));replace HK:=am (Kept.then_ (S:=(fun k_=>P0_4_ k_∨P0_5_ k_)) (by repeat (first|(with_reducible first|exact HK.out|apply Kept.alloc|apply Kept.drewN|apply Kept.drew|refine Kept.setCell ?_ (.inr GW13.out) _)|exact HK.out)) hkp (fun k_ hs_=>(fun e_=>(HO0_4.out.1 k_ e_.symm)) hs_));replace HO0_4:=am (Kd.R_reok rfl hy0 (fun k_ e_=>HO0_4.out.1 k_ e_));replace HB:=am (hb);(try clear hb);(try clear hkp);(try clear hy0);have hcz10_0:w9.cell? ⟨gb13,0,none⟩=some (.int .i64 a0_0):=(blk_cell BK13.out 0).trans rfl;have hcz10_1:w9.cell? ⟨gb13,1,none⟩=some (.string a0_1):=(blk_cell BK13.out 1).trans rfl;have hcz10_2:w9.cell? ⟨gb13,2,none⟩=some (.string a0_2):=(blk_cell BK13.out 2).trans rfl;have hcz10_3:w9.cell? ⟨gb13,3,none⟩=some (.int .i64 a0_3):=(blk_cell BK13.out 3).trans rfl;have hcz10_4:w9.cell? ⟨gb13,4,none⟩=some (.slice Ao5 l0_4.length co5):=(blk_cell BK13.out 4).trans rfl;have hcz10_5:w9.cell? ⟨gb13,5,none⟩=some (.slice Ao6 l0_5.length co6):=(blk_cell BK13.out 5).trans rfl;have hfz10_0:=blk_frozen BK13.out 0;have hfz10_1:=blk_frozen BK13.out 1;have hfz10_2:=blk_frozen BK13.out 2;have hfz10_3:=blk_frozen BK13.out 3;have hfz10_4:=blk_frozen BK13.out 4;have hfz10_5:=blk_frozen BK13.out 5)|((first|((with_reducible refine gate_callee (f:=25) rfl ?_);refine goesL_ (some 12) rfl rfl Tryz.func25 (by kernel_rfl) rfl #[.slice Ao6 l0_5.length co6,.int .i64 t14] rfl (by (try simp only [List.map_toArray,List.map_cons,List.map_nil]);first|done|rfl|(simp only [List.length_drop,List.length_take];rfl)) ?_;(with_reducible refine (laws_markLineS.calls k (fun k_=>some k_=(.slice Ao6 l0_5.length co6:Value).ownBlock) (.slice Ao6 l0_5.length co6) l0_5 t14 t16 t17 w0 _ ?side1 ?side2 A4.out).mono ?_);(case side1=>repeat (first|(with_reducible first|exact HB.out|apply below_alloc|apply pw_below_drewN|apply below_drew1|refine below_set ?_ GE13.out)|exact HB.out));(case side2=>exact Kd.R_tight rfl HO0_5.out);rintro e w11 ⟨rfl,hy0,hb,hkp⟩;refine ⟨_,rfl,?_⟩)|(go_at_call 25;(with_reducible refine (laws_markLineS.calls k (fun k_=>some k_=(.slice Ao6 l0_5.length co6:Value).ownBlock) (.slice Ao6 l0_5.length co6) l0_5 t14 t16 t17 w0 _ ?side1 ?side2 A4.out).mono ?_);(case side1=>repeat (first|(with_reducible first|exact HB.out|apply below_alloc|apply pw_below_drewN|apply below_drew1|refine below_set ?_ GE13.out)|exact HB.out));(case side2=>exact Kd.R_tight rfl HO0_5.out);rintro e w11 ⟨rfl,hy0,hb,hkp⟩));replace HO0_4:=am (Kd.R_mono (ok':=fun k_=>((P0_4_ k_∨P0_5_ k_)∨w.heap.size≤k_)) (Kd.R_keptB ((Kd.R_apart' HO0_4.out (Kd.R_typed HO0_5.out) (by decide))) hkp (fun k_ hk_ hs_=>(hk_.2) hs_)) (fun k_ hk_=>hk_.1.1));replace BK13:=am (blk_kept (ks BK13) hkp (fun hs_=>(fun e_=>(Kd.R_ne HO0_5.out BK13.out (by decide)) e_) hs_));replace HK:=am (Kept.then_ (S:=(fun k_=>P0_4_ k_∨P0_5_ k_)) (by repeat (first|(with_reducible first|exact HK.out|apply Kept.alloc|apply Kept.drewN|apply Kept.drew|refine Kept.setCell ?_ (.inr GW13.out) _)|exact HK.out)) hkp (fun k_ hs_=>(fun e_=>(HO0_5.out.1 k_ e_.symm)) hs_));replace HO0_5:=am (Kd.R_reok rfl hy0 (fun k_ e_=>HO0_5.out.1 k_ e_));replace HB:=am (hb);(try clear hb);(try clear hkp);(try clear hy0)))
 go_ret
 exact ⟨ff,by (with_reducible repeat (first|apply Kd.R_alloc|apply Kd.R_drewN|apply Kd.R_drew));exact HO0_4.out,by (with_reducible repeat (first|apply Kd.R_alloc|apply Kd.R_drewN|apply Kd.R_drew));exact HO0_5.out,bs HB,by repeat (first|(with_reducible first|exact HK.out|apply Kept.alloc|apply Kept.drewN|apply Kept.drew|refine Kept.setCell ?_ (.inr GW13.out) _)|exact HK.out)⟩
theorem laws_markElementS.calls (k:Nat) (P0_:Nat→Prop) (u9000_:Value) (l0:List (S77)) (a1:Int) (r1:Int) (r2:List (S77)) (w0 w:World) (hB:Below w0.heap.size w0 w) (ho0:Kd.S k77 77 w w0.heap.size P0_ u9000_ l0) (h:laws_markElementS.f k l0 a1=some (r1,r2)) :
  Calls Tryz.prog 27 #[u9000_,.int .i64 a1] w fun e w'=>e=.returned (.int .i64 r1)∧Kd.S k77 77 w' w0.heap.size (fun k_=>(P0_ k_∨w.heap.size≤k_)) u9000_ r2∧Below w0.heap.size w0 w'∧Kept w w' (fun k_=>P0_ k_):=by
 have HO:=am (show Kd.S k77 77 w w0.heap.size (fun k_=>(P0_ k_∨w.heap.size≤k_)) u9000_ l0 from Kd.S_mono ho0 (fun _ hk=>(.inl hk)));have HK:=am (Kept.refl w (fun k_=>P0_ k_));have HB:=am hB;have H':=am (show laws_markElementS.l0 k l0 a1 0=some (r1,r2) from h);clear hB h
 go_in
 go_wp2
 go_loopg [1,5] k (fun kq v1 v5 w'=>∃ (x0:List (S77)) (x1:Int) (x5:Int),v1=.int .i64 x1∧v5=.int .i64 x5∧Aside0 (laws_markElementS.l0 kq x0 x1 x5=some (r1,r2))∧Aside0 (kq≤k)∧Aside0 (Kd.S k77 77 w' w0.heap.size (fun k_=>(P0_ k_∨w.heap.size≤k_)) u9000_ x0)∧Aside0 (Kept w w' (fun k_=>P0_ k_))∧Aside0 (Below w0.heap.size w0 w'))
 case atStart=>exact ⟨l0,a1,0,rfl,rfl,H',⟨Nat.le_refl _⟩,HO,HK,HB⟩
 case round =>
  clear H';obtain ⟨x0,x1,x5,rfl,rfl,HA,HK1,HO,HK,HB⟩:=hrel
  cases gk with
  | zero=>exact absurd HA.out (by simp [laws_markElementS.l0])
  | succ k1 =>
   have H:=HA.out;clear HA;simp only [laws_markElementS.l0] at H
   by_cases c3:x5<(x0.length:Int)
   ·rw [if_pos c3] at H;have c3b0:decide (x5<(x0.length:Int))=true:=decide_eq_true c3
    revert H;refine id1k ?_
    intro c5 c5b0 H;obtain ⟨⟨s2,q2⟩,A8,H⟩:=Option.bind_eq_some_iff.mp H;replace A8:=am A8;have H':=am H;clear H;obtain ⟨g,cap,oki,c,eo,hM,hG,hL⟩:=hol2 z77 x5 HO.out HB.out HK.out c5 c3;subst eo;replace hM:=(show Kd.M k77 _ _ oki (rd_T77 x0 x5) c from hM);obtain ⟨v9,e9,hR⟩:=k77_openM hM;subst e9;obtain ⟨A9,c9,e9⟩:=Kd.R_slice hR;subst e9;have HL:=am hL;have HG:=am hG;have HR:=am hR;clear hL hM hG hR HO HK HB;replace c3:=eq_true c3;replace c5:=eq_true c5;obtain ⟨hx,hf⟩:=HL.out.nz 1 rfl rfl;rw [Nat.mul_one] at hx hf
    go_wp2_with (first|((first|((with_reducible refine gate_callee (f:=24) rfl ?_);refine goesL_ (some 18) rfl rfl Tryz.func24 (by kernel_rfl) rfl #[.slice A9 (rd_T77 x0 x5).f0.length c9,.int .i64 x1] rfl (by (try simp only [List.map_toArray,List.map_cons,List.map_nil]);first|done|rfl) ?_;(refine (laws_markStringS.calls k1 oki (.slice A9 (rd_T77 x0 x5).f0.length c9) (rd_T77 x0 x5).f0 x1 s2 q2 w0 _ HL.out.hB HR.out A8.out).mono ?_);rintro e w20 ⟨rfl,hR2,hb2,hk2⟩;refine ⟨_,rfl,?_⟩)|(go_at_call 24;(refine (laws_markStringS.calls k1 oki (.slice A9 (rd_T77 x0 x5).f0.length c9) (rd_T77 x0 x5).f0 x1 s2 q2 w0 _ HL.out.hB HR.out A8.out).mono ?_);rintro e w20 ⟨rfl,hR2,hb2,hk2⟩));replace HL:=am (HL.out.call hk2 hb2);have HR2:=am hR2;clear HR hR2 hk2 hb2 hx hf))
    go_roundg k1
    case measure=>have:=HK1.out;omega
    case rel=>exact ⟨_,_,_,rfl,rfl,H',⟨by have:=HK1.out;omega⟩,⟨HL.out.backS (⟨q2⟩:S77) (k77_mkM _ _ _ (⟨q2⟩:S77) HR2.out)⟩,⟨HL.out.hK⟩,⟨HL.out.hB⟩⟩
   ·rw [if_neg c3] at H;have c3b0:decide (x5<(x0.length:Int))=false:=decide_eq_false c3;clear c3;obtain ⟨rfl,rfl⟩:=Prod.mk.inj (Option.some.inj H);obtain ⟨Ao,co,eo⟩:=Kd.S_slice HO.out;subst eo
    go_wp2
    go_ret
    exact ⟨rfl,HO.out,HB.out,HK.out⟩
theorem laws_markSegmentS.calls (k:Nat) (P0_:Nat→Prop) (u9000_:Value) (l0:List (S46)) (a1:Int) (r1:Int) (r2:List (S46)) (w0 w:World) (hB:Below w0.heap.size w0 w) (ho0:Kd.S kA46 46 w w0.heap.size P0_ u9000_ l0) (h:laws_markSegmentS.f k l0 a1=some (r1,r2)) :
  Calls Tryz.prog 11 #[u9000_,.int .i64 a1] w fun e w'=>e=.returned (.int .i64 r1)∧Kd.S kA46 46 w' w0.heap.size (fun k_=>(P0_ k_∨w.heap.size≤k_)) u9000_ r2∧Below w0.heap.size w0 w'∧Kept w w' (fun k_=>P0_ k_):=by
 have HO:=am (show Kd.S kA46 46 w w0.heap.size (fun k_=>(P0_ k_∨w.heap.size≤k_)) u9000_ l0 from Kd.S_mono ho0 (fun _ hk=>(.inl hk)));have HK:=am (Kept.refl w (fun k_=>P0_ k_));have HB:=am hB;have H':=am (show laws_markSegmentS.l0 k l0 a1 0=some (r1,r2) from h);clear hB h
 go_in
 go_wp2
 go_loopg [1,5] k (fun kq v1 v5 w'=>∃ (x0:List (S46)) (x1:Int) (x5:Int),v1=.int .i64 x1∧v5=.int .i64 x5∧Aside0 (laws_markSegmentS.l0 kq x0 x1 x5=some (r1,r2))∧Aside0 (kq≤k)∧Aside0 (Kd.S kA46 46 w' w0.heap.size (fun k_=>(P0_ k_∨w.heap.size≤k_)) u9000_ x0)∧Aside0 (Kept w w' (fun k_=>P0_ k_))∧Aside0 (Below w0.heap.size w0 w'))
 case atStart=>exact ⟨l0,a1,0,rfl,rfl,H',⟨Nat.le_refl _⟩,HO,HK,HB⟩
 case round =>
  clear H';obtain ⟨x0,x1,x5,rfl,rfl,HA,HK1,HO,HK,HB⟩:=hrel
  cases gk with
  | zero=>exact absurd HA.out (by simp [laws_markSegmentS.l0])
  | succ k1 =>
   have H:=HA.out;clear HA;simp only [laws_markSegmentS.l0] at H
   by_cases c3:x5<(x0.length:Int)
   ·rw [if_pos c3] at H;have c3b0:decide (x5<(x0.length:Int))=true:=decide_eq_true c3;obtain ⟨t0,A0,H⟩:=Option.bind_eq_some_iff.mp H;replace A0:=am A0
    revert H;refine id1k ?_
    intro c5 c5b0 H;obtain ⟨⟨s2,q2⟩,A8,H⟩:=Option.bind_eq_some_iff.mp H;replace A8:=am A8;have H':=am H;clear H;obtain ⟨g,cap,oki,c,eo,hM,hG,hL⟩:=hol2 z46 x5 HO.out HB.out HK.out c5 c3;subst eo;replace hM:=(show Kd.M kA46 _ _ oki (rd_T46 x0 x5) c from hM);obtain ⟨v9,e9,hR⟩:=id hM;subst e9;obtain ⟨A9,c9,e9⟩:=Kd.S_slice hR;subst e9;have HL:=am hL;have HG:=am hG;have HR:=am hR;clear hL hM hG hR HO HK HB;replace c3:=eq_true c3;replace c5:=eq_true c5
    go_wp2_with (first|(go_at_call 26;(with_reducible refine (laws_markText.calls k1 x1 t0 _ A0.out).mono ?_);rintro e wta ⟨rfl,hb⟩;replace HL:=am (HL.out.below hb);replace HR:=am (Kd.S_below HR.out hb);clear hb;obtain ⟨hx,hf⟩:=HL.out.nz 2 rfl rfl)|((with_reducible refine gate_store (t:=9) (p:=17) rfl ?_);refine store_event (t:=9) (p:=17) (v:=?vo0) (w1:=(wta.setCell ⟨g,(x5:Int).toNat * 2,none⟩ (.string t0))) ?hg ?ho ?hn ?hr ?_;(case ho=>rfl);(case hg=>rfl);(case hn=>rfl);(case hr=>first|(go_simp;done)|(go_simp;rfl));intro wtb hw;replace HR:=am (show Kd.S k77 77 wtb w0.heap.size oki _ _ from by rw [hw];exact Kd.S_far (p:=⟨g,(x5:Int).toNat * 2,none⟩) HR.out (fun k_ q_=>HG.out k_ q_) _);replace HL:=am (HL.out.put 0 (.string t0) (by decide) rfl hw);clear hw hx hf;obtain ⟨hz,hx,hf⟩:=HL.out.nx 2 1 rfl rfl rfl)|((first|((with_reducible refine gate_callee (f:=27) rfl ?_);refine goesL_ (some 26) rfl rfl Tryz.func27 (by kernel_rfl) rfl #[.slice A9 (rd_T46 x0 x5).f1.length c9,.int .i64 (wrap64 (x1+1))] rfl (by (try simp only [List.map_toArray,List.map_cons,List.map_nil]);first|done|rfl) ?_;(refine (laws_markElementS.calls k1 oki (.slice A9 (rd_T46 x0 x5).f1.length c9) (rd_T46 x0 x5).f1 (wrap64 (x1+1)) s2 q2 w0 _ HL.out.hB HR.out A8.out).mono ?_);rintro e w20 ⟨rfl,hR2,hb2,hk2⟩;refine ⟨_,rfl,?_⟩)|(go_at_call 27;(refine (laws_markElementS.calls k1 oki (.slice A9 (rd_T46 x0 x5).f1.length c9) (rd_T46 x0 x5).f1 (wrap64 (x1+1)) s2 q2 w0 _ HL.out.hB HR.out A8.out).mono ?_);rintro e w20 ⟨rfl,hR2,hb2,hk2⟩));replace HL:=am (HL.out.call hk2 hb2);have HR2:=am hR2;clear HR hR2 hk2 hb2 hx hf hz))
    go_roundg k1
    case measure=>have:=HK1.out;omega
    case rel=>exact ⟨_,_,_,rfl,rfl,H',⟨by have:=HK1.out;omega⟩,⟨HL.out.backS (⟨t0,q2⟩:S46) ⟨_,rfl,HR2.out⟩⟩,⟨HL.out.hK⟩,⟨HL.out.hB⟩⟩
   ·rw [if_neg c3] at H;have c3b0:decide (x5<(x0.length:Int))=false:=decide_eq_false c3;clear c3;obtain ⟨rfl,rfl⟩:=Prod.mk.inj (Option.some.inj H);obtain ⟨Ao,co,eo⟩:=Kd.S_slice HO.out;subst eo
    go_wp2
    go_ret
    exact ⟨rfl,HO.out,HB.out,HK.out⟩
theorem laws_heldStringS.calls (k:Nat) (A0:Option Addr) (c0:Nat) (l0:List ByteArray) (a1:Int) (r:Int) (w:World) (hr0:Kd.C Kd.string w A0 l0.length l0) (hc0:l0.length≤c0) (H:laws_heldStringS.f k l0 a1=some r) :
  Calls Tryz.prog 50 #[.slice A0 l0.length c0,.int .i64 a1] w fun e w'=>e=.returned (.int .i64 r)∧Below w.heap.size w w':=by
 have HR0:=am hr0;have HC0:=am hc0;clear hr0 hc0;have HB:=am (Below.refl w.heap.size w);unfold laws_heldStringS.f at H;have H':=am H;clear H
 go_in
 go_wp2
 go_loopg [1,5] k (fun kq v1 v5 w'=>∃ (x1_1:Int) (x5_1:Int),v1=.int .i64 x1_1∧v5=.int .i64 x5_1∧Aside0 (laws_heldStringS.l0 kq l0 x1_1 x5_1=some r)∧Aside0 (kq≤k)∧Aside0 (Below w.heap.size w w'))
 case atStart=>exact ⟨(a1),(0),fg,fg,H',⟨Nat.le_refl _⟩,⟨bs HB⟩⟩
 case round =>
  clear H'
  obtain ⟨x1_1,x5_1,rfl,rfl,HA,HK1,HB⟩:=hrel
  cases gk with
  | zero=>exact absurd HA.out (by simp [laws_heldStringS.l0])
  | succ k1 =>
   have H:=HA.out;clear HA;simp only [laws_heldStringS.l0] at H
   revert H;refine id2 ?_ ?_
   ·intro c3b0 H
    revert H;refine id1 ?_
    intro c4b0 H;replace H:=bo H;obtain ⟨t19,A5,H⟩:=H
    revert H;refine ie2 ?_ ?_
    ·intro c6b0 c6b1 H;have H':=am H;clear H
     try go_wp2
     replace HB:=am (below_drew1 HB.out);have p11:0≤(x5_1:Int):=oa;have q11:x5_1<(l0.length:Int):=oa;obtain ⟨ad11,e11,hx11_0⟩:=Kd.at_string HR0.out x5_1 p11 q11;have hw11_0:=hx11_0
     cases e11
     replace hx11_0:=cb HB hx11_0;replace p11:=eq_true p11;replace q11:=eq_true q11;refine sta 7 (hc (cb HB hw11_0)) (fun hHeld=>?_)
     generalize wr.drew=w7 at HB hx11_0 hHeld ⊢
     refine pure_ (i:=0) (N:=some 12) (v:=?_) (a':=?_) #[true,false,false,false,false,false,false] rfl rfl (by kernel_rfl) (fun _ _ _ h=>h) (Or.inl ⟨by rfl,?_⟩) ?_ ?_
     rotate_left
     ·intro w'
      go_simp
      (with_reducible rfl)
     rotate_left
     ·simp only [Act.put,List.setIfInBounds_toArray,List.set_cons_zero,List.set_cons_succ,i64_w,i32_w]
      rfl
     refine pure_ (i:=1) (N:=some 13) (v:=?_) (a':=?_) #[true,true,false,false,false,false,false] rfl rfl (by kernel_rfl) (fun _ _ _ h=>h) (Or.inl ⟨by rfl,?_⟩) ?_ ?_
     rotate_left
     ·intro w'
      go_simp
      (with_reducible rfl)
     rotate_left
     ·simp only [Act.put,List.setIfInBounds_toArray,List.set_cons_zero,List.set_cons_succ,i64_w,i32_w]
      rfl
     refine pure_ (i:=2) (N:=some 14) (v:=?_) (a':=?_) #[true,true,true,false,false,false,false] rfl rfl (by kernel_rfl) (fun _ _ _ h=>h) (Or.inl ⟨by rfl,?_⟩) ?_ ?_
     rotate_left
     ·intro w'
      go_simp
      (with_reducible rfl)
     rotate_left
     ·simp only [Act.put,List.setIfInBounds_toArray,List.set_cons_zero,List.set_cons_succ,i64_w,i32_w]
      rfl
     refine pure_ (i:=4) (N:=some 16) (v:=?_) (a':=?_) #[true,true,true,false,true,false,false] rfl rfl (by kernel_rfl) (fun _ _ _ h=>h) (Or.inl ⟨by rfl,?_⟩) ?_ ?_
     rotate_left
     ·intro w'
      go_simp
      (with_reducible rfl)
     rotate_left
     ·simp only [Act.put,List.setIfInBounds_toArray,List.set_cons_zero,List.set_cons_succ,i64_w,i32_w]
      rfl
     refine take_ (i:=3) (N:=some 15) (v:=?_) (a':=?_) #[true,true,true,true,true,false,false] rfl rfl (by kernel_rfl) (fun _ _ _ h=>h) (Or.inl ⟨by rfl,?_⟩) hHeld ?_ ?_
     rotate_left
     ·intro w' s0
      go_simp
      (with_reducible rfl)
     rotate_left
     ·simp only [Act.put,List.setIfInBounds_toArray,List.set_cons_zero,List.set_cons_succ,i64_w,i32_w]
      rfl
     refine one_ (i:=5) (N:=some 17) #[true,true,true,true,true,true,false] rfl rfl (by kernel_rfl) (by decide) (fun K hK=>?_);refine gA Tryz.func26 #[.int .i64 x1_1] ?_;(with_reducible refine (laws_markText.calls k1 x1_1 t19 _ A5.out).mono ?_);rintro e w8 ⟨rfl,hb⟩;refine ⟨_,rfl,?_⟩;replace HB:=bq HB hb;(try clear hb);(try clear hb2);(try clear hk);(try clear hi);refine hK.out _ _ (hc (cb HB hw11_0)).out (fun hHeld=>?_);clear hK K;refine nA 17 ?_;refine pure_ (i:=6) (N:=some 18) (v:=?_) (a':=?_) #[true,true,true,true,true,true,true] rfl rfl (by kernel_rfl) (fun _ _ _ h=>h) (Or.inl ⟨by rfl,?_⟩) ?_ ?_
     rotate_left
     ·intro w'
      go_simp
      (with_reducible rfl)
     rotate_left
     ·simp only [Act.put,List.setIfInBounds_toArray,List.set_cons_zero,List.set_cons_succ,i64_w,i32_w]
      rfl
     refine done_ (by kernel_rfl) ?_
     try go_wp2
     go_roundg k1
     case measure=>have:=HK1.out;omega
     case rel=>exact ⟨(wrap64 (x1_1+1)),(wrap64 (x5_1+1)),fg,fg,H',⟨by have:=HK1.out;omega⟩,⟨bs HB⟩⟩
    ·intro c6 c6b0 c6b1 H;obtain rfl:=si H
     try go_wp2
     replace HB:=am (below_drew1 HB.out);have p11:0≤(x5_1:Int):=oa;have q11:x5_1<(l0.length:Int):=oa;obtain ⟨ad11,e11,hx11_0⟩:=Kd.at_string HR0.out x5_1 p11 q11;have hw11_0:=hx11_0
     cases e11
     replace hx11_0:=cb HB hx11_0;replace p11:=eq_true p11;replace q11:=eq_true q11;refine sta 7 (hc (cb HB hw11_0)) (fun hHeld=>?_)
     generalize wr.drew=w9 at HB hx11_0 hHeld ⊢
     refine pure_ (i:=0) (N:=some 12) (v:=?_) (a':=?_) #[true,false,false,false,false,false,false] rfl rfl (by kernel_rfl) (fun _ _ _ h=>h) (Or.inl ⟨by rfl,?_⟩) ?_ ?_
     rotate_left
     ·intro w'
      go_simp
      (with_reducible rfl)
     rotate_left
     ·simp only [Act.put,List.setIfInBounds_toArray,List.set_cons_zero,List.set_cons_succ,i64_w,i32_w]
      rfl
     refine pure_ (i:=1) (N:=some 13) (v:=?_) (a':=?_) #[true,true,false,false,false,false,false] rfl rfl (by kernel_rfl) (fun _ _ _ h=>h) (Or.inl ⟨by rfl,?_⟩) ?_ ?_
     rotate_left
     ·intro w'
      go_simp
      (with_reducible rfl)
     rotate_left
     ·simp only [Act.put,List.setIfInBounds_toArray,List.set_cons_zero,List.set_cons_succ,i64_w,i32_w]
      rfl
     refine pure_ (i:=2) (N:=some 14) (v:=?_) (a':=?_) #[true,true,true,false,false,false,false] rfl rfl (by kernel_rfl) (fun _ _ _ h=>h) (Or.inl ⟨by rfl,?_⟩) ?_ ?_
     rotate_left
     ·intro w'
      go_simp
      (with_reducible rfl)
     rotate_left
     ·simp only [Act.put,List.setIfInBounds_toArray,List.set_cons_zero,List.set_cons_succ,i64_w,i32_w]
      rfl
     refine pure_ (i:=4) (N:=some 16) (v:=?_) (a':=?_) #[true,true,true,false,true,false,false] rfl rfl (by kernel_rfl) (fun _ _ _ h=>h) (Or.inl ⟨by rfl,?_⟩) ?_ ?_
     rotate_left
     ·intro w'
      go_simp
      (with_reducible rfl)
     rotate_left
     ·simp only [Act.put,List.setIfInBounds_toArray,List.set_cons_zero,List.set_cons_succ,i64_w,i32_w]
      rfl
     refine take_ (i:=3) (N:=some 15) (v:=?_) (a':=?_) #[true,true,true,true,true,false,false] rfl rfl (by kernel_rfl) (fun _ _ _ h=>h) (Or.inl ⟨by rfl,?_⟩) hHeld ?_ ?_
     rotate_left
     ·intro w' s0
      go_simp
      (with_reducible rfl)
     rotate_left
     ·simp only [Act.put,List.setIfInBounds_toArray,List.set_cons_zero,List.set_cons_succ,i64_w,i32_w]
      rfl
     refine one_ (i:=5) (N:=some 17) #[true,true,true,true,true,true,false] rfl rfl (by kernel_rfl) (by decide) (fun K hK=>?_);refine gA Tryz.func26 #[.int .i64 x1_1] ?_;(with_reducible refine (laws_markText.calls k1 x1_1 t19 _ A5.out).mono ?_);rintro e w10 ⟨rfl,hb⟩;refine ⟨_,rfl,?_⟩;replace HB:=bq HB hb;(try clear hb);(try clear hb2);(try clear hk);(try clear hi);refine hK.out _ _ (hc (cb HB hw11_0)).out (fun hHeld=>?_);clear hK K;refine nA 17 ?_;refine pure_ (i:=6) (N:=some 18) (v:=?_) (a':=?_) #[true,true,true,true,true,true,true] rfl rfl (by kernel_rfl) (fun _ _ _ h=>h) (Or.inl ⟨by rfl,?_⟩) ?_ ?_
     rotate_left
     ·intro w'
      go_simp
      (with_reducible rfl)
     rotate_left
     ·simp only [Act.put,List.setIfInBounds_toArray,List.set_cons_zero,List.set_cons_succ,i64_w,i32_w]
      rfl
     refine done_ (by kernel_rfl) ?_
     try go_wp2
     go_ret
     exact ⟨ff,bs HB⟩
   ·intro c3b0 H;obtain rfl:=si H
    go_wp2
    go_ret
    exact ⟨ff,bs HB⟩
theorem laws_heldElementS.calls (k:Nat) (A0:Option Addr) (c0:Nat) (l0:List (S77)) (a1:Int) (r:Int) (w:World) (hr0:Kd.C k77 w A0 l0.length l0) (hc0:l0.length≤c0) (H:laws_heldElementS.f k l0 a1=some r) :
  Calls Tryz.prog 28 #[.slice A0 l0.length c0,.int .i64 a1] w fun e w'=>e=.returned (.int .i64 r)∧Below w.heap.size w w':=by
 have HR0:=am hr0;have HC0:=am hc0;clear hr0 hc0;have HB:=am (Below.refl w.heap.size w);unfold laws_heldElementS.f at H;have H':=am H;clear H
 go_in
 go_wp2
 go_loopg [1,5] k (fun kq v1 v5 w'=>∃ (x1_1:Int) (x5_1:Int),v1=.int .i64 x1_1∧v5=.int .i64 x5_1∧Aside0 (laws_heldElementS.l0 kq l0 x1_1 x5_1=some r)∧Aside0 (kq≤k)∧Aside0 (Below w.heap.size w w'))
 case atStart=>exact ⟨(a1),(0),fg,fg,H',⟨Nat.le_refl _⟩,⟨bs HB⟩⟩
 case round =>
  clear H'
  obtain ⟨x1_1,x5_1,rfl,rfl,HA,HK1,HB⟩:=hrel
  cases gk with
  | zero=>exact absurd HA.out (by simp [laws_heldElementS.l0])
  | succ k1 =>
   have H:=HA.out;clear HA;simp only [laws_heldElementS.l0] at H
   revert H;refine id2 ?_ ?_
   ·intro c3b0 H
    revert H;refine id1 ?_
    intro c4b0 H;replace H:=bo H;obtain ⟨t9,A5,H⟩:=H;have p8:0≤(x5_1:Int):=oa;have q8:x5_1<(l0.length:Int):=oa;obtain ⟨ad8,A8_0,c8_0,e8,hx8_0,hl8_0,hi8_0⟩:=at_T77 HR0.out x5_1 p8 q8
    cases e8
    replace hx8_0:=cb HB hx8_0;have HR8_0:=am hi8_0;have HC8_0:=am hl8_0;clear hi8_0 hl8_0;replace p8:=eq_true p8;replace q8:=eq_true q8
    try go_wp2_with (fail)
    go_at_call 50;(with_reducible refine (laws_heldStringS.calls k1 _ _ ((rd_T77 l0 x5_1).f0) x1_1 t9 _ (Kd.C_below HR8_0.out (bs HB)) HC8_0.out A5.out).mono ?_);rintro e w6 ⟨rfl,hb⟩;replace HB:=bq HB hb;(try clear hb);(try clear hb2);(try clear hk);(try clear hi)
    revert H;refine id2 ?_ ?_
    ·intro c7b0 H;obtain rfl:=si H
     go_wp2
     go_ret
     exact ⟨ff,bs HB⟩
    ·intro c7b0 H;have H':=am H;clear H
     go_wp2
     go_roundg k1
     case measure=>have:=HK1.out;omega
     case rel=>exact ⟨(t9),(wrap64 (x5_1+1)),fg,fg,H',⟨by have:=HK1.out;omega⟩,⟨bs HB⟩⟩
   ·intro c3b0 H;obtain rfl:=si H
    go_wp2
    go_ret
    exact ⟨ff,bs HB⟩
def laws_heldSegmentS.T4:Bool × List (List Nat × List Nat):=(true,[([],[]),([],[]),([0,1],[0,1]),([2],[2]),([3],[3]),([],[]),([5],[5]),([4,6],[4,6])])
def laws_heldSegmentS.B4:List Nat:=[0,0,3,7,15,0,32,127]
theorem laws_heldSegmentS.tab4:rtab .any (opsOf Tryz.f12 4)=laws_heldSegmentS.T4:=by kernel_rfl
theorem laws_heldSegmentS.bits4:waitsOk laws_heldSegmentS.T4.2 laws_heldSegmentS.B4=true:=by kernel_rfl
theorem laws_heldSegmentS.calls (k:Nat) (A0:Option Addr) (c0:Nat) (l0:List (S46)) (a1:Int) (r:Int) (w:World) (hr0:Kd.C k46 w A0 l0.length l0) (hc0:l0.length≤c0) (H:laws_heldSegmentS.f k l0 a1=some r) :
  Calls Tryz.prog 12 #[.slice A0 l0.length c0,.int .i64 a1] w fun e w'=>e=.returned (.int .i64 r)∧Below w.heap.size w w':=by
 have HR0:=am hr0;have HC0:=am hc0;clear hr0 hc0;have HB:=am (Below.refl w.heap.size w);unfold laws_heldSegmentS.f at H;have H':=am H;clear H
 go_in
 go_wp2
 go_loopg [1,5] k (fun kq v1 v5 w'=>∃ (x1_1:Int) (x5_1:Int),v1=.int .i64 x1_1∧v5=.int .i64 x5_1∧Aside0 (laws_heldSegmentS.l0 kq l0 x1_1 x5_1=some r)∧Aside0 (kq≤k)∧Aside0 (Below w.heap.size w w'))
 case atStart=>exact ⟨(a1),(0),fg,fg,H',⟨Nat.le_refl _⟩,⟨bs HB⟩⟩
 case round =>
  clear H'
  obtain ⟨x1_1,x5_1,rfl,rfl,HA,HK1,HB⟩:=hrel
  cases gk with
  | zero=>exact absurd HA.out (by simp [laws_heldSegmentS.l0])
  | succ k1 =>
   have H:=HA.out;clear HA;simp only [laws_heldSegmentS.l0] at H
   revert H;refine id2 ?_ ?_
   ·intro c3b0 H
    revert H;refine id1 ?_
    intro c4b0 H;replace H:=bo H;obtain ⟨t22,A5,H⟩:=H
    revert H;refine ie2 ?_ ?_
    ·intro c6b0 c6b1 H;replace H:=bo H;obtain ⟨t23,A7,H⟩:=H
     try go_wp2_with (fail)
     replace HB:=am (below_drew1 HB.out);have p20:0≤(x5_1:Int):=oa;have q20:x5_1<(l0.length:Int):=oa;obtain ⟨ad20,A20_1,c20_1,e20,hx20_0,hx20_1,hl20_1,hi20_1⟩:=at_T46 HR0.out x5_1 p20 q20;have hw20_1:=hx20_1;have hw20_0:=hx20_0
     cases e20
     replace hx20_0:=cb HB hx20_0;replace hx20_1:=cb HB hx20_1;have HR20_1:=am hi20_1;have HC20_1:=am hl20_1;clear hi20_1 hl20_1;replace p20:=eq_true p20;replace q20:=eq_true q20;refine sta 8 (hca (cb HB hw20_0) (hc (cb HB hw20_1))) (fun hHeld=>?_);refine with_tabW laws_heldSegmentS.tab4 laws_heldSegmentS.bits4 (fun HT_ HW_=>?_)
     generalize wr.drew=w8 at HB HR20_1 hx20_0 hx20_1 hHeld ⊢
     refine pz4 0 ?_;refine pz1 5 ?_;refine ta 4 ?_;refine oA 6 18 HT_ (fun K hK=>?_);refine gA Tryz.func26 #[.int .i64 x1_1] ?_;(with_reducible refine (laws_markText.calls k1 x1_1 t22 _ A5.out).mono ?_);rintro e w9 ⟨rfl,hb⟩;refine ⟨_,rfl,?_⟩;replace HB:=bq HB hb;(try clear hb);(try clear hb2);(try clear hk);(try clear hi);refine hK.out _ _ (hca (cb HB hw20_0) (hc (cb HB hw20_1))).out (fun hHeld=>?_);clear hK K;refine nA 18 ?_;refine pz1 7 ?_;refine done_ (done_of HT_.out (by kernel_rfl)) ?_;have p21:0≤(x5_1:Int):=oa;have q21:x5_1<(l0.length:Int):=oa;obtain ⟨ad21,A21_1,c21_1,e21,hx21_0,hx21_1,hl21_1,hi21_1⟩:=at_T46 HR0.out x5_1 p21 q21;obtain rfl:ad20=ad21:=(by injection e21);replace hx21_0:=cb HB hx21_0;replace hx21_1:=cb HB hx21_1;(try (have ea_:=Option.some.inj ((cb HB hw20_1).symm.trans hx21_1);injection ea_ with ea_ en_ ec_;subst ea_;subst ec_;clear en_));have HR21_1:=am hi21_1;have HC21_1:=am hl21_1;clear hi21_1 hl21_1;replace p21:=eq_true p21;replace q21:=eq_true q21
     try go_wp2_with (fail)
     go_at_call 28;(with_reducible refine (laws_heldElementS.calls k1 _ _ ((rd_T46 l0 x5_1).f1) (wrap64 (x1_1+1)) t23 _ (Kd.C_below HR21_1.out (bs HB)) HC21_1.out A7.out).mono ?_);rintro e w10 ⟨rfl,hb⟩;replace HB:=bq HB hb;(try clear hb);(try clear hb2);(try clear hk);(try clear hi)
     revert H;refine id2 ?_ ?_
     ·intro c11b0 H;obtain rfl:=si H
      go_wp2
      go_ret
      exact ⟨ff,bs HB⟩
     ·intro c11b0 H;have H':=am H;clear H
      go_wp2
      go_roundg k1
      case measure=>have:=HK1.out;omega
      case rel=>exact ⟨(t23),(wrap64 (x5_1+1)),fg,fg,H',⟨by have:=HK1.out;omega⟩,⟨bs HB⟩⟩
    ·intro c6 c6b0 c6b1 H;obtain rfl:=si H
     try go_wp2
     replace HB:=am (below_drew1 HB.out);have p20:0≤(x5_1:Int):=oa;have q20:x5_1<(l0.length:Int):=oa;obtain ⟨ad20,A20_1,c20_1,e20,hx20_0,hx20_1,hl20_1,hi20_1⟩:=at_T46 HR0.out x5_1 p20 q20;have hw20_1:=hx20_1;have hw20_0:=hx20_0
     cases e20
     replace hx20_0:=cb HB hx20_0;replace hx20_1:=cb HB hx20_1;have HR20_1:=am hi20_1;have HC20_1:=am hl20_1;clear hi20_1 hl20_1;replace p20:=eq_true p20;replace q20:=eq_true q20;refine sta 8 (hca (cb HB hw20_0) (hc (cb HB hw20_1))) (fun hHeld=>?_);refine with_tabW laws_heldSegmentS.tab4 laws_heldSegmentS.bits4 (fun HT_ HW_=>?_)
     generalize wr.drew=w12 at HB HR20_1 hx20_0 hx20_1 hHeld ⊢
     refine pz4 0 ?_;refine pz1 5 ?_;refine ta 4 ?_;refine oA 6 18 HT_ (fun K hK=>?_);refine gA Tryz.func26 #[.int .i64 x1_1] ?_;(with_reducible refine (laws_markText.calls k1 x1_1 t22 _ A5.out).mono ?_);rintro e w13 ⟨rfl,hb⟩;refine ⟨_,rfl,?_⟩;replace HB:=bq HB hb;(try clear hb);(try clear hb2);(try clear hk);(try clear hi);refine hK.out _ _ (hca (cb HB hw20_0) (hc (cb HB hw20_1))).out (fun hHeld=>?_);clear hK K;refine nA 18 ?_;refine pz1 7 ?_;refine done_ (done_of HT_.out (by kernel_rfl)) ?_
     try go_wp2
     go_ret
     exact ⟨ff,bs HB⟩
   ·intro c3b0 H;obtain rfl:=si H
    go_wp2
    go_ret
    exact ⟨ff,bs HB⟩
theorem box6 {W W2:World} {g:Nat} {t:TypeId} {z0 z1 z2 z3 z4 z5 v0 v1 v2 v3 v4 v5:Value} (h:W.heap[g]? = some (.cells #[z0,z1,z2,z3,z4,z5] t (0,0))) (hw:W2=((((((W.setCell ⟨g,0,none⟩ v0).setCell ⟨g,1,none⟩ v1).setCell ⟨g,2,none⟩ v2).setCell ⟨g,3,none⟩ v3).setCell ⟨g,4,none⟩ v4).setCell ⟨g,5,none⟩ v5)):W2.heap[g]? = some (.cells #[v0,v1,v2,v3,v4,v5] t (0,0))∧Kept W W2 (fun k=>k=g)∧∀ w:World,Below w.heap.size w W→w.heap.size≤g→Below w.heap.size w W2:=by
 subst hw;refine ⟨kp ⟨h⟩,?_,fun w hb hg=>?_⟩
 ·refine Kept.setCell (Kept.setCell (Kept.setCell (Kept.setCell (Kept.setCell (Kept.setCell (Kept.refl W _) ?_ _) ?_ _) ?_ _) ?_ _) ?_ _) ?_ _
  all_goals exact Or.inl rfl
 ·exact below_set (below_set (below_set (below_set (below_set (below_set hb hg) hg) hg) hg) hg) hg
theorem laws_FnExactPaperBody.calls (k:Nat) (a0_0:Int) (a0_1:ByteArray) (a0_2:ByteArray) (a0_3:Int) (A0_4:Option Addr) (c0_4:Nat) (l0_4:List ByteArray) (A0_5:Option Addr) (c0_5:Nat) (l0_5:List (S54)) (r:Bool) (w:World) (hr0_4:Kd.C Kd.string w A0_4 l0_4.length l0_4) (hc0_4:l0_4.length≤c0_4) (hr0_5:Kd.C k54 w A0_5 l0_5.length l0_5) (hc0_5:l0_5.length≤c0_5) (hTC:TbC w) (hTF:TbF w) (hTP:TbP w) (H:laws_FnExactPaperBody.f k a0_0 a0_1 a0_2 a0_3 l0_4 l0_5=some r) :
  Calls Tryz.prog 3 #[.agg #[.int .i64 a0_0,.string a0_1,.string a0_2,.int .i64 a0_3,.slice A0_4 l0_4.length c0_4,.slice A0_5 l0_5.length c0_5]] w fun e w'=>e=.returned (.bool r)∧Below w.heap.size w w':=by
 have HTC:=am hTC;have HTF:=am hTF;have HTP:=am hTP;clear hTC hTF hTP;have hu:=Tryz.underlying25;have hu2:=Tryz.underlying31;have HR4:=am hr0_4;have HC4:=am hc0_4;have HR5:=am hr0_5;have HC5:=am hc0_5;clear hr0_4 hc0_4 hr0_5 hc0_5;have HB:=am (Below.refl w.heap.size w);unfold laws_FnExactPaperBody.f at H;replace H:=bo H;obtain ⟨t,Asz,H⟩:=H
 go_in
 try go_wp2_with (first|((with_reducible refine gate_dst (N:=1) rfl ?_);refine bx 1 (cs:=#[.int .i64 a0_0,.string a0_1,.string a0_2,.int .i64 a0_3,.slice A0_4 l0_4.length c0_4,.slice A0_5 l0_5.length c0_5]) (t:=25) ?_;intro g1 hg wa hbox hb;have B1:=am hbox;replace HB:=bq HB hb;clear hb hbox hg;have z1:=cf6 B1))
 try go_wp2_with (fail)
 go_at_call 4;refine (laws_szPaper.calls k a0_0 a0_1 a0_2 a0_3 _ _ l0_4 _ _ l0_5 1048576 t _ (Kd.C_below HR4.out (bs HB)) HC4.out (Kd.C_below HR5.out (bs HB)) HC5.out Asz.out).mono ?_;rintro e wb ⟨rfl,hb⟩;(try clear z1);replace B1:=am (blk_below (ks B1) hb);replace HB:=bq HB hb;clear hb;have z1:=cf6 B1
 revert H;refine id2 ?_ ?_
 ·intro c0 H;obtain rfl:=si H
  go_wp2
  go_ret
  exact ⟨ff,bs HB⟩
 intro c0 H;replace H:=bo H;obtain ⟨⟨k0a,s1a,s2a,k3a,l4a,l5a⟩,Aa,H⟩:=H;dsimp only at H
 try go_wp2_with (fail)
 go_at_call 6;refine (laws_toPaper.calls k a0_0 a0_1 a0_2 a0_3 _ _ l0_4 _ _ l0_5 k0a s1a s2a k3a l4a l5a _ (Kd.C_below HR4.out (bs HB)) HC4.out (Kd.C_below HR5.out (bs HB)) HC5.out Aa.out).mono ?_;rintro e wc ⟨v4,v5,rfl,q4,q5,hb⟩;(try clear z1);obtain ⟨A4a,c4a,e_⟩:=Kd.R_slice q4;subst e_;have X4a:=am (Kd.R_lower (Kd.R_mono (ok':=(fun k_=>wb.heap.size≤k_∧k_<wc.heap.size)) (Kd.R_bound q4) (fun _ q=>⟨q.2.1,q.2.2.1⟩)) HB.out.size);clear q4;obtain ⟨A5a,c5a,e_⟩:=Kd.R_slice q5;subst e_;have X5a:=am (Kd.R_lower (Kd.R_mono (ok':=(fun k_=>wb.heap.size≤k_∧k_<wc.heap.size)) (Kd.R_bound q5) (fun _ q=>⟨q.2.1,q.2.2.1⟩)) HB.out.size);clear q5;replace B1:=am (blk_below (ks B1) hb);replace HB:=bq HB hb;clear hb;have z1:=cf6 B1;replace H:=bo H;obtain ⟨b,Ab,H⟩:=H
 try go_wp2_with (fail)
 go_at_call 5;refine (spec_PaperBody.calls k k0a s1a s2a k3a _ _ l4a _ _ l5a b _ (Kd.R_reads' X4a.out).2.2 (Kd.R_reads' X4a.out).2.1 (Kd.R_reads' X5a.out).2.2 (Kd.R_reads' X5a.out).2.1 Ab.out).mono ?_;rintro e wd ⟨vb,rfl,qb,hb⟩;(try clear z1);obtain ⟨Ab',cb',e_⟩:=Kd.N_slice qb;subst e_;have GB:=am (Kd.N_lower (Kd.N_mono (ok':=(fun k_=>wc.heap.size≤k_∧k_<wd.heap.size)) (Kd.N_bound qb) (fun _ q=>q)) HB.out.size);clear qb;replace B1:=am (blk_below (ks B1) hb);replace X4a:=am (Kd.R_below X4a.out hb);replace X5a:=am (Kd.R_below X5a.out hb);replace HB:=bq HB hb;clear hb;have z1:=cf6 B1;clear X4a X5a;have Q5:=am (blk_lt B1.out);replace H:=bo H;obtain ⟨⟨k0x,s1x,s2x,k3x,l4x,l5x⟩,Ax,H⟩:=H;dsimp only at H
 try go_wp2_with (fail)
 go_at_call 6;refine (laws_toPaper.calls k a0_0 a0_1 a0_2 a0_3 _ _ l0_4 _ _ l0_5 k0x s1x s2x k3x l4x l5x _ (Kd.C_below HR4.out (bs HB)) HC4.out (Kd.C_below HR5.out (bs HB)) HC5.out Ax.out).mono ?_;rintro e we ⟨v4,v5,rfl,q4,q5,hb⟩;(try clear z1);obtain ⟨A4x,c4x,e_⟩:=Kd.R_slice q4;subst e_;have X4x:=am (Kd.R_lower (Kd.R_mono (ok':=(fun k_=>wd.heap.size≤k_∧k_<we.heap.size)) (Kd.R_bound q4) (fun _ q=>⟨q.2.1,q.2.2.1⟩)) HB.out.size);clear q4;obtain ⟨A5x,c5x,e_⟩:=Kd.R_slice q5;subst e_;have X5x:=am (Kd.R_lower (Kd.R_mono (ok':=(fun k_=>wd.heap.size≤k_∧k_<we.heap.size)) (Kd.R_bound q5) (fun _ q=>⟨q.2.1,q.2.2.1⟩)) HB.out.size);clear q5;have Q1:=am hb.size;replace B1:=am (blk_below (ks B1) hb);replace GB:=am (Kd.N_below GB.out hb);replace HB:=bq HB hb;clear hb;have z1:=cf6 B1
 try go_wp2_with (first|((with_reducible refine gate_dst (N:=5) rfl ?_);refine bx 5 (cs:=#[.int .i64 0,.string (⟨#[]⟩:ByteArray),.string (⟨#[]⟩:ByteArray),.int .i64 0,.slice none 0 0,.slice none 0 0]) (t:=31) ?_;intro g5 hg we5 hbox hb;(try clear z1);have F5:=am (show we.heap.size≤g5 from Nat.le_of_eq hg.symm);have Q4:=am hb.size;have E5:=am (gs hg (bs HB));have N15:=am (gn hg (ks B1));replace B1:=am (blk_below (ks B1) hb);replace GB:=am (Kd.N_below GB.out hb);replace X4x:=am (Kd.R_below X4x.out hb);replace X5x:=am (Kd.R_below X5x.out hb);replace HB:=bq HB hb;clear hb;have B5:=am hbox;clear hbox hg;have z1:=cf6 B1;have z5:=cf6 B5)|((with_reducible refine gate_store (t:=31) (p:=5) rfl ?_);refine store_event (t:=31) (p:=5) (v:=?vo5) (w1:=((((((we5.setCell ⟨g5,0,none⟩ (.int .i64 k0x)).setCell ⟨g5,1,none⟩ (.string s1x)).setCell ⟨g5,2,none⟩ (.string s2x)).setCell ⟨g5,3,none⟩ (.int .i64 k3x)).setCell ⟨g5,4,none⟩ (.slice A4x l4x.length c4x)).setCell ⟨g5,5,none⟩ (.slice A5x l5x.length c5x))) ?hg ?ho ?hn ?hr ?_;(case ho=>rfl);(case hg=>rfl);(case hn=>rfl);(case hr=>first|(go_simp;done)|(go_simp;rfl));intro wf hw;(try clear z1);(try clear z5);obtain ⟨hx,hk,hB⟩:=box6 B5.out hw;clear hw;replace HB:=am (hB _ HB.out E5.out);replace X4x:=am (Kd.R_kept X4x.out hk (fun k_ p_ e_=>by have:=F5.out;have:=p_.2;omega));replace X5x:=am (Kd.R_kept X5x.out hk (fun k_ p_ e_=>by have:=F5.out;have:=p_.2;omega));replace GB:=am (Kd.N_kept GB.out hk (fun k_ p_ e_=>by have:=F5.out;have:=p_.2;have:=Q1.out;omega));replace B1:=am (blk_kept B1.out hk (fun e_=>N15.out e_));replace Q4:=am (Nat.le_trans Q4.out hk.1);replace B5:=am hx;clear hx hk hB;have z1:=cf6 B1;have z5:=cf6 B5))
 replace H:=bo H;obtain ⟨g,Ag,H⟩:=H
 try go_wp2_with (fail)
 go_at_call 7;refine (impl_PaperBody.callsS k k0x s1x s2x k3x _ _ l4x _ _ l5x g _ (Kd.R_reads' X4x.out).2.2 (Kd.R_reads' X4x.out).2.1 (Kd.R_reads' X5x.out).2.2 (Kd.R_reads' X5x.out).2.1 (tbC HTC (bs HB)) (tbF HTF (bs HB)) (tbP HTP (bs HB)) Ag.out).mono ?_;rintro e wg ⟨vg,rfl,qg,hb⟩;(try clear z1);(try clear z5);obtain ⟨Ag',cg',e_⟩:=Kd.S_slice qg;subst e_;have Q2:=am (Nat.le_trans Q1.out Q4.out);have GG:=am (Kd.S_lower (Kd.S_mono (ok':=(fun k_=>wf.heap.size≤k_∧k_<wg.heap.size)) (Kd.S_bound qg) (fun _ q=>⟨q.2.1,q.2.2.1⟩)) HB.out.size);clear qg;replace B1:=am (blk_below (ks B1) hb);replace B5:=am (blk_below (ks B5) hb);replace GB:=am (Kd.N_below GB.out hb);replace X4x:=am (Kd.R_below X4x.out hb);replace X5x:=am (Kd.R_below X5x.out hb);replace HB:=bq HB hb;clear hb;have z1:=cf6 B1;have z5:=cf6 B5;replace H:=bo H;obtain ⟨e1,Ae1,H⟩:=H
 try go_wp2_with (fail)
 go_at_call 8;refine (laws_eqSegmentS.calls k _ _ g _ _ b e1 _ (Kd.N_reads' (kA46_N GG.out)).2.2 (Kd.N_reads' (kA46_N GG.out)).2.1 (Kd.N_reads' GB.out).2.2 (Kd.N_reads' GB.out).2.1 Ae1.out).mono ?_;rintro e wh ⟨rfl,hb⟩;(try clear z1);(try clear z5);replace B1:=am (blk_below (ks B1) hb);replace B5:=am (blk_below (ks B5) hb);replace GB:=am (Kd.N_below GB.out hb);replace X4x:=am (Kd.R_below X4x.out hb);replace X5x:=am (Kd.R_below X5x.out hb);replace GG:=am (Kd.S_below GG.out hb);replace HB:=bq HB hb;clear hb;have z1:=cf6 B1;have z5:=cf6 B5
 obtain rfl|rfl:=bt e1;rotate_left
 ·replace H:=itF H;cases H
 replace H:=itT H;replace H:=bo H;obtain ⟨⟨k0y,s1y,s2y,k3y,l4y,l5y⟩,Ay,H⟩:=H;dsimp only at H;replace H:=bo H;obtain ⟨e2,Ae2,H⟩:=H
 try go_wp2_with (fail)
 (try clear z1);(try clear z5);replace B1:=am (blk_drew B1.out);replace B5:=am (blk_drew B5.out);replace GB:=am (Kd.N_drew GB.out);replace X4x:=am (Kd.R_drew X4x.out);replace X5x:=am (Kd.R_drew X5x.out);replace GG:=am (Kd.S_drew GG.out);replace HB:=am (below_drew1 HB.out);refine sta 5 (hb6a B5 (hb6 B1)) (fun hHeld=>?_)
 generalize wh.drew=wi at B1 B5 GB X4x X5x GG HB hHeld ⊢
 refine take_ (i:=0) (N:=some 27) (v:=?_) (a':=?_) #[true,false,false,false,false] rfl rfl (by kernel_rfl) (fun _ _ _ h=>h) (Or.inl ⟨by rfl,?_⟩) hHeld ?_ ?_
 rotate_left
 ·rintro w' ⟨s0,s1,s2,s3,s4,s5,s6,s7,s8,s9,s10,s11⟩
  go_simp
  (with_reducible rfl)
 rotate_left
 ·simp only [Act.put,List.setIfInBounds_toArray,List.set_cons_zero,List.set_cons_succ,i64_w,i32_w]
  rfl
 refine take_ (i:=1) (N:=some 28) (v:=?_) (a':=?_) #[true,true,false,false,false] rfl rfl (by kernel_rfl) (fun _ _ _ h=>h) (Or.inl ⟨by rfl,?_⟩) hHeld ?_ ?_
 rotate_left
 ·rintro w' ⟨s0,s1,s2,s3,s4,s5,s6,s7,s8,s9,s10,s11⟩
  go_simp
  (with_reducible rfl)
 rotate_left
 ·simp only [Act.put,List.setIfInBounds_toArray,List.set_cons_zero,List.set_cons_succ,i64_w,i32_w]
  rfl
 refine one_ (i:=2) (N:=some 29) #[true,true,true,false,false] rfl rfl (by kernel_rfl) (by decide) (fun K hK=>?_);refine gA Tryz.func6 #[.agg #[.int .i64 a0_0,.string a0_1,.string a0_2,.int .i64 a0_3,.slice A0_4 l0_4.length c0_4,.slice A0_5 l0_5.length c0_5]] ?_;refine (laws_toPaper.calls k a0_0 a0_1 a0_2 a0_3 _ _ l0_4 _ _ l0_5 k0y s1y s2y k3y l4y l5y _ (Kd.C_below HR4.out (bs HB)) HC4.out (Kd.C_below HR5.out (bs HB)) HC5.out Ay.out).mono ?_;rintro e wj ⟨v4,v5,rfl,q4,q5,hb⟩;refine ⟨_,rfl,?_⟩;obtain ⟨A4y,c4y,e_⟩:=Kd.R_slice q4;subst e_;have X4y:=am (Kd.R_lower (Kd.R_mono (ok':=(fun k_=>wi.heap.size≤k_∧k_<wj.heap.size)) (Kd.R_bound q4) (fun _ q=>⟨q.2.1,q.2.2.1⟩)) HB.out.size);clear q4;obtain ⟨A5y,c5y,e_⟩:=Kd.R_slice q5;subst e_;have X5y:=am (Kd.R_lower (Kd.R_mono (ok':=(fun k_=>wi.heap.size≤k_∧k_<wj.heap.size)) (Kd.R_bound q5) (fun _ q=>⟨q.2.1,q.2.2.1⟩)) HB.out.size);clear q5;replace B1:=am (blk_below (ks B1) hb);replace B5:=am (blk_below (ks B5) hb);replace GB:=am (Kd.N_below GB.out hb);replace X4x:=am (Kd.R_below X4x.out hb);replace X5x:=am (Kd.R_below X5x.out hb);replace GG:=am (Kd.S_below GG.out hb);replace HB:=bq HB hb;clear hb;refine hK.out _ _ (hb6a B5 (hb6 B1)).out (fun hHeld=>?_);clear hK K;refine nA 29 ?_;refine one_ (i:=3) (N:=some 30) #[true,true,true,true,false] rfl rfl (by kernel_rfl) (by decide) (fun K hK=>?_);refine gA Tryz.func9 #[.agg #[.int .i64 k0x,.string s1x,.string s2x,.int .i64 k3x,.slice A4x l4x.length c4x,.slice A5x l5x.length c5x],.agg #[.int .i64 k0y,.string s1y,.string s2y,.int .i64 k3y,.slice A4y l4y.length c4y,.slice A5y l5y.length c5y]] ?_;refine (laws_eqPaper.calls k k0x s1x s2x k3x _ _ l4x _ _ l5x k0y s1y s2y k3y _ _ l4y _ _ l5y e2 _ (Kd.R_reads' X4x.out).2.2 (Kd.R_reads' X4x.out).2.1 (Kd.R_reads' X5x.out).2.2 (Kd.R_reads' X5x.out).2.1 (Kd.R_reads' X4y.out).2.2 (Kd.R_reads' X4y.out).2.1 (Kd.R_reads' X5y.out).2.2 (Kd.R_reads' X5y.out).2.1 Ae2.out).mono ?_;rintro e wk ⟨rfl,hb⟩;refine ⟨_,rfl,?_⟩;replace B1:=am (blk_below (ks B1) hb);replace B5:=am (blk_below (ks B5) hb);replace GB:=am (Kd.N_below GB.out hb);replace X4x:=am (Kd.R_below X4x.out hb);replace X5x:=am (Kd.R_below X5x.out hb);replace GG:=am (Kd.S_below GG.out hb);replace X4y:=am (Kd.R_below X4y.out hb);replace X5y:=am (Kd.R_below X5y.out hb);replace HB:=bq HB hb;clear hb;refine hK.out _ _ (hb6a B5 (hb6 B1)).out (fun hHeld=>?_);clear hK K;refine nA 30 ?_;refine pure_ (i:=4) (N:=some 31) (v:=?_) (a':=?_) #[true,true,true,true,true] rfl rfl (by kernel_rfl) (fun _ _ _ h=>h) (Or.inl ⟨by rfl,?_⟩) ?_ ?_
 rotate_left
 ·intro w'
  go_simp
  (with_reducible rfl)
 rotate_left
 ·simp only [Act.put,List.setIfInBounds_toArray,List.set_cons_zero,List.set_cons_succ,i64_w,i32_w]
  rfl
 refine done_ (by kernel_rfl) ?_;clear hHeld;clear X4y X5y
 obtain rfl|rfl:=bt e2;rotate_left
 ·replace H:=itF H;cases H
 replace H:=itT H;have z1:=cf6 B1;have z5:=cf6 B5;replace H:=bo H;obtain ⟨⟨m0,r4,r5⟩,Am0,H⟩:=H;dsimp only at H
 try go_wp2_with (fail)
 go_at_call 10;refine (laws_markPaper.calls k k0x s1x s2x k3x _ _ l4x _ _ l5x 1 m0 r4 r5 w _ HB.out X4x.out X5x.out Am0.out).mono ?_;rintro e wl ⟨rfl,_,_,hb,hk⟩;(try clear z1);(try clear z5);replace GB:=am (Kd.N_kept GB.out hk (fun k_ p_ s_=>by have h1:=p_.2;rcases s_ with s_|s_ <;> (have h2:=s_.1;omega)));replace GG:=am (Kd.S_kept GG.out hk (fun k_ p_ s_=>by have h1:=p_.1;have h3:=Q4.out;rcases s_ with s_|s_ <;> (have h2:=s_.2;omega)));replace B1:=am (blk_kept B1.out hk (fun s_=>by have h1:=Q5.out;rcases s_ with s_|s_ <;> (have h2:=s_.1;omega)));replace HB:=am hb;clear hb hk B5 X4x X5x;have z1:=cf6 B1
 revert H;refine id2 ?_ ?_;· intro _ H;cases H
 intro c1 H;replace H:=bo H;obtain ⟨e3,Ae3,H⟩:=H
 try go_wp2_with (fail)
 go_at_call 8;refine (laws_eqSegmentS.calls k _ _ g _ _ b e3 _ (Kd.N_reads' (kA46_N GG.out)).2.2 (Kd.N_reads' (kA46_N GG.out)).2.1 (Kd.N_reads' GB.out).2.2 (Kd.N_reads' GB.out).2.1 Ae3.out).mono ?_;rintro e wm ⟨rfl,hb⟩;(try clear z1);replace B1:=am (blk_below (ks B1) hb);replace GB:=am (Kd.N_below GB.out hb);replace GG:=am (Kd.S_below GG.out hb);replace HB:=bq HB hb;clear hb;have z1:=cf6 B1
 obtain rfl|rfl:=bt e3;rotate_left
 ·replace H:=itF H;cases H
 replace H:=itT H;replace H:=bo H;obtain ⟨⟨m1,gm⟩,Am1,H⟩:=H;dsimp only at H
 try go_wp2_with (fail)
 go_at_call 11;refine (laws_markSegmentS.calls k _ _ g 1 m1 gm w _ HB.out GG.out Am1.out).mono ?_;rintro e wn ⟨rfl,hG,hb,hk⟩;(try clear z1);replace GB:=am (Kd.N_kept GB.out hk (fun k_ p_ s_=>by have h1:=p_.2;have h2:=s_.1;have h3:=Q2.out;omega));replace B1:=am (blk_kept B1.out hk (fun s_=>by have h1:=Q5.out;have h2:=s_.1;have h3:=Q2.out;omega));clear GG;have EG:=am (Kd.N_reads' (kA46_N hG)).1;have GG:=am (kA46_N hG);replace HB:=am hb;clear hb hk hG;have z1:=cf6 B1;replace H:=bo H;obtain ⟨q1,Aq1,H⟩:=H
 try go_wp2_with (fail)
 go_at_call 12;refine calls_of_args (args':=#[.slice Ag' gm.length cg',.int .i64 1]) (by rw [EG.out]) ?_;refine (laws_heldSegmentS.calls k _ _ gm 1 q1 _ (Kd.N_reads' GG.out).2.2 (by have h1:=(Kd.N_reads' GG.out).2.1;have h2:=EG.out;omega) Aq1.out).mono ?_;rintro e wo ⟨rfl,hb⟩;(try clear z1);replace B1:=am (blk_below (ks B1) hb);replace GB:=am (Kd.N_below GB.out hb);replace GG:=am (Kd.N_below GG.out hb);replace HB:=bq HB hb;clear hb;have z1:=cf6 B1
 revert H;refine id2 ?_ ?_;· intro _ H;cases H
 intro cq1 H;revert H;refine ie1 ?_;intro dq1 fq1 H;replace H:=bo H;obtain ⟨⟨k0z,s1z,s2z,k3z,l4z,l5z⟩,Az,H⟩:=H;dsimp only at H
 try go_wp2_with (fail)
 go_at_call 6;refine (laws_toPaper.calls k a0_0 a0_1 a0_2 a0_3 _ _ l0_4 _ _ l0_5 k0z s1z s2z k3z l4z l5z _ (Kd.C_below HR4.out (bs HB)) HC4.out (Kd.C_below HR5.out (bs HB)) HC5.out Az.out).mono ?_;rintro e wp ⟨v4,v5,rfl,q4,q5,hb⟩;(try clear z1);obtain ⟨A4z,c4z,e_⟩:=Kd.R_slice q4;subst e_;have X4z:=am (Kd.R_lower (Kd.R_mono (ok':=(fun k_=>wo.heap.size≤k_∧k_<wp.heap.size)) (Kd.R_bound q4) (fun _ q=>⟨q.2.1,q.2.2.1⟩)) HB.out.size);clear q4;obtain ⟨A5z,c5z,e_⟩:=Kd.R_slice q5;subst e_;have X5z:=am (Kd.R_lower (Kd.R_mono (ok':=(fun k_=>wo.heap.size≤k_∧k_<wp.heap.size)) (Kd.R_bound q5) (fun _ q=>⟨q.2.1,q.2.2.1⟩)) HB.out.size);clear q5;replace B1:=am (blk_below (ks B1) hb);replace GB:=am (Kd.N_below GB.out hb);replace GG:=am (Kd.N_below GG.out hb);replace HB:=bq HB hb;clear hb;have z1:=cf6 B1;replace H:=bo H;obtain ⟨hh,Ah,H⟩:=H
 try go_wp2_with (fail)
 go_at_call 7;refine (impl_PaperBody.calls k k0z s1z s2z k3z _ _ l4z _ _ l5z hh _ (Kd.R_reads' X4z.out).2.2 (Kd.R_reads' X4z.out).2.1 (Kd.R_reads' X5z.out).2.2 (Kd.R_reads' X5z.out).2.1 (tbC HTC (bs HB)) (tbF HTF (bs HB)) (tbP HTP (bs HB)) Ah.out).mono ?_;rintro e wq ⟨vh,rfl,qh,hb⟩;(try clear z1);obtain ⟨Ah',ch',e_⟩:=Kd.N_slice qh;subst e_;have GH:=am (Kd.N_lower (Kd.N_mono (ok':=fun _=>True) qh (fun _ _=>trivial)) HB.out.size);clear qh;replace B1:=am (blk_below (ks B1) hb);replace GB:=am (Kd.N_below GB.out hb);replace GG:=am (Kd.N_below GG.out hb);replace X4z:=am (Kd.R_below X4z.out hb);replace X5z:=am (Kd.R_below X5z.out hb);replace HB:=bq HB hb;clear hb;have z1:=cf6 B1;clear X4z X5z;replace H:=bo H;obtain ⟨e4,Ae4,H⟩:=H
 try go_wp2_with (fail)
 go_at_call 8;refine (laws_eqSegmentS.calls k _ _ hh _ _ b e4 _ (Kd.N_reads' GH.out).2.2 (Kd.N_reads' GH.out).2.1 (Kd.N_reads' GB.out).2.2 (Kd.N_reads' GB.out).2.1 Ae4.out).mono ?_;rintro e wr ⟨rfl,hb⟩;(try clear z1);replace B1:=am (blk_below (ks B1) hb);replace GB:=am (Kd.N_below GB.out hb);replace GG:=am (Kd.N_below GG.out hb);replace GH:=am (Kd.N_below GH.out hb);replace HB:=bq HB hb;clear hb;have z1:=cf6 B1
 obtain rfl|rfl:=bt e4;rotate_left
 ·replace H:=itF H;cases H
 replace H:=itT H;clear GH;replace H:=bo H;obtain ⟨q2,Aq2,H⟩:=H
 try go_wp2_with (fail)
 go_at_call 12;refine calls_of_args (args':=#[.slice Ag' gm.length cg',.int .i64 1]) (by rw [EG.out]) ?_;refine (laws_heldSegmentS.calls k _ _ gm 1 q2 _ (Kd.N_reads' GG.out).2.2 (by have h1:=(Kd.N_reads' GG.out).2.1;have h2:=EG.out;omega) Aq2.out).mono ?_;rintro e ws ⟨rfl,hb⟩;(try clear z1);replace B1:=am (blk_below (ks B1) hb);replace GB:=am (Kd.N_below GB.out hb);replace GG:=am (Kd.N_below GG.out hb);replace HB:=bq HB hb;clear hb;have z1:=cf6 B1
 revert H;refine id2 ?_ ?_;· intro _ H;cases H
 intro cq2 H;revert H;refine ie1 ?_;intro dq2 fq2 H;obtain rfl:=si H
 go_wp2
 go_ret
 exact ⟨ff,bs HB⟩
end Go.Proofs.YtaememmnhmebcaaGreatDoor.QB
