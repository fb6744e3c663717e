-- Merged by a program of this session (wip/tool/pack.py) out of its own texts for this claim.
import Derived.Test.YtjbdljhjplidmaaDoorKFnTables0
import Derived.Test.YtjbdljhjplidmaaDoorKFnTables1
import Derived.Test.YtjbdljhjplidmaaDoorKFnTables2
import Derived.Test.YtjbdljhjplidmaaDoorKFnTables3
import Derived.Test.YtjbdljhjplidmaaDoorKFnTables4
import Derived.Test.YtjbdljhjplidmaaDoorKFnTables8
namespace Go.Proofs.YtjbdljhjplidmaaDoor.QF
open Go.RowKit Go.Proofs.YtjbdljhjplidmaaDoorW.PrintWords Go.Proofs.YtjbdljhjplidmaaDoorW.PrintLast Go.Proofs.YtjbdljhjplidmaaDoorW.PrintMore
attribute [local go_sem] max2_int min2_int max_two min_two max_three min_three max_four min_four   -- for this text's walks alone
set_option linter.unusedVariables false
set_option linter.unusedSimpArgs false
set_option maxHeartbeats 8000000 in
set_option maxRecDepth 100000 in
theorem impl_tableOf.calls (k:Nat) (a0:Int) (r:List (S57)) (w:World) (h:impl_tableOf.f k a0=some r) :
  Calls Tryd.prog 40 #[.int .i64 a0] w fun e w'=>∃ v0_:Value,e=.returned (v0_)∧Kd.R k57 57 w' w.heap.size (fun _=>True) v0_ r∧Below w.heap.size w w':=by
 have hu57:=Tryd.underlying57;have HB:=am (Below.refl w.heap.size w);have H:(if a0=1 then ((impl_tableOf_1.f (⟨#[114,100]⟩:ByteArray)).bind fun bt225=>((impl_tableOf_2.f (⟨#[76,73,78]⟩:ByteArray) (⟨#[110,114,113,63,110]⟩:ByteArray)).bind fun bt229=>(some (([(⟨bt225.1,bt225.2.1,bt225.2.2.1,bt225.2.2.2⟩:S57),(⟨(⟨#[78,79,84]⟩:ByteArray),0,2,(⟨#[116]⟩:ByteArray)⟩:S57),(⟨bt229.1,bt229.2.1,bt229.2.2.1,bt229.2.2.2⟩:S57)]:List (S57)))))) else (if a0=2 then (impl_tableOf.j0 k a0 (a0 == 2) (⟨#[78,79,84]⟩:ByteArray) 0 2 (⟨#[116]⟩:ByteArray)) else (impl_tableOf.j0 k a0 (a0 == 4) (⟨#[78,79,84]⟩:ByteArray) 0 2 (⟨#[116]⟩:ByteArray))))=some r:=h;clear h
 by_cases c2:a0=1
 ·rw [if_pos c2] at H;have c2b0:(a0 == 1)=true:=beq_iff_eq.mpr c2;have c2b1:(a0 != 1)=false:=bne_eq_false_iff_eq.mpr c2;clear c2;replace H:=Option.bind_eq_some_iff.mp H;obtain ⟨⟨t225,t226,t227,t228⟩,A30,H⟩:=H;replace H:((impl_tableOf_2.f (⟨#[76,73,78]⟩:ByteArray) (⟨#[110,114,113,63,110]⟩:ByteArray)).bind fun bt229=>(some (([(⟨t225,t226,t227,t228⟩:S57),(⟨(⟨#[78,79,84]⟩:ByteArray),0,2,(⟨#[116]⟩:ByteArray)⟩:S57),(⟨bt229.1,bt229.2.1,bt229.2.2.1,bt229.2.2.2⟩:S57)]:List (S57)))))=some r:=H;have A3:=am A30;clear A30;replace H:=Option.bind_eq_some_iff.mp H;obtain ⟨⟨t229,t230,t231,t232⟩,A40,H⟩:=H;replace H:(some (([(⟨t225,t226,t227,t228⟩:S57),(⟨(⟨#[78,79,84]⟩:ByteArray),0,2,(⟨#[116]⟩:ByteArray)⟩:S57),(⟨t229,t230,t231,t232⟩:S57)]:List (S57))))=some r:=H;have A4:=am A40;clear A40;obtain ⟨y233,hy233⟩:∃ y_:List (S57),y_=(([(⟨t225,t226,t227,t228⟩:S57),(⟨(⟨#[78,79,84]⟩:ByteArray),0,2,(⟨#[116]⟩:ByteArray)⟩:S57),(⟨t229,t230,t231,t232⟩:S57)]:List (S57))):=⟨_,rfl⟩
  replace H:(some y233)=some r:=by first|(rw [hy233];with_reducible exact H)|(have H2_:=(Option.bind_some _ _).symm.trans H;rw [hy233];with_reducible exact H2_)|(have H2_:=(Option.bind_some _ _).symm.trans H;with_reducible exact H2_)|with_reducible exact H|(rw [hy233];exact H)|exact H
  have Ny233:=am hy233;clear hy233;obtain rfl:=Option.some.inj H
  go_enter Tryd.func40,Tryd.ntmps40
  try go_wp2_with (first|((with_reducible refine gate_dst (N:=4) rfl ?_);refine bx 4 (cs:=#[.string (⟨#[]⟩:ByteArray),.int .i64 0,.int .i64 0,.string (⟨#[]⟩:ByteArray)]) (t:=57) ?_;intro gb224 hg w5 hbox hb;have BK224:=am (hbox);have GW224:=am ((gs hg (bs HB)));have GE224:=am ((gs hg (bs HB)));replace HB:=am (below_step (bs HB) hb);clear hb hbox hg;obtain ⟨hcz6_0,hcz6_1,hcz6_2,hcz6_3,hfz6_0,hfz6_1,hfz6_2,hfz6_3⟩:=cf4 BK224))
  have n0_:Aside0 (((((w5.setCell ⟨gb224,0,none⟩ (.string (⟨#[78,79,84]⟩:ByteArray))).setCell ⟨gb224,1,none⟩ (.int .i64 0)).setCell ⟨gb224,2,none⟩ (.int .i64 2)).setCell ⟨gb224,3,none⟩ (.string (⟨#[116]⟩:ByteArray))).heap[gb224]? = some (.cells #[.string (⟨#[78,79,84]⟩:ByteArray),.int .i64 0,.int .i64 2,.string (⟨#[116]⟩:ByteArray)] 57 (0,0))):=⟨kp BK224⟩;have n1_:Aside0 (Below w.heap.size w ((((w5.setCell ⟨gb224,0,none⟩ (.string (⟨#[78,79,84]⟩:ByteArray))).setCell ⟨gb224,1,none⟩ (.int .i64 0)).setCell ⟨gb224,2,none⟩ (.int .i64 2)).setCell ⟨gb224,3,none⟩ (.string (⟨#[116]⟩:ByteArray)))):=⟨bs HB⟩;(try clear BK224);(try clear HB)
  generalize ((((w5.setCell ⟨gb224,0,none⟩ (.string (⟨#[78,79,84]⟩:ByteArray))).setCell ⟨gb224,1,none⟩ (.int .i64 0)).setCell ⟨gb224,2,none⟩ (.int .i64 2)).setCell ⟨gb224,3,none⟩ (.string (⟨#[116]⟩:ByteArray)))=w7 at n0_ n1_ ⊢
  have BK224:=n0_;have HB:=n1_;clear n0_ n1_;replace BK224:=am (blk_drew BK224.out);replace HB:=am (below_drew1 HB.out);refine start_ (n:=7) (S:=fun w'=>qk4 w' gb224 (.string (⟨#[78,79,84]⟩:ByteArray)) (.int .i64 0) (.int .i64 2) (.string (⟨#[116]⟩:ByteArray))) (ds:=[]) _ (by kernel_rfl) rfl rfl (qb4 BK224) (fun hHeld=>?_)
  generalize w7.drew=w8 at BK224 HB hHeld ⊢
  refine pure_ (i:=0) (N:=some 10) (v:=?_) (a':=?_) #[true,false,false,false,false,false,false] rfl rfl (by kernel_rfl) (fun _ _ _ h=>h) (Or.inl ⟨by rfl,?_⟩) ?_ ?_
  rotate_left
  ·intro w'
   go_simp
   (with_reducible rfl)
  rotate_left
  ·simp only [Act.put,List.setIfInBounds_toArray,List.set_cons_zero,List.set_cons_succ,i64_w,i32_w]
   rfl
  refine pure_ (i:=3) (N:=some 13) (v:=?_) (a':=?_) #[true,false,false,true,false,false,false] rfl rfl (by kernel_rfl) (fun _ _ _ h=>h) (Or.inl ⟨by rfl,?_⟩) ?_ ?_
  rotate_left
  ·intro w'
   go_simp
   (with_reducible rfl)
  rotate_left
  ·simp only [Act.put,List.setIfInBounds_toArray,List.set_cons_zero,List.set_cons_succ,i64_w,i32_w]
   rfl
  refine take_ (i:=2) (N:=some 12) (v:=?_) (a':=?_) #[true,false,true,true,false,false,false] rfl rfl (by kernel_rfl) (fun _ _ _ h=>h) (Or.inl ⟨by rfl,?_⟩) hHeld ?_ ?_
  rotate_left
  ·rintro w' ⟨s0,s1,s2,s3⟩
   go_simp
   (with_reducible rfl)
  rotate_left
  ·simp only [Act.put,List.setIfInBounds_toArray,List.set_cons_zero,List.set_cons_succ,i64_w,i32_w]
   rfl
  refine one_ (i:=1) (N:=some 11) #[true,true,true,true,false,false,false] rfl rfl (by kernel_rfl) (by decide) (fun K hK=>?_);refine goesV_ Tryd.func64 (by kernel_rfl) rfl #[.string (⟨#[114,100]⟩:ByteArray)] (by rfl) rfl rfl (by rfl) (by (try simp only [List.map_toArray,List.map_cons,List.map_nil]);first|done|rfl|(simp only [List.length_drop,List.length_take];rfl)) ?_;(with_reducible refine (impl_tableOf_1.calls (⟨#[114,100]⟩:ByteArray) t225 t226 t227 t228 _ A3.out).mono ?_);rintro e w9 ⟨rfl,hb⟩;refine ⟨_,rfl,?_⟩;replace BK224:=am (blk_below (g:=gb224) (o:=.cells #[.string (⟨#[78,79,84]⟩:ByteArray),.int .i64 0,.int .i64 2,.string (⟨#[116]⟩:ByteArray)] 57 (0,0)) (ks BK224) hb);replace HB:=am (below_step (bs HB) hb);(try clear hb);(try clear hb2);(try clear hk);(try clear hi);refine hK.out _ _ (qb4 BK224) (fun hHeld=>?_);clear hK K;refine nA 11 ?_;refine one_ (i:=4) (N:=some 14) #[true,true,true,true,true,false,false] rfl rfl (by kernel_rfl) (by decide) (fun K hK=>?_);refine goesV_ Tryd.func65 (by kernel_rfl) rfl #[.string (⟨#[76,73,78]⟩:ByteArray),.string (⟨#[110,114,113,63,110]⟩:ByteArray)] (by rfl) rfl rfl (by rfl) (by (try simp only [List.map_toArray,List.map_cons,List.map_nil]);first|done|rfl|(simp only [List.length_drop,List.length_take];rfl)) ?_;(with_reducible refine (impl_tableOf_2.calls (⟨#[76,73,78]⟩:ByteArray) (⟨#[110,114,113,63,110]⟩:ByteArray) t229 t230 t231 t232 _ A4.out).mono ?_);rintro e w10 ⟨rfl,hb⟩;refine ⟨_,rfl,?_⟩;replace BK224:=am (blk_below (g:=gb224) (o:=.cells #[.string (⟨#[78,79,84]⟩:ByteArray),.int .i64 0,.int .i64 2,.string (⟨#[116]⟩:ByteArray)] 57 (0,0)) (ks BK224) hb);replace HB:=am (below_step (bs HB) hb);(try clear hb);(try clear hb2);(try clear hk);(try clear hi);refine hK.out _ _ (qb4 BK224) (fun hHeld=>?_);clear hK K;refine nA 14 ?_;refine one_ (i:=5) (N:=some 15) #[true,true,true,true,true,true,false] rfl rfl (by kernel_rfl) (by decide) (fun K hK=>?_);refine Kd.R_lit_step k57 _ 57 ?hg (N:=15) ?hd (xs:=([(⟨t225,t226,t227,t228⟩:S57),(⟨(⟨#[78,79,84]⟩:ByteArray),0,2,(⟨#[116]⟩:ByteArray)⟩:S57),(⟨t229,t230,t231,t232⟩:S57)]:List (S57))) (inner:=[.string t225,.int .i64 t226,.int .i64 t227,.string t228,.string (⟨#[78,79,84]⟩:ByteArray),.int .i64 0,.int .i64 2,.string (⟨#[116]⟩:ByteArray),.string t229,.int .i64 t230,.int .i64 t231,.string t232]) (ok:=fun _=>True) (okp:=fun _=>True) ?hr ?hp (fun _ hk=>hk) trivial (Below.refl _ _) (Nat.le_refl _) (by simp) ?_;(case hd=>rfl);(case hg=>rfl);(case hr=>first|(go_simp;done)|(go_simp;rfl));(case hp=>exact (Reps.c4 (show Kd.M k57 _ _ _ (⟨t225,t226,t227,t228⟩:S57) [.string t225,.int .i64 t226,.int .i64 t227,.string t228] from (k57_mkM _ _ _ (⟨t225,t226,t227,t228⟩:S57) )) (Reps.c4 (show Kd.M k57 _ _ _ (⟨(⟨#[78,79,84]⟩:ByteArray),0,2,(⟨#[116]⟩:ByteArray)⟩:S57) [.string (⟨#[78,79,84]⟩:ByteArray),.int .i64 0,.int .i64 2,.string (⟨#[116]⟩:ByteArray)] from (k57_mkM _ _ _ (⟨(⟨#[78,79,84]⟩:ByteArray),0,2,(⟨#[116]⟩:ByteArray)⟩:S57) )) (Reps.c4 (show Kd.M k57 _ _ _ (⟨t229,t230,t231,t232⟩:S57) [.string t229,.int .i64 t230,.int .i64 t231,.string t232] from (k57_mkM _ _ _ (⟨t229,t230,t231,t232⟩:S57) )) (Reps.none _ _)))));intro v234 w11 ho12 hb hg_ hnew_;clear hg_ hnew_
  (first|rw [← Ny233.out] at ho12|(simp only [Int.reduceToNat] at ho12;rw [← Ny233.out] at ho12))
  have HO235:=am (Kd.R_lower (Kd.R_newB ho12 (g:=gb224) (o:=.cells #[.string (⟨#[78,79,84]⟩:ByteArray),.int .i64 0,.int .i64 2,.string (⟨#[116]⟩:ByteArray)] 57 (0,0)) (ks BK224)) (below_size (bs HB)));replace BK224:=am (blk_below (g:=gb224) (o:=.cells #[.string (⟨#[78,79,84]⟩:ByteArray),.int .i64 0,.int .i64 2,.string (⟨#[116]⟩:ByteArray)] 57 (0,0)) (ks BK224) hb);replace HB:=am (below_step (bs HB) hb);clear hb ho12;refine hK.out _ _ (qb4 BK224) (fun hHeld=>?_);clear hK K;refine nA 15 ?_;refine pure_ (i:=6) (N:=some 2) (v:=?_) (a':=?_) #[true,true,true,true,true,true,true] rfl rfl (by kernel_rfl) (fun _ _ _ h=>h) (Or.inl ⟨by rfl,?_⟩) ?_ ?_
  rotate_left
  ·intro w'
   go_simp
   (with_reducible rfl)
  rotate_left
  ·simp only [Act.put,List.setIfInBounds_toArray,List.set_cons_zero,List.set_cons_succ,i64_w,i32_w]
   rfl
  refine done_ (by kernel_rfl) ?_
  try go_wp2
  go_ret
  exact ⟨_,ff,by (with_reducible repeat (first|apply Kd.R_alloc|apply Kd.R_drewN|apply Kd.R_drew));exact Kd.R_mono HO235.out (fun _ hk=>trivial),bs HB⟩
 ·rw [if_neg c2] at H;have c2b0:(a0 == 1)=false:=beq_eq_false_iff_ne.mpr c2;have c2b1:(a0 != 1)=true:=bne_iff_ne.mpr c2;have HC13:=am H;clear H
  go_enter Tryd.func40,Tryd.ntmps40
  go_upto_if 16 with (first|((with_reducible refine gate_dst (N:=4) rfl ?_);refine bx 4 (cs:=#[.string (⟨#[]⟩:ByteArray),.int .i64 0,.int .i64 0,.string (⟨#[]⟩:ByteArray)]) (t:=57) ?_;intro gb224 hg w14 hbox hb;have BK224:=am (hbox);have GW224:=am ((gs hg (bs HB)));have GE224:=am ((gs hg (bs HB)));replace HB:=am (below_step (bs HB) hb);clear hb hbox hg;obtain ⟨hcz15_0,hcz15_1,hcz15_2,hcz15_3,hfz15_0,hfz15_1,hfz15_2,hfz15_3⟩:=cf4 BK224))
  (try simp only [Act.put,List.setIfInBounds_toArray,List.set_cons_zero,List.set_cons_succ])
  go_cut [16] (fun v16 wc=>∃ (kq:Nat) (x16_12:Bool),v16=.bool x16_12∧Aside0 (impl_tableOf.j0 kq a0 x16_12 (⟨#[78,79,84]⟩:ByteArray) 0 2 (⟨#[116]⟩:ByteArray)=some r)∧Aside0 (kq≤k)∧Aside0 (wc.heap[gb224]? = some (.cells #[.string (⟨#[78,79,84]⟩:ByteArray),.int .i64 0,.int .i64 2,.string (⟨#[116]⟩:ByteArray)] 57 (0,0)))∧Aside0 (Below w.heap.size w wc))
  case first =>
   have H:=HC13.out;clear HC13
   by_cases c16:a0=2
   ·rw [if_pos c16] at H;have c16b0:(a0 == 2)=true:=beq_iff_eq.mpr c16;have c16b1:(a0 != 2)=false:=bne_eq_false_iff_eq.mpr c16;clear c16
    (first|rw [c16b0]|(simp only [i64_w,i32_w];rw [c16b0])|skip)
    have H':=am H;clear H
    go_wp2
    go_meet
    case rel=>exact ⟨_,((a0 == 2)),fg,H',⟨fl⟩,⟨kp BK224⟩,⟨bs HB⟩⟩
   ·rw [if_neg c16] at H;have c16b0:(a0 == 2)=false:=beq_eq_false_iff_ne.mpr c16;have c16b1:(a0 != 2)=true:=bne_iff_ne.mpr c16
    (first|rw [c16b0]|(simp only [i64_w,i32_w];rw [c16b0])|skip)
    have H':=am H;clear H
    go_wp2
    go_meet
    case rel=>exact ⟨_,((a0 == 4)),fg,H',⟨fl⟩,⟨kp BK224⟩,⟨bs HB⟩⟩
  case rest =>
   clear HC13
   try clear c1
   try clear c2
   try clear c2b0
   try clear c2b1
   try clear p2
   try clear c4
   try clear c6
   try clear c16
   try clear c16b0
   try clear c16b1
   try clear hcz15_0
   try clear hcz15_1
   try clear hcz15_2
   try clear hcz15_3
   try clear hcz6_0
   try clear hcz6_1
   try clear hcz6_2
   try clear hcz6_3
   try clear hfz15_0
   try clear hfz15_1
   try clear hfz15_2
   try clear hfz15_3
   try clear hfz6_0
   try clear hfz6_1
   try clear hfz6_2
   try clear hfz6_3
   obtain ⟨kq,x16_12,rfl,HA,HJ12,BK224,HB⟩:=hcut
   cases kq with
   | zero=>exact absurd HA.out (by simp [impl_tableOf.j0])
   | succ kj12 =>
    have H:=HA.out;clear HA;simp only [impl_tableOf.j0] at H
    by_cases c17:x16_12=true
    ·subst c17
     have H1:((impl_tableOf_1.f (⟨#[114,114,100]⟩:ByteArray)).bind fun bt236=>((impl_tableOf_2.f (⟨#[76,73,78]⟩:ByteArray) (⟨#[110,113,63,116]⟩:ByteArray)).bind fun bt240=>(some (([(⟨bt236.1,bt236.2.1,bt236.2.2.1,bt236.2.2.2⟩:S57),(⟨bt240.1,bt240.2.1,bt240.2.2.1,bt240.2.2.2⟩:S57)]:List (S57))))))=some r:=by rw [if_pos rfl] at H;exact H
     clear H;have H:=H1;clear H1;replace H:=Option.bind_eq_some_iff.mp H;obtain ⟨⟨t236,t237,t238,t239⟩,A180,H⟩:=H;replace H:((impl_tableOf_2.f (⟨#[76,73,78]⟩:ByteArray) (⟨#[110,113,63,116]⟩:ByteArray)).bind fun bt240=>(some (([(⟨t236,t237,t238,t239⟩:S57),(⟨bt240.1,bt240.2.1,bt240.2.2.1,bt240.2.2.2⟩:S57)]:List (S57)))))=some r:=H;have A18:=am A180;clear A180;replace H:=Option.bind_eq_some_iff.mp H;obtain ⟨⟨t240,t241,t242,t243⟩,A190,H⟩:=H;replace H:(some (([(⟨t236,t237,t238,t239⟩:S57),(⟨t240,t241,t242,t243⟩:S57)]:List (S57))))=some r:=H;have A19:=am A190;clear A190;obtain ⟨y244,hy244⟩:∃ y_:List (S57),y_=(([(⟨t236,t237,t238,t239⟩:S57),(⟨t240,t241,t242,t243⟩:S57)]:List (S57))):=⟨_,rfl⟩
     replace H:(some y244)=some r:=by first|(rw [hy244];with_reducible exact H)|(have H2_:=(Option.bind_some _ _).symm.trans H;rw [hy244];with_reducible exact H2_)|(have H2_:=(Option.bind_some _ _).symm.trans H;with_reducible exact H2_)|with_reducible exact H|(rw [hy244];exact H)|exact H
     have Ny244:=am hy244;clear hy244;obtain rfl:=Option.some.inj H
     go_wp2_with (first|(go_at_call 64;(with_reducible refine (impl_tableOf_1.calls (⟨#[114,114,100]⟩:ByteArray) t236 t237 t238 t239 _ A18.out).mono ?_);rintro e w20 ⟨rfl,hb⟩;replace BK224:=am (blk_below (g:=gb224) (o:=.cells #[.string (⟨#[78,79,84]⟩:ByteArray),.int .i64 0,.int .i64 2,.string (⟨#[116]⟩:ByteArray)] 57 (0,0)) (ks BK224) hb);replace HB:=am (below_step (bs HB) hb);(try clear hb);(try clear hb2);(try clear hk);(try clear hi))|(go_at_call 65;(with_reducible refine (impl_tableOf_2.calls (⟨#[76,73,78]⟩:ByteArray) (⟨#[110,113,63,116]⟩:ByteArray) t240 t241 t242 t243 _ A19.out).mono ?_);rintro e w21 ⟨rfl,hb⟩;replace BK224:=am (blk_below (g:=gb224) (o:=.cells #[.string (⟨#[78,79,84]⟩:ByteArray),.int .i64 0,.int .i64 2,.string (⟨#[116]⟩:ByteArray)] 57 (0,0)) (ks BK224) hb);replace HB:=am (below_step (bs HB) hb);(try clear hb);(try clear hb2);(try clear hk);(try clear hi))|((with_reducible refine gate_dst (N:=23) rfl ?_);refine Kd.R_lit k57 _ 57 ?hg (N:=23) ?hd (xs:=([(⟨t236,t237,t238,t239⟩:S57),(⟨t240,t241,t242,t243⟩:S57)]:List (S57))) (inner:=[.string t236,.int .i64 t237,.int .i64 t238,.string t239,.string t240,.int .i64 t241,.int .i64 t242,.string t243]) (ok:=fun _=>True) (okp:=fun _=>True) ?hr ?hp (fun _ hk=>hk) trivial (Below.refl _ _) (Nat.le_refl _) (by simp) ?_;(case hd=>rfl);(case hg=>rfl);(case hr=>first|(go_simp;done)|(go_simp;rfl));(case hp=>exact (Reps.c4 (show Kd.M k57 _ _ _ (⟨t236,t237,t238,t239⟩:S57) [.string t236,.int .i64 t237,.int .i64 t238,.string t239] from (k57_mkM _ _ _ (⟨t236,t237,t238,t239⟩:S57) )) (Reps.c4 (show Kd.M k57 _ _ _ (⟨t240,t241,t242,t243⟩:S57) [.string t240,.int .i64 t241,.int .i64 t242,.string t243] from (k57_mkM _ _ _ (⟨t240,t241,t242,t243⟩:S57) )) (Reps.none _ _))));intro v245 w22 ho23 hb hg_ hnew_;clear hg_ hnew_;(first|rw [← Ny244.out] at ho23|(simp only [Int.reduceToNat] at ho23;rw [← Ny244.out] at ho23));have HO246:=am (Kd.R_lower (Kd.R_newB ho23 (g:=gb224) (o:=.cells #[.string (⟨#[78,79,84]⟩:ByteArray),.int .i64 0,.int .i64 2,.string (⟨#[116]⟩:ByteArray)] 57 (0,0)) (ks BK224)) (below_size (bs HB)));replace BK224:=am (blk_below (g:=gb224) (o:=.cells #[.string (⟨#[78,79,84]⟩:ByteArray),.int .i64 0,.int .i64 2,.string (⟨#[116]⟩:ByteArray)] 57 (0,0)) (ks BK224) hb);replace HB:=am (below_step (bs HB) hb);clear hb ho23))
     go_ret
     exact ⟨_,ff,by (with_reducible repeat (first|apply Kd.R_alloc|apply Kd.R_drewN|apply Kd.R_drew));exact Kd.R_mono HO246.out (fun _ hk=>trivial),bs HB⟩
    ·replace c17:=Bool.eq_false_iff.mpr c17;subst c17
     have H1:(if a0=3 then ((impl_tableOf_1.f (⟨#[114,114,100]⟩:ByteArray)).bind fun bt247=>((impl_tableOf_2.f (⟨#[76,73,78]⟩:ByteArray) (⟨#[110,113]⟩:ByteArray)).bind fun bt251=>(some (([(⟨bt247.1,bt247.2.1,bt247.2.2.1,bt247.2.2.2⟩:S57),(⟨(⟨#[78,79,84]⟩:ByteArray),0,2,(⟨#[116]⟩:ByteArray)⟩:S57),(⟨bt251.1,bt251.2.1,bt251.2.2.1,bt251.2.2.2⟩:S57)]:List (S57)))))) else (if a0=5 then ((impl_tableOf_1.f (⟨#[114,100]⟩:ByteArray)).bind fun bt258=>((impl_tableOf_2.f (⟨#[73,84,77]⟩:ByteArray) (⟨#[114,110]⟩:ByteArray)).bind fun bt262=>(some (([(⟨bt258.1,bt258.2.1,bt258.2.2.1,bt258.2.2.2⟩:S57),(⟨bt262.1,bt262.2.1,bt262.2.2.1,bt262.2.2.2⟩:S57)]:List (S57)))))) else (if a0=6 then ((impl_tableOf_1.f (⟨#[114,100]⟩:ByteArray)).bind fun bt269=>((impl_tableOf_2.f (⟨#[73,84,77]⟩:ByteArray) (⟨#[114,122,63,116]⟩:ByteArray)).bind fun bt273=>(some (([(⟨bt269.1,bt269.2.1,bt269.2.2.1,bt269.2.2.2⟩:S57),(⟨bt273.1,bt273.2.1,bt273.2.2.1,bt273.2.2.2⟩:S57)]:List (S57)))))) else (if a0=7 then ((impl_tableOf_1.f (⟨#[114,100]⟩:ByteArray)).bind fun bt280=>(some (([(⟨bt280.1,bt280.2.1,bt280.2.2.1,bt280.2.2.2⟩:S57),(⟨(⟨#[65,67,75]⟩:ByteArray),1,1,(⟨#[110,110,63,110]⟩:ByteArray)⟩:S57)]:List (S57))))) else (some ([]:List (S57)))))))=some r:=by rw [if_neg (show ¬ (false=true) by decide)] at H;exact H
     clear H;have H:=H1;clear H1
     by_cases c24:a0=3
     ·rw [if_pos c24] at H;have c24b0:(a0 == 3)=true:=beq_iff_eq.mpr c24;have c24b1:(a0 != 3)=false:=bne_eq_false_iff_eq.mpr c24;clear c24;replace H:=Option.bind_eq_some_iff.mp H;obtain ⟨⟨t247,t248,t249,t250⟩,A250,H⟩:=H;replace H:((impl_tableOf_2.f (⟨#[76,73,78]⟩:ByteArray) (⟨#[110,113]⟩:ByteArray)).bind fun bt251=>(some (([(⟨t247,t248,t249,t250⟩:S57),(⟨(⟨#[78,79,84]⟩:ByteArray),0,2,(⟨#[116]⟩:ByteArray)⟩:S57),(⟨bt251.1,bt251.2.1,bt251.2.2.1,bt251.2.2.2⟩:S57)]:List (S57)))))=some r:=H;have A25:=am A250;clear A250;replace H:=Option.bind_eq_some_iff.mp H;obtain ⟨⟨t251,t252,t253,t254⟩,A260,H⟩:=H;replace H:(some (([(⟨t247,t248,t249,t250⟩:S57),(⟨(⟨#[78,79,84]⟩:ByteArray),0,2,(⟨#[116]⟩:ByteArray)⟩:S57),(⟨t251,t252,t253,t254⟩:S57)]:List (S57))))=some r:=H;have A26:=am A260;clear A260;obtain ⟨y255,hy255⟩:∃ y_:List (S57),y_=(([(⟨t247,t248,t249,t250⟩:S57),(⟨(⟨#[78,79,84]⟩:ByteArray),0,2,(⟨#[116]⟩:ByteArray)⟩:S57),(⟨t251,t252,t253,t254⟩:S57)]:List (S57))):=⟨_,rfl⟩
      replace H:(some y255)=some r:=by first|(rw [hy255];with_reducible exact H)|(have H2_:=(Option.bind_some _ _).symm.trans H;rw [hy255];with_reducible exact H2_)|(have H2_:=(Option.bind_some _ _).symm.trans H;with_reducible exact H2_)|with_reducible exact H|(rw [hy255];exact H)|exact H
      have Ny255:=am hy255;clear hy255;obtain rfl:=Option.some.inj H
      try go_wp2
      replace BK224:=am (blk_drew BK224.out);replace HB:=am (below_drew1 HB.out);refine start_ (n:=7) (S:=fun w'=>qk4 w' gb224 (.string (⟨#[78,79,84]⟩:ByteArray)) (.int .i64 0) (.int .i64 2) (.string (⟨#[116]⟩:ByteArray))) (ds:=[]) _ (by kernel_rfl) rfl rfl (qb4 BK224) (fun hHeld=>?_)
      generalize wc.drew=w27 at BK224 HB hHeld ⊢
      refine pure_ (i:=0) (N:=some 26) (v:=?_) (a':=?_) #[true,false,false,false,false,false,false] rfl rfl (by kernel_rfl) (fun _ _ _ h=>h) (Or.inl ⟨by rfl,?_⟩) ?_ ?_
      rotate_left
      ·intro w'
       go_simp
       (with_reducible rfl)
      rotate_left
      ·simp only [Act.put,List.setIfInBounds_toArray,List.set_cons_zero,List.set_cons_succ,i64_w,i32_w]
       rfl
      refine pure_ (i:=3) (N:=some 29) (v:=?_) (a':=?_) #[true,false,false,true,false,false,false] rfl rfl (by kernel_rfl) (fun _ _ _ h=>h) (Or.inl ⟨by rfl,?_⟩) ?_ ?_
      rotate_left
      ·intro w'
       go_simp
       (with_reducible rfl)
      rotate_left
      ·simp only [Act.put,List.setIfInBounds_toArray,List.set_cons_zero,List.set_cons_succ,i64_w,i32_w]
       rfl
      refine take_ (i:=2) (N:=some 28) (v:=?_) (a':=?_) #[true,false,true,true,false,false,false] rfl rfl (by kernel_rfl) (fun _ _ _ h=>h) (Or.inl ⟨by rfl,?_⟩) hHeld ?_ ?_
      rotate_left
      ·rintro w' ⟨s0,s1,s2,s3⟩
       go_simp
       (with_reducible rfl)
      rotate_left
      ·simp only [Act.put,List.setIfInBounds_toArray,List.set_cons_zero,List.set_cons_succ,i64_w,i32_w]
       rfl
      refine one_ (i:=1) (N:=some 27) #[true,true,true,true,false,false,false] rfl rfl (by kernel_rfl) (by decide) (fun K hK=>?_);refine goesV_ Tryd.func64 (by kernel_rfl) rfl #[.string (⟨#[114,114,100]⟩:ByteArray)] (by rfl) rfl rfl (by rfl) (by (try simp only [List.map_toArray,List.map_cons,List.map_nil]);first|done|rfl|(simp only [List.length_drop,List.length_take];rfl)) ?_;(with_reducible refine (impl_tableOf_1.calls (⟨#[114,114,100]⟩:ByteArray) t247 t248 t249 t250 _ A25.out).mono ?_);rintro e w28 ⟨rfl,hb⟩;refine ⟨_,rfl,?_⟩;replace BK224:=am (blk_below (g:=gb224) (o:=.cells #[.string (⟨#[78,79,84]⟩:ByteArray),.int .i64 0,.int .i64 2,.string (⟨#[116]⟩:ByteArray)] 57 (0,0)) (ks BK224) hb);replace HB:=am (below_step (bs HB) hb);(try clear hb);(try clear hb2);(try clear hk);(try clear hi);refine hK.out _ _ (qb4 BK224) (fun hHeld=>?_);clear hK K;refine nA 27 ?_;refine one_ (i:=4) (N:=some 30) #[true,true,true,true,true,false,false] rfl rfl (by kernel_rfl) (by decide) (fun K hK=>?_);refine goesV_ Tryd.func65 (by kernel_rfl) rfl #[.string (⟨#[76,73,78]⟩:ByteArray),.string (⟨#[110,113]⟩:ByteArray)] (by rfl) rfl rfl (by rfl) (by (try simp only [List.map_toArray,List.map_cons,List.map_nil]);first|done|rfl|(simp only [List.length_drop,List.length_take];rfl)) ?_;(with_reducible refine (impl_tableOf_2.calls (⟨#[76,73,78]⟩:ByteArray) (⟨#[110,113]⟩:ByteArray) t251 t252 t253 t254 _ A26.out).mono ?_);rintro e w29 ⟨rfl,hb⟩;refine ⟨_,rfl,?_⟩;replace BK224:=am (blk_below (g:=gb224) (o:=.cells #[.string (⟨#[78,79,84]⟩:ByteArray),.int .i64 0,.int .i64 2,.string (⟨#[116]⟩:ByteArray)] 57 (0,0)) (ks BK224) hb);replace HB:=am (below_step (bs HB) hb);(try clear hb);(try clear hb2);(try clear hk);(try clear hi);refine hK.out _ _ (qb4 BK224) (fun hHeld=>?_);clear hK K;refine nA 30 ?_;refine one_ (i:=5) (N:=some 31) #[true,true,true,true,true,true,false] rfl rfl (by kernel_rfl) (by decide) (fun K hK=>?_);refine Kd.R_lit_step k57 _ 57 ?hg (N:=31) ?hd (xs:=([(⟨t247,t248,t249,t250⟩:S57),(⟨(⟨#[78,79,84]⟩:ByteArray),0,2,(⟨#[116]⟩:ByteArray)⟩:S57),(⟨t251,t252,t253,t254⟩:S57)]:List (S57))) (inner:=[.string t247,.int .i64 t248,.int .i64 t249,.string t250,.string (⟨#[78,79,84]⟩:ByteArray),.int .i64 0,.int .i64 2,.string (⟨#[116]⟩:ByteArray),.string t251,.int .i64 t252,.int .i64 t253,.string t254]) (ok:=fun _=>True) (okp:=fun _=>True) ?hr ?hp (fun _ hk=>hk) trivial (Below.refl _ _) (Nat.le_refl _) (by simp) ?_;(case hd=>rfl);(case hg=>rfl);(case hr=>first|(go_simp;done)|(go_simp;rfl));(case hp=>exact (Reps.c4 (show Kd.M k57 _ _ _ (⟨t247,t248,t249,t250⟩:S57) [.string t247,.int .i64 t248,.int .i64 t249,.string t250] from (k57_mkM _ _ _ (⟨t247,t248,t249,t250⟩:S57) )) (Reps.c4 (show Kd.M k57 _ _ _ (⟨(⟨#[78,79,84]⟩:ByteArray),0,2,(⟨#[116]⟩:ByteArray)⟩:S57) [.string (⟨#[78,79,84]⟩:ByteArray),.int .i64 0,.int .i64 2,.string (⟨#[116]⟩:ByteArray)] from (k57_mkM _ _ _ (⟨(⟨#[78,79,84]⟩:ByteArray),0,2,(⟨#[116]⟩:ByteArray)⟩:S57) )) (Reps.c4 (show Kd.M k57 _ _ _ (⟨t251,t252,t253,t254⟩:S57) [.string t251,.int .i64 t252,.int .i64 t253,.string t254] from (k57_mkM _ _ _ (⟨t251,t252,t253,t254⟩:S57) )) (Reps.none _ _)))));intro v256 w30 ho31 hb hg_ hnew_;clear hg_ hnew_
      (first|rw [← Ny255.out] at ho31|(simp only [Int.reduceToNat] at ho31;rw [← Ny255.out] at ho31))
      have HO257:=am (Kd.R_lower (Kd.R_newB ho31 (g:=gb224) (o:=.cells #[.string (⟨#[78,79,84]⟩:ByteArray),.int .i64 0,.int .i64 2,.string (⟨#[116]⟩:ByteArray)] 57 (0,0)) (ks BK224)) (below_size (bs HB)));replace BK224:=am (blk_below (g:=gb224) (o:=.cells #[.string (⟨#[78,79,84]⟩:ByteArray),.int .i64 0,.int .i64 2,.string (⟨#[116]⟩:ByteArray)] 57 (0,0)) (ks BK224) hb);replace HB:=am (below_step (bs HB) hb);clear hb ho31;refine hK.out _ _ (qb4 BK224) (fun hHeld=>?_);clear hK K;refine nA 31 ?_;refine pure_ (i:=6) (N:=some 2) (v:=?_) (a':=?_) #[true,true,true,true,true,true,true] rfl rfl (by kernel_rfl) (fun _ _ _ h=>h) (Or.inl ⟨by rfl,?_⟩) ?_ ?_
      rotate_left
      ·intro w'
       go_simp
       (with_reducible rfl)
      rotate_left
      ·simp only [Act.put,List.setIfInBounds_toArray,List.set_cons_zero,List.set_cons_succ,i64_w,i32_w]
       rfl
      refine done_ (by kernel_rfl) ?_
      try go_wp2
      go_ret
      exact ⟨_,ff,by (with_reducible repeat (first|apply Kd.R_alloc|apply Kd.R_drewN|apply Kd.R_drew));exact Kd.R_mono HO257.out (fun _ hk=>trivial),bs HB⟩
     ·rw [if_neg c24] at H;have c24b0:(a0 == 3)=false:=beq_eq_false_iff_ne.mpr c24;have c24b1:(a0 != 3)=true:=bne_iff_ne.mpr c24
      by_cases c32:a0=5
      ·rw [if_pos c32] at H;have c32b0:(a0 == 5)=true:=beq_iff_eq.mpr c32;have c32b1:(a0 != 5)=false:=bne_eq_false_iff_eq.mpr c32;clear c32;replace H:=Option.bind_eq_some_iff.mp H;obtain ⟨⟨t258,t259,t260,t261⟩,A330,H⟩:=H;replace H:((impl_tableOf_2.f (⟨#[73,84,77]⟩:ByteArray) (⟨#[114,110]⟩:ByteArray)).bind fun bt262=>(some (([(⟨t258,t259,t260,t261⟩:S57),(⟨bt262.1,bt262.2.1,bt262.2.2.1,bt262.2.2.2⟩:S57)]:List (S57)))))=some r:=H;have A33:=am A330;clear A330;replace H:=Option.bind_eq_some_iff.mp H;obtain ⟨⟨t262,t263,t264,t265⟩,A340,H⟩:=H;replace H:(some (([(⟨t258,t259,t260,t261⟩:S57),(⟨t262,t263,t264,t265⟩:S57)]:List (S57))))=some r:=H;have A34:=am A340;clear A340;obtain ⟨y266,hy266⟩:∃ y_:List (S57),y_=(([(⟨t258,t259,t260,t261⟩:S57),(⟨t262,t263,t264,t265⟩:S57)]:List (S57))):=⟨_,rfl⟩
       replace H:(some y266)=some r:=by first|(rw [hy266];with_reducible exact H)|(have H2_:=(Option.bind_some _ _).symm.trans H;rw [hy266];with_reducible exact H2_)|(have H2_:=(Option.bind_some _ _).symm.trans H;with_reducible exact H2_)|with_reducible exact H|(rw [hy266];exact H)|exact H
       have Ny266:=am hy266;clear hy266;obtain rfl:=Option.some.inj H
       go_wp2_with (first|(go_at_call 64;(with_reducible refine (impl_tableOf_1.calls (⟨#[114,100]⟩:ByteArray) t258 t259 t260 t261 _ A33.out).mono ?_);rintro e w35 ⟨rfl,hb⟩;replace BK224:=am (blk_below (g:=gb224) (o:=.cells #[.string (⟨#[78,79,84]⟩:ByteArray),.int .i64 0,.int .i64 2,.string (⟨#[116]⟩:ByteArray)] 57 (0,0)) (ks BK224) hb);replace HB:=am (below_step (bs HB) hb);(try clear hb);(try clear hb2);(try clear hk);(try clear hi))|(go_at_call 65;(with_reducible refine (impl_tableOf_2.calls (⟨#[73,84,77]⟩:ByteArray) (⟨#[114,110]⟩:ByteArray) t262 t263 t264 t265 _ A34.out).mono ?_);rintro e w36 ⟨rfl,hb⟩;replace BK224:=am (blk_below (g:=gb224) (o:=.cells #[.string (⟨#[78,79,84]⟩:ByteArray),.int .i64 0,.int .i64 2,.string (⟨#[116]⟩:ByteArray)] 57 (0,0)) (ks BK224) hb);replace HB:=am (below_step (bs HB) hb);(try clear hb);(try clear hb2);(try clear hk);(try clear hi))|((with_reducible refine gate_dst (N:=38) rfl ?_);refine Kd.R_lit k57 _ 57 ?hg (N:=38) ?hd (xs:=([(⟨t258,t259,t260,t261⟩:S57),(⟨t262,t263,t264,t265⟩:S57)]:List (S57))) (inner:=[.string t258,.int .i64 t259,.int .i64 t260,.string t261,.string t262,.int .i64 t263,.int .i64 t264,.string t265]) (ok:=fun _=>True) (okp:=fun _=>True) ?hr ?hp (fun _ hk=>hk) trivial (Below.refl _ _) (Nat.le_refl _) (by simp) ?_;(case hd=>rfl);(case hg=>rfl);(case hr=>first|(go_simp;done)|(go_simp;rfl));(case hp=>exact (Reps.c4 (show Kd.M k57 _ _ _ (⟨t258,t259,t260,t261⟩:S57) [.string t258,.int .i64 t259,.int .i64 t260,.string t261] from (k57_mkM _ _ _ (⟨t258,t259,t260,t261⟩:S57) )) (Reps.c4 (show Kd.M k57 _ _ _ (⟨t262,t263,t264,t265⟩:S57) [.string t262,.int .i64 t263,.int .i64 t264,.string t265] from (k57_mkM _ _ _ (⟨t262,t263,t264,t265⟩:S57) )) (Reps.none _ _))));intro v267 w37 ho38 hb hg_ hnew_;clear hg_ hnew_;(first|rw [← Ny266.out] at ho38|(simp only [Int.reduceToNat] at ho38;rw [← Ny266.out] at ho38));have HO268:=am (Kd.R_lower (Kd.R_newB ho38 (g:=gb224) (o:=.cells #[.string (⟨#[78,79,84]⟩:ByteArray),.int .i64 0,.int .i64 2,.string (⟨#[116]⟩:ByteArray)] 57 (0,0)) (ks BK224)) (below_size (bs HB)));replace BK224:=am (blk_below (g:=gb224) (o:=.cells #[.string (⟨#[78,79,84]⟩:ByteArray),.int .i64 0,.int .i64 2,.string (⟨#[116]⟩:ByteArray)] 57 (0,0)) (ks BK224) hb);replace HB:=am (below_step (bs HB) hb);clear hb ho38))
       go_ret
       exact ⟨_,ff,by (with_reducible repeat (first|apply Kd.R_alloc|apply Kd.R_drewN|apply Kd.R_drew));exact Kd.R_mono HO268.out (fun _ hk=>trivial),bs HB⟩
      ·rw [if_neg c32] at H;have c32b0:(a0 == 5)=false:=beq_eq_false_iff_ne.mpr c32;have c32b1:(a0 != 5)=true:=bne_iff_ne.mpr c32
       by_cases c39:a0=6
       ·rw [if_pos c39] at H;have c39b0:(a0 == 6)=true:=beq_iff_eq.mpr c39;have c39b1:(a0 != 6)=false:=bne_eq_false_iff_eq.mpr c39;clear c39;replace H:=Option.bind_eq_some_iff.mp H;obtain ⟨⟨t269,t270,t271,t272⟩,A400,H⟩:=H;replace H:((impl_tableOf_2.f (⟨#[73,84,77]⟩:ByteArray) (⟨#[114,122,63,116]⟩:ByteArray)).bind fun bt273=>(some (([(⟨t269,t270,t271,t272⟩:S57),(⟨bt273.1,bt273.2.1,bt273.2.2.1,bt273.2.2.2⟩:S57)]:List (S57)))))=some r:=H;have A40:=am A400;clear A400;replace H:=Option.bind_eq_some_iff.mp H;obtain ⟨⟨t273,t274,t275,t276⟩,A410,H⟩:=H;replace H:(some (([(⟨t269,t270,t271,t272⟩:S57),(⟨t273,t274,t275,t276⟩:S57)]:List (S57))))=some r:=H;have A41:=am A410;clear A410;obtain ⟨y277,hy277⟩:∃ y_:List (S57),y_=(([(⟨t269,t270,t271,t272⟩:S57),(⟨t273,t274,t275,t276⟩:S57)]:List (S57))):=⟨_,rfl⟩
        replace H:(some y277)=some r:=by first|(rw [hy277];with_reducible exact H)|(have H2_:=(Option.bind_some _ _).symm.trans H;rw [hy277];with_reducible exact H2_)|(have H2_:=(Option.bind_some _ _).symm.trans H;with_reducible exact H2_)|with_reducible exact H|(rw [hy277];exact H)|exact H
        have Ny277:=am hy277;clear hy277;obtain rfl:=Option.some.inj H
        go_wp2_with (first|(go_at_call 64;(with_reducible refine (impl_tableOf_1.calls (⟨#[114,100]⟩:ByteArray) t269 t270 t271 t272 _ A40.out).mono ?_);rintro e w42 ⟨rfl,hb⟩;replace BK224:=am (blk_below (g:=gb224) (o:=.cells #[.string (⟨#[78,79,84]⟩:ByteArray),.int .i64 0,.int .i64 2,.string (⟨#[116]⟩:ByteArray)] 57 (0,0)) (ks BK224) hb);replace HB:=am (below_step (bs HB) hb);(try clear hb);(try clear hb2);(try clear hk);(try clear hi))|(go_at_call 65;(with_reducible refine (impl_tableOf_2.calls (⟨#[73,84,77]⟩:ByteArray) (⟨#[114,122,63,116]⟩:ByteArray) t273 t274 t275 t276 _ A41.out).mono ?_);rintro e w43 ⟨rfl,hb⟩;replace BK224:=am (blk_below (g:=gb224) (o:=.cells #[.string (⟨#[78,79,84]⟩:ByteArray),.int .i64 0,.int .i64 2,.string (⟨#[116]⟩:ByteArray)] 57 (0,0)) (ks BK224) hb);replace HB:=am (below_step (bs HB) hb);(try clear hb);(try clear hb2);(try clear hk);(try clear hi))|((with_reducible refine gate_dst (N:=45) rfl ?_);refine Kd.R_lit k57 _ 57 ?hg (N:=45) ?hd (xs:=([(⟨t269,t270,t271,t272⟩:S57),(⟨t273,t274,t275,t276⟩:S57)]:List (S57))) (inner:=[.string t269,.int .i64 t270,.int .i64 t271,.string t272,.string t273,.int .i64 t274,.int .i64 t275,.string t276]) (ok:=fun _=>True) (okp:=fun _=>True) ?hr ?hp (fun _ hk=>hk) trivial (Below.refl _ _) (Nat.le_refl _) (by simp) ?_;(case hd=>rfl);(case hg=>rfl);(case hr=>first|(go_simp;done)|(go_simp;rfl));(case hp=>exact (Reps.c4 (show Kd.M k57 _ _ _ (⟨t269,t270,t271,t272⟩:S57) [.string t269,.int .i64 t270,.int .i64 t271,.string t272] from (k57_mkM _ _ _ (⟨t269,t270,t271,t272⟩:S57) )) (Reps.c4 (show Kd.M k57 _ _ _ (⟨t273,t274,t275,t276⟩:S57) [.string t273,.int .i64 t274,.int .i64 t275,.string t276] from (k57_mkM _ _ _ (⟨t273,t274,t275,t276⟩:S57) )) (Reps.none _ _))));intro v278 w44 ho45 hb hg_ hnew_;clear hg_ hnew_;(first|rw [← Ny277.out] at ho45|(simp only [Int.reduceToNat] at ho45;rw [← Ny277.out] at ho45));have HO279:=am (Kd.R_lower (Kd.R_newB ho45 (g:=gb224) (o:=.cells #[.string (⟨#[78,79,84]⟩:ByteArray),.int .i64 0,.int .i64 2,.string (⟨#[116]⟩:ByteArray)] 57 (0,0)) (ks BK224)) (below_size (bs HB)));replace BK224:=am (blk_below (g:=gb224) (o:=.cells #[.string (⟨#[78,79,84]⟩:ByteArray),.int .i64 0,.int .i64 2,.string (⟨#[116]⟩:ByteArray)] 57 (0,0)) (ks BK224) hb);replace HB:=am (below_step (bs HB) hb);clear hb ho45))
        go_ret
        exact ⟨_,ff,by (with_reducible repeat (first|apply Kd.R_alloc|apply Kd.R_drewN|apply Kd.R_drew));exact Kd.R_mono HO279.out (fun _ hk=>trivial),bs HB⟩
       ·rw [if_neg c39] at H;have c39b0:(a0 == 6)=false:=beq_eq_false_iff_ne.mpr c39;have c39b1:(a0 != 6)=true:=bne_iff_ne.mpr c39
        by_cases c46:a0=7
        ·rw [if_pos c46] at H;have c46b0:(a0 == 7)=true:=beq_iff_eq.mpr c46;have c46b1:(a0 != 7)=false:=bne_eq_false_iff_eq.mpr c46;clear c46;replace H:=Option.bind_eq_some_iff.mp H;obtain ⟨⟨t280,t281,t282,t283⟩,A470,H⟩:=H;replace H:(some (([(⟨t280,t281,t282,t283⟩:S57),(⟨(⟨#[65,67,75]⟩:ByteArray),1,1,(⟨#[110,110,63,110]⟩:ByteArray)⟩:S57)]:List (S57))))=some r:=H;have A47:=am A470;clear A470;obtain ⟨y284,hy284⟩:∃ y_:List (S57),y_=(([(⟨t280,t281,t282,t283⟩:S57),(⟨(⟨#[65,67,75]⟩:ByteArray),1,1,(⟨#[110,110,63,110]⟩:ByteArray)⟩:S57)]:List (S57))):=⟨_,rfl⟩
         replace H:(some y284)=some r:=by first|(rw [hy284];with_reducible exact H)|(have H2_:=(Option.bind_some _ _).symm.trans H;rw [hy284];with_reducible exact H2_)|(have H2_:=(Option.bind_some _ _).symm.trans H;with_reducible exact H2_)|with_reducible exact H|(rw [hy284];exact H)|exact H
         have Ny284:=am hy284;clear hy284;obtain rfl:=Option.some.inj H
         go_wp2_with (first|(go_at_call 64;(with_reducible refine (impl_tableOf_1.calls (⟨#[114,100]⟩:ByteArray) t280 t281 t282 t283 _ A47.out).mono ?_);rintro e w48 ⟨rfl,hb⟩;replace BK224:=am (blk_below (g:=gb224) (o:=.cells #[.string (⟨#[78,79,84]⟩:ByteArray),.int .i64 0,.int .i64 2,.string (⟨#[116]⟩:ByteArray)] 57 (0,0)) (ks BK224) hb);replace HB:=am (below_step (bs HB) hb);(try clear hb);(try clear hb2);(try clear hk);(try clear hi))|((with_reducible refine gate_dst (N:=51) rfl ?_);refine Kd.R_lit k57 _ 57 ?hg (N:=51) ?hd (xs:=([(⟨t280,t281,t282,t283⟩:S57),(⟨(⟨#[65,67,75]⟩:ByteArray),1,1,(⟨#[110,110,63,110]⟩:ByteArray)⟩:S57)]:List (S57))) (inner:=[.string t280,.int .i64 t281,.int .i64 t282,.string t283,.string (⟨#[65,67,75]⟩:ByteArray),.int .i64 1,.int .i64 1,.string (⟨#[110,110,63,110]⟩:ByteArray)]) (ok:=fun _=>True) (okp:=fun _=>True) ?hr ?hp (fun _ hk=>hk) trivial (Below.refl _ _) (Nat.le_refl _) (by simp) ?_;(case hd=>rfl);(case hg=>rfl);(case hr=>first|(go_simp;done)|(go_simp;rfl));(case hp=>exact (Reps.c4 (show Kd.M k57 _ _ _ (⟨t280,t281,t282,t283⟩:S57) [.string t280,.int .i64 t281,.int .i64 t282,.string t283] from (k57_mkM _ _ _ (⟨t280,t281,t282,t283⟩:S57) )) (Reps.c4 (show Kd.M k57 _ _ _ (⟨(⟨#[65,67,75]⟩:ByteArray),1,1,(⟨#[110,110,63,110]⟩:ByteArray)⟩:S57) [.string (⟨#[65,67,75]⟩:ByteArray),.int .i64 1,.int .i64 1,.string (⟨#[110,110,63,110]⟩:ByteArray)] from (k57_mkM _ _ _ (⟨(⟨#[65,67,75]⟩:ByteArray),1,1,(⟨#[110,110,63,110]⟩:ByteArray)⟩:S57) )) (Reps.none _ _))));intro v285 w49 ho50 hb hg_ hnew_;clear hg_ hnew_;(first|rw [← Ny284.out] at ho50|(simp only [Int.reduceToNat] at ho50;rw [← Ny284.out] at ho50));have HO286:=am (Kd.R_lower (Kd.R_newB ho50 (g:=gb224) (o:=.cells #[.string (⟨#[78,79,84]⟩:ByteArray),.int .i64 0,.int .i64 2,.string (⟨#[116]⟩:ByteArray)] 57 (0,0)) (ks BK224)) (below_size (bs HB)));replace BK224:=am (blk_below (g:=gb224) (o:=.cells #[.string (⟨#[78,79,84]⟩:ByteArray),.int .i64 0,.int .i64 2,.string (⟨#[116]⟩:ByteArray)] 57 (0,0)) (ks BK224) hb);replace HB:=am (below_step (bs HB) hb);clear hb ho50))
         go_ret
         exact ⟨_,ff,by (with_reducible repeat (first|apply Kd.R_alloc|apply Kd.R_drewN|apply Kd.R_drew));exact Kd.R_mono HO286.out (fun _ hk=>trivial),bs HB⟩
        ·rw [if_neg c46] at H;have c46b0:(a0 == 7)=false:=beq_eq_false_iff_ne.mpr c46;have c46b1:(a0 != 7)=true:=bne_iff_ne.mpr c46;obtain rfl:=Option.some.inj H
         go_wp2
         go_ret
         exact ⟨_,ff,by first|exact Kd.R_nil _ _ _ _ _|exact Kd.N_nil _ _ _ _ _|exact Kd.V_nil _ _ _ _ _|exact Kd.Q_nil _ _ _ _ _|exact Kd.S_nil _ _ _ _ _,bs HB⟩
end Go.Proofs.YtjbdljhjplidmaaDoor.QF
