-- Merged by a program of this session (wip/tool/pack.py) out of its own texts for this claim.
import Derived.Test.YtkfcahggnpecjaaGreatKFnExactGateDay17
set_option maxHeartbeats 8000000
set_option maxRecDepth 100000
set_option linter.unusedSimpArgs false
set_option linter.unusedVariables false
namespace Go.Proofs.YtkfcahggnpecjaaGreat.QG
open Go.RowKit Go.Proofs.YtkfcahggnpecjaaGreatW.PrintWords Go.Proofs.YtkfcahggnpecjaaGreatW.PrintLast Go.Proofs.YtkfcahggnpecjaaGreatW.PrintMore
attribute [local go_sem] max2_int min2_int max_two min_two max_three min_three max_four min_four   -- for this text's walks alone
def laws_heldOutS.T4:Bool × List (List Nat × List Nat):=(true,[([],[]),([],[]),([0,1],[0,1]),([2],[2]),([3],[3]),([],[]),([5],[5]),([4,6],[4,6])])
def laws_heldOutS.B4:List Nat:=[0,0,3,7,15,0,32,127]
theorem laws_heldOutS.tab4:rtab .any (opsOf Tryz.f40 4)=laws_heldOutS.T4:=by kernel_rfl
theorem laws_heldOutS.bits4:waitsOk laws_heldOutS.T4.2 laws_heldOutS.B4=true:=by kernel_rfl
def laws_heldOutS.T10:Bool × List (List Nat × List Nat):=(true,[([],[]),([],[]),([0,1],[0,1]),([2],[2]),([3],[3]),([],[]),([5],[5]),([4,6],[4,6])])
def laws_heldOutS.B10:List Nat:=[0,0,3,7,15,0,32,127]
theorem laws_heldOutS.tab10:rtab .any (opsOf Tryz.f40 10)=laws_heldOutS.T10:=by kernel_rfl
theorem laws_heldOutS.bits10:waitsOk laws_heldOutS.T10.2 laws_heldOutS.B10=true:=by kernel_rfl
theorem laws_heldOutS.calls (k:Nat) (A0:Option Addr) (c0:Nat) (l0:List (S102)) (a1:Int) (r:Int) (w:World) (hr0:Kd.C k102 w A0 l0.length l0) (hc0:l0.length≤c0) (H:laws_heldOutS.f k l0 a1=some r) :
  Calls Tryz.prog 40 #[.slice A0 l0.length c0,.int .i64 a1] w fun e w'=>e=.returned (.int .i64 r)∧Below w.heap.size w w':=by
 have HR0:=am hr0;have HC0:=am hc0;clear hr0 hc0;have HB:=am (Below.refl w.heap.size w);unfold laws_heldOutS.f at H;have H':=am H;clear H
 go_in
 go_wp2
 go_loopg [1,5] k (fun kq v1 v5 w'=>∃ (x1_1:Int) (x5_1:Int),v1=.int .i64 x1_1∧v5=.int .i64 x5_1∧Aside0 (laws_heldOutS.l0 kq l0 x1_1 x5_1=some r)∧Aside0 (kq≤k)∧Aside0 (Below w.heap.size w w'))
 case atStart=>exact ⟨(a1),(0),fg,fg,H',⟨Nat.le_refl _⟩,⟨bs HB⟩⟩
 case round =>
  clear H'
  obtain ⟨x1_1,x5_1,rfl,rfl,HA,HK1,HB⟩:=hrel
  cases gk with
  | zero=>exact absurd HA.out (by simp [laws_heldOutS.l0])
  | succ k1 =>
   have H:=HA.out;clear HA;simp only [laws_heldOutS.l0] at H
   revert H;refine id2 ?_ ?_
   ·intro c3b0 H
    revert H;refine id1 ?_
    intro c4b0 H;replace H:=bo H;obtain ⟨t45,A5,H⟩:=H
    revert H;refine ie2 ?_ ?_
    ·intro c6b0 c6b1 H
     revert H;refine ie2 ?_ ?_
     ·intro c7b0 c7b1 H;replace H:=bo H;obtain ⟨t46,A8,H⟩:=H
      revert H;refine ie2 ?_ ?_
      ·intro c9b0 c9b1 H
       revert H;refine ie2 ?_ ?_
       ·intro c10b0 c10b1 H
        revert H;refine ie2 ?_ ?_
        ·intro c11b0 c11b1 H;have H':=am H;clear H
         try go_wp2
         replace HB:=am (below_drew1 HB.out);have p39:0≤(x5_1:Int):=oa;have q39:x5_1<(l0.length:Int):=oa;obtain ⟨ad39,e39,hx39_0,hx39_1,hx39_2,hx39_3,hx39_4⟩:=at_T102 HR0.out x5_1 p39 q39;have hw39_4:=hx39_4;have hw39_3:=hx39_3;have hw39_2:=hx39_2;have hw39_1:=hx39_1;have hw39_0:=hx39_0
         cases e39
         replace hx39_0:=cb HB hx39_0;replace hx39_1:=cb HB hx39_1;replace hx39_2:=cb HB hx39_2;replace hx39_3:=cb HB hx39_3;replace hx39_4:=cb HB hx39_4;replace p39:=eq_true p39;replace q39:=eq_true q39;refine sta 8 (hca (cb HB hw39_0) (hca (cb HB hw39_1) (hca (cb HB hw39_2) (hca (cb HB hw39_3) (hc (cb HB hw39_4)))))) (fun hHeld=>?_);refine with_tabW laws_heldOutS.tab4 laws_heldOutS.bits4 (fun HT_ HW_=>?_)
         generalize wr.drew=w12 at HB hx39_0 hx39_1 hx39_2 hx39_3 hx39_4 hHeld ⊢
         refine pA 0 12 HT_ ?_;refine pA 1 13 HT_ ?_;refine pA 2 14 HT_ ?_;refine pA 3 15 HT_ ?_;refine pA 5 17 HT_ ?_;refine tA 4 16 HT_ HW_ hHeld ?_;refine oA 6 18 HT_ (fun K hK=>?_);refine gA Tryz.func75 #[.int .i64 x1_1] ?_;(with_reducible refine (laws_markText.calls k1 x1_1 t45 _ A5.out).mono ?_);rintro e w13 ⟨rfl,hb⟩;refine ⟨_,rfl,?_⟩;replace HB:=bq HB hb;(try clear hb);(try clear hb2);(try clear hk);(try clear hi);refine hK.out _ _ (hca (cb HB hw39_0) (hca (cb HB hw39_1) (hca (cb HB hw39_2) (hca (cb HB hw39_3) (hc (cb HB hw39_4)))))).out (fun hHeld=>?_);clear hK K;refine nA 18 ?_;refine pA 7 19 HT_ ?_;refine done_ (done_of HT_.out (by kernel_rfl)) ?_;have p42:0≤(x5_1:Int):=oa;have q42:x5_1<(l0.length:Int):=oa;obtain ⟨ad42,e42,hx42_0,hx42_1,hx42_2,hx42_3,hx42_4⟩:=at_T102 HR0.out x5_1 p42 q42;obtain rfl:ad39=ad42:=(by injection e42);replace hx42_0:=cb HB hx42_0;replace hx42_1:=cb HB hx42_1;replace hx42_2:=cb HB hx42_2;replace hx42_3:=cb HB hx42_3;replace hx42_4:=cb HB hx42_4;replace p42:=eq_true p42;replace q42:=eq_true q42
         try go_wp2
         replace HB:=am (below_drew1 HB.out);have p41:0≤(x5_1:Int):=oa;have q41:x5_1<(l0.length:Int):=oa;obtain ⟨ad41,e41,hx41_0,hx41_1,hx41_2,hx41_3,hx41_4⟩:=at_T102 HR0.out x5_1 p41 q41;have hw41_4:=hx41_4;have hw41_3:=hx41_3;have hw41_2:=hx41_2;have hw41_1:=hx41_1;have hw41_0:=hx41_0;obtain rfl:ad39=ad41:=(by injection e41);replace hx41_0:=cb HB hx41_0;replace hx41_1:=cb HB hx41_1;replace hx41_2:=cb HB hx41_2;replace hx41_3:=cb HB hx41_3;replace hx41_4:=cb HB hx41_4;replace p41:=eq_true p41;replace q41:=eq_true q41;refine sta 8 (hca (cb HB hw41_0) (hca (cb HB hw41_1) (hca (cb HB hw41_2) (hca (cb HB hw41_3) (hc (cb HB hw41_4)))))) (fun hHeld=>?_);refine with_tabW laws_heldOutS.tab10 laws_heldOutS.bits10 (fun HT_ HW_=>?_)
         generalize w13.drew=w14 at HB hx41_0 hx41_1 hx41_2 hx41_3 hx41_4 hHeld ⊢
         refine pA 0 31 HT_ ?_;refine pA 1 32 HT_ ?_;refine pA 2 33 HT_ ?_;refine pA 3 34 HT_ ?_;refine pA 5 36 HT_ ?_;refine tA 4 35 HT_ HW_ hHeld ?_;refine oA 6 37 HT_ (fun K hK=>?_);refine gA Tryz.func75 #[.int .i64 (wrap64 ((wrap64 (x1_1+1))+1))] ?_;(with_reducible refine (laws_markText.calls k1 (wrap64 ((wrap64 (x1_1+1))+1)) t46 _ A8.out).mono ?_);rintro e w15 ⟨rfl,hb⟩;refine ⟨_,rfl,?_⟩;replace HB:=bq HB hb;(try clear hb);(try clear hb2);(try clear hk);(try clear hi);refine hK.out _ _ (hca (cb HB hw41_0) (hca (cb HB hw41_1) (hca (cb HB hw41_2) (hca (cb HB hw41_3) (hc (cb HB hw41_4)))))).out (fun hHeld=>?_);clear hK K;refine nA 37 ?_;refine pA 7 38 HT_ ?_;refine done_ (done_of HT_.out (by kernel_rfl)) ?_;have p43:0≤(x5_1:Int):=oa;have q43:x5_1<(l0.length:Int):=oa;obtain ⟨ad43,e43,hx43_0,hx43_1,hx43_2,hx43_3,hx43_4⟩:=at_T102 HR0.out x5_1 p43 q43;obtain rfl:ad39=ad43:=(by injection e43);replace hx43_0:=cb HB hx43_0;replace hx43_1:=cb HB hx43_1;replace hx43_2:=cb HB hx43_2;replace hx43_3:=cb HB hx43_3;replace hx43_4:=cb HB hx43_4;replace p43:=eq_true p43;replace q43:=eq_true q43;have p44:0≤(x5_1:Int):=oa;have q44:x5_1<(l0.length:Int):=oa;obtain ⟨ad44,e44,hx44_0,hx44_1,hx44_2,hx44_3,hx44_4⟩:=at_T102 HR0.out x5_1 p44 q44;obtain rfl:ad39=ad44:=(by injection e44);replace hx44_0:=cb HB hx44_0;replace hx44_1:=cb HB hx44_1;replace hx44_2:=cb HB hx44_2;replace hx44_3:=cb HB hx44_3;replace hx44_4:=cb HB hx44_4;replace p44:=eq_true p44;replace q44:=eq_true q44
         try go_wp2
         go_roundg k1
         case measure=>have:=HK1.out;omega
         case rel=>exact ⟨(wrap64 ((wrap64 ((wrap64 ((wrap64 ((wrap64 (x1_1+1))+1))+1))+1))+1)),(wrap64 (x5_1+1)),fg,fg,H',⟨by have:=HK1.out;omega⟩,⟨bs HB⟩⟩
        ·intro c11 c11b0 c11b1 H;obtain rfl:=si H
         try go_wp2
         replace HB:=am (below_drew1 HB.out);have p39:0≤(x5_1:Int):=oa;have q39:x5_1<(l0.length:Int):=oa;obtain ⟨ad39,e39,hx39_0,hx39_1,hx39_2,hx39_3,hx39_4⟩:=at_T102 HR0.out x5_1 p39 q39;have hw39_4:=hx39_4;have hw39_3:=hx39_3;have hw39_2:=hx39_2;have hw39_1:=hx39_1;have hw39_0:=hx39_0
         cases e39
         replace hx39_0:=cb HB hx39_0;replace hx39_1:=cb HB hx39_1;replace hx39_2:=cb HB hx39_2;replace hx39_3:=cb HB hx39_3;replace hx39_4:=cb HB hx39_4;replace p39:=eq_true p39;replace q39:=eq_true q39;refine sta 8 (hca (cb HB hw39_0) (hca (cb HB hw39_1) (hca (cb HB hw39_2) (hca (cb HB hw39_3) (hc (cb HB hw39_4)))))) (fun hHeld=>?_);refine with_tabW laws_heldOutS.tab4 laws_heldOutS.bits4 (fun HT_ HW_=>?_)
         generalize wr.drew=w16 at HB hx39_0 hx39_1 hx39_2 hx39_3 hx39_4 hHeld ⊢
         refine pA 0 12 HT_ ?_;refine pA 1 13 HT_ ?_;refine pA 2 14 HT_ ?_;refine pA 3 15 HT_ ?_;refine pA 5 17 HT_ ?_;refine tA 4 16 HT_ HW_ hHeld ?_;refine oA 6 18 HT_ (fun K hK=>?_);refine gA Tryz.func75 #[.int .i64 x1_1] ?_;(with_reducible refine (laws_markText.calls k1 x1_1 t45 _ A5.out).mono ?_);rintro e w17 ⟨rfl,hb⟩;refine ⟨_,rfl,?_⟩;replace HB:=bq HB hb;(try clear hb);(try clear hb2);(try clear hk);(try clear hi);refine hK.out _ _ (hca (cb HB hw39_0) (hca (cb HB hw39_1) (hca (cb HB hw39_2) (hca (cb HB hw39_3) (hc (cb HB hw39_4)))))).out (fun hHeld=>?_);clear hK K;refine nA 18 ?_;refine pA 7 19 HT_ ?_;refine done_ (done_of HT_.out (by kernel_rfl)) ?_;have p42:0≤(x5_1:Int):=oa;have q42:x5_1<(l0.length:Int):=oa;obtain ⟨ad42,e42,hx42_0,hx42_1,hx42_2,hx42_3,hx42_4⟩:=at_T102 HR0.out x5_1 p42 q42;obtain rfl:ad39=ad42:=(by injection e42);replace hx42_0:=cb HB hx42_0;replace hx42_1:=cb HB hx42_1;replace hx42_2:=cb HB hx42_2;replace hx42_3:=cb HB hx42_3;replace hx42_4:=cb HB hx42_4;replace p42:=eq_true p42;replace q42:=eq_true q42
         try go_wp2
         replace HB:=am (below_drew1 HB.out);have p41:0≤(x5_1:Int):=oa;have q41:x5_1<(l0.length:Int):=oa;obtain ⟨ad41,e41,hx41_0,hx41_1,hx41_2,hx41_3,hx41_4⟩:=at_T102 HR0.out x5_1 p41 q41;have hw41_4:=hx41_4;have hw41_3:=hx41_3;have hw41_2:=hx41_2;have hw41_1:=hx41_1;have hw41_0:=hx41_0;obtain rfl:ad39=ad41:=(by injection e41);replace hx41_0:=cb HB hx41_0;replace hx41_1:=cb HB hx41_1;replace hx41_2:=cb HB hx41_2;replace hx41_3:=cb HB hx41_3;replace hx41_4:=cb HB hx41_4;replace p41:=eq_true p41;replace q41:=eq_true q41;refine sta 8 (hca (cb HB hw41_0) (hca (cb HB hw41_1) (hca (cb HB hw41_2) (hca (cb HB hw41_3) (hc (cb HB hw41_4)))))) (fun hHeld=>?_);refine with_tabW laws_heldOutS.tab10 laws_heldOutS.bits10 (fun HT_ HW_=>?_)
         generalize w17.drew=w18 at HB hx41_0 hx41_1 hx41_2 hx41_3 hx41_4 hHeld ⊢
         refine pA 0 31 HT_ ?_;refine pA 1 32 HT_ ?_;refine pA 2 33 HT_ ?_;refine pA 3 34 HT_ ?_;refine pA 5 36 HT_ ?_;refine tA 4 35 HT_ HW_ hHeld ?_;refine oA 6 37 HT_ (fun K hK=>?_);refine gA Tryz.func75 #[.int .i64 (wrap64 ((wrap64 (x1_1+1))+1))] ?_;(with_reducible refine (laws_markText.calls k1 (wrap64 ((wrap64 (x1_1+1))+1)) t46 _ A8.out).mono ?_);rintro e w19 ⟨rfl,hb⟩;refine ⟨_,rfl,?_⟩;replace HB:=bq HB hb;(try clear hb);(try clear hb2);(try clear hk);(try clear hi);refine hK.out _ _ (hca (cb HB hw41_0) (hca (cb HB hw41_1) (hca (cb HB hw41_2) (hca (cb HB hw41_3) (hc (cb HB hw41_4)))))).out (fun hHeld=>?_);clear hK K;refine nA 37 ?_;refine pA 7 38 HT_ ?_;refine done_ (done_of HT_.out (by kernel_rfl)) ?_;have p43:0≤(x5_1:Int):=oa;have q43:x5_1<(l0.length:Int):=oa;obtain ⟨ad43,e43,hx43_0,hx43_1,hx43_2,hx43_3,hx43_4⟩:=at_T102 HR0.out x5_1 p43 q43;obtain rfl:ad39=ad43:=(by injection e43);replace hx43_0:=cb HB hx43_0;replace hx43_1:=cb HB hx43_1;replace hx43_2:=cb HB hx43_2;replace hx43_3:=cb HB hx43_3;replace hx43_4:=cb HB hx43_4;replace p43:=eq_true p43;replace q43:=eq_true q43;have p44:0≤(x5_1:Int):=oa;have q44:x5_1<(l0.length:Int):=oa;obtain ⟨ad44,e44,hx44_0,hx44_1,hx44_2,hx44_3,hx44_4⟩:=at_T102 HR0.out x5_1 p44 q44;obtain rfl:ad39=ad44:=(by injection e44);replace hx44_0:=cb HB hx44_0;replace hx44_1:=cb HB hx44_1;replace hx44_2:=cb HB hx44_2;replace hx44_3:=cb HB hx44_3;replace hx44_4:=cb HB hx44_4;replace p44:=eq_true p44;replace q44:=eq_true q44
         try go_wp2
         go_ret
         exact ⟨ff,bs HB⟩
       ·intro c10 c10b0 c10b1 H;obtain rfl:=si H
        try go_wp2
        replace HB:=am (below_drew1 HB.out);have p39:0≤(x5_1:Int):=oa;have q39:x5_1<(l0.length:Int):=oa;obtain ⟨ad39,e39,hx39_0,hx39_1,hx39_2,hx39_3,hx39_4⟩:=at_T102 HR0.out x5_1 p39 q39;have hw39_4:=hx39_4;have hw39_3:=hx39_3;have hw39_2:=hx39_2;have hw39_1:=hx39_1;have hw39_0:=hx39_0
        cases e39
        replace hx39_0:=cb HB hx39_0;replace hx39_1:=cb HB hx39_1;replace hx39_2:=cb HB hx39_2;replace hx39_3:=cb HB hx39_3;replace hx39_4:=cb HB hx39_4;replace p39:=eq_true p39;replace q39:=eq_true q39;refine sta 8 (hca (cb HB hw39_0) (hca (cb HB hw39_1) (hca (cb HB hw39_2) (hca (cb HB hw39_3) (hc (cb HB hw39_4)))))) (fun hHeld=>?_);refine with_tabW laws_heldOutS.tab4 laws_heldOutS.bits4 (fun HT_ HW_=>?_)
        generalize wr.drew=w20 at HB hx39_0 hx39_1 hx39_2 hx39_3 hx39_4 hHeld ⊢
        refine pA 0 12 HT_ ?_;refine pA 1 13 HT_ ?_;refine pA 2 14 HT_ ?_;refine pA 3 15 HT_ ?_;refine pA 5 17 HT_ ?_;refine tA 4 16 HT_ HW_ hHeld ?_;refine oA 6 18 HT_ (fun K hK=>?_);refine gA Tryz.func75 #[.int .i64 x1_1] ?_;(with_reducible refine (laws_markText.calls k1 x1_1 t45 _ A5.out).mono ?_);rintro e w21 ⟨rfl,hb⟩;refine ⟨_,rfl,?_⟩;replace HB:=bq HB hb;(try clear hb);(try clear hb2);(try clear hk);(try clear hi);refine hK.out _ _ (hca (cb HB hw39_0) (hca (cb HB hw39_1) (hca (cb HB hw39_2) (hca (cb HB hw39_3) (hc (cb HB hw39_4)))))).out (fun hHeld=>?_);clear hK K;refine nA 18 ?_;refine pA 7 19 HT_ ?_;refine done_ (done_of HT_.out (by kernel_rfl)) ?_;have p42:0≤(x5_1:Int):=oa;have q42:x5_1<(l0.length:Int):=oa;obtain ⟨ad42,e42,hx42_0,hx42_1,hx42_2,hx42_3,hx42_4⟩:=at_T102 HR0.out x5_1 p42 q42;obtain rfl:ad39=ad42:=(by injection e42);replace hx42_0:=cb HB hx42_0;replace hx42_1:=cb HB hx42_1;replace hx42_2:=cb HB hx42_2;replace hx42_3:=cb HB hx42_3;replace hx42_4:=cb HB hx42_4;replace p42:=eq_true p42;replace q42:=eq_true q42
        try go_wp2
        replace HB:=am (below_drew1 HB.out);have p41:0≤(x5_1:Int):=oa;have q41:x5_1<(l0.length:Int):=oa;obtain ⟨ad41,e41,hx41_0,hx41_1,hx41_2,hx41_3,hx41_4⟩:=at_T102 HR0.out x5_1 p41 q41;have hw41_4:=hx41_4;have hw41_3:=hx41_3;have hw41_2:=hx41_2;have hw41_1:=hx41_1;have hw41_0:=hx41_0;obtain rfl:ad39=ad41:=(by injection e41);replace hx41_0:=cb HB hx41_0;replace hx41_1:=cb HB hx41_1;replace hx41_2:=cb HB hx41_2;replace hx41_3:=cb HB hx41_3;replace hx41_4:=cb HB hx41_4;replace p41:=eq_true p41;replace q41:=eq_true q41;refine sta 8 (hca (cb HB hw41_0) (hca (cb HB hw41_1) (hca (cb HB hw41_2) (hca (cb HB hw41_3) (hc (cb HB hw41_4)))))) (fun hHeld=>?_);refine with_tabW laws_heldOutS.tab10 laws_heldOutS.bits10 (fun HT_ HW_=>?_)
        generalize w21.drew=w22 at HB hx41_0 hx41_1 hx41_2 hx41_3 hx41_4 hHeld ⊢
        refine pA 0 31 HT_ ?_;refine pA 1 32 HT_ ?_;refine pA 2 33 HT_ ?_;refine pA 3 34 HT_ ?_;refine pA 5 36 HT_ ?_;refine tA 4 35 HT_ HW_ hHeld ?_;refine oA 6 37 HT_ (fun K hK=>?_);refine gA Tryz.func75 #[.int .i64 (wrap64 ((wrap64 (x1_1+1))+1))] ?_;(with_reducible refine (laws_markText.calls k1 (wrap64 ((wrap64 (x1_1+1))+1)) t46 _ A8.out).mono ?_);rintro e w23 ⟨rfl,hb⟩;refine ⟨_,rfl,?_⟩;replace HB:=bq HB hb;(try clear hb);(try clear hb2);(try clear hk);(try clear hi);refine hK.out _ _ (hca (cb HB hw41_0) (hca (cb HB hw41_1) (hca (cb HB hw41_2) (hca (cb HB hw41_3) (hc (cb HB hw41_4)))))).out (fun hHeld=>?_);clear hK K;refine nA 37 ?_;refine pA 7 38 HT_ ?_;refine done_ (done_of HT_.out (by kernel_rfl)) ?_;have p43:0≤(x5_1:Int):=oa;have q43:x5_1<(l0.length:Int):=oa;obtain ⟨ad43,e43,hx43_0,hx43_1,hx43_2,hx43_3,hx43_4⟩:=at_T102 HR0.out x5_1 p43 q43;obtain rfl:ad39=ad43:=(by injection e43);replace hx43_0:=cb HB hx43_0;replace hx43_1:=cb HB hx43_1;replace hx43_2:=cb HB hx43_2;replace hx43_3:=cb HB hx43_3;replace hx43_4:=cb HB hx43_4;replace p43:=eq_true p43;replace q43:=eq_true q43
        try go_wp2
        go_ret
        exact ⟨ff,bs HB⟩
      ·intro c9 c9b0 c9b1 H;obtain rfl:=si H
       try go_wp2
       replace HB:=am (below_drew1 HB.out);have p39:0≤(x5_1:Int):=oa;have q39:x5_1<(l0.length:Int):=oa;obtain ⟨ad39,e39,hx39_0,hx39_1,hx39_2,hx39_3,hx39_4⟩:=at_T102 HR0.out x5_1 p39 q39;have hw39_4:=hx39_4;have hw39_3:=hx39_3;have hw39_2:=hx39_2;have hw39_1:=hx39_1;have hw39_0:=hx39_0
       cases e39
       replace hx39_0:=cb HB hx39_0;replace hx39_1:=cb HB hx39_1;replace hx39_2:=cb HB hx39_2;replace hx39_3:=cb HB hx39_3;replace hx39_4:=cb HB hx39_4;replace p39:=eq_true p39;replace q39:=eq_true q39;refine sta 8 (hca (cb HB hw39_0) (hca (cb HB hw39_1) (hca (cb HB hw39_2) (hca (cb HB hw39_3) (hc (cb HB hw39_4)))))) (fun hHeld=>?_);refine with_tabW laws_heldOutS.tab4 laws_heldOutS.bits4 (fun HT_ HW_=>?_)
       generalize wr.drew=w24 at HB hx39_0 hx39_1 hx39_2 hx39_3 hx39_4 hHeld ⊢
       refine pA 0 12 HT_ ?_;refine pA 1 13 HT_ ?_;refine pA 2 14 HT_ ?_;refine pA 3 15 HT_ ?_;refine pA 5 17 HT_ ?_;refine tA 4 16 HT_ HW_ hHeld ?_;refine oA 6 18 HT_ (fun K hK=>?_);refine gA Tryz.func75 #[.int .i64 x1_1] ?_;(with_reducible refine (laws_markText.calls k1 x1_1 t45 _ A5.out).mono ?_);rintro e w25 ⟨rfl,hb⟩;refine ⟨_,rfl,?_⟩;replace HB:=bq HB hb;(try clear hb);(try clear hb2);(try clear hk);(try clear hi);refine hK.out _ _ (hca (cb HB hw39_0) (hca (cb HB hw39_1) (hca (cb HB hw39_2) (hca (cb HB hw39_3) (hc (cb HB hw39_4)))))).out (fun hHeld=>?_);clear hK K;refine nA 18 ?_;refine pA 7 19 HT_ ?_;refine done_ (done_of HT_.out (by kernel_rfl)) ?_;have p42:0≤(x5_1:Int):=oa;have q42:x5_1<(l0.length:Int):=oa;obtain ⟨ad42,e42,hx42_0,hx42_1,hx42_2,hx42_3,hx42_4⟩:=at_T102 HR0.out x5_1 p42 q42;obtain rfl:ad39=ad42:=(by injection e42);replace hx42_0:=cb HB hx42_0;replace hx42_1:=cb HB hx42_1;replace hx42_2:=cb HB hx42_2;replace hx42_3:=cb HB hx42_3;replace hx42_4:=cb HB hx42_4;replace p42:=eq_true p42;replace q42:=eq_true q42
       try go_wp2
       replace HB:=am (below_drew1 HB.out);have p41:0≤(x5_1:Int):=oa;have q41:x5_1<(l0.length:Int):=oa;obtain ⟨ad41,e41,hx41_0,hx41_1,hx41_2,hx41_3,hx41_4⟩:=at_T102 HR0.out x5_1 p41 q41;have hw41_4:=hx41_4;have hw41_3:=hx41_3;have hw41_2:=hx41_2;have hw41_1:=hx41_1;have hw41_0:=hx41_0;obtain rfl:ad39=ad41:=(by injection e41);replace hx41_0:=cb HB hx41_0;replace hx41_1:=cb HB hx41_1;replace hx41_2:=cb HB hx41_2;replace hx41_3:=cb HB hx41_3;replace hx41_4:=cb HB hx41_4;replace p41:=eq_true p41;replace q41:=eq_true q41;refine sta 8 (hca (cb HB hw41_0) (hca (cb HB hw41_1) (hca (cb HB hw41_2) (hca (cb HB hw41_3) (hc (cb HB hw41_4)))))) (fun hHeld=>?_);refine with_tabW laws_heldOutS.tab10 laws_heldOutS.bits10 (fun HT_ HW_=>?_)
       generalize w25.drew=w26 at HB hx41_0 hx41_1 hx41_2 hx41_3 hx41_4 hHeld ⊢
       refine pA 0 31 HT_ ?_;refine pA 1 32 HT_ ?_;refine pA 2 33 HT_ ?_;refine pA 3 34 HT_ ?_;refine pA 5 36 HT_ ?_;refine tA 4 35 HT_ HW_ hHeld ?_;refine oA 6 37 HT_ (fun K hK=>?_);refine gA Tryz.func75 #[.int .i64 (wrap64 ((wrap64 (x1_1+1))+1))] ?_;(with_reducible refine (laws_markText.calls k1 (wrap64 ((wrap64 (x1_1+1))+1)) t46 _ A8.out).mono ?_);rintro e w27 ⟨rfl,hb⟩;refine ⟨_,rfl,?_⟩;replace HB:=bq HB hb;(try clear hb);(try clear hb2);(try clear hk);(try clear hi);refine hK.out _ _ (hca (cb HB hw41_0) (hca (cb HB hw41_1) (hca (cb HB hw41_2) (hca (cb HB hw41_3) (hc (cb HB hw41_4)))))).out (fun hHeld=>?_);clear hK K;refine nA 37 ?_;refine pA 7 38 HT_ ?_;refine done_ (done_of HT_.out (by kernel_rfl)) ?_
       try go_wp2
       go_ret
       exact ⟨ff,bs HB⟩
     ·intro c7 c7b0 c7b1 H;obtain rfl:=si H
      try go_wp2
      replace HB:=am (below_drew1 HB.out);have p39:0≤(x5_1:Int):=oa;have q39:x5_1<(l0.length:Int):=oa;obtain ⟨ad39,e39,hx39_0,hx39_1,hx39_2,hx39_3,hx39_4⟩:=at_T102 HR0.out x5_1 p39 q39;have hw39_4:=hx39_4;have hw39_3:=hx39_3;have hw39_2:=hx39_2;have hw39_1:=hx39_1;have hw39_0:=hx39_0
      cases e39
      replace hx39_0:=cb HB hx39_0;replace hx39_1:=cb HB hx39_1;replace hx39_2:=cb HB hx39_2;replace hx39_3:=cb HB hx39_3;replace hx39_4:=cb HB hx39_4;replace p39:=eq_true p39;replace q39:=eq_true q39;refine sta 8 (hca (cb HB hw39_0) (hca (cb HB hw39_1) (hca (cb HB hw39_2) (hca (cb HB hw39_3) (hc (cb HB hw39_4)))))) (fun hHeld=>?_);refine with_tabW laws_heldOutS.tab4 laws_heldOutS.bits4 (fun HT_ HW_=>?_)
      generalize wr.drew=w28 at HB hx39_0 hx39_1 hx39_2 hx39_3 hx39_4 hHeld ⊢
      refine pA 0 12 HT_ ?_;refine pA 1 13 HT_ ?_;refine pA 2 14 HT_ ?_;refine pA 3 15 HT_ ?_;refine pA 5 17 HT_ ?_;refine tA 4 16 HT_ HW_ hHeld ?_;refine oA 6 18 HT_ (fun K hK=>?_);refine gA Tryz.func75 #[.int .i64 x1_1] ?_;(with_reducible refine (laws_markText.calls k1 x1_1 t45 _ A5.out).mono ?_);rintro e w29 ⟨rfl,hb⟩;refine ⟨_,rfl,?_⟩;replace HB:=bq HB hb;(try clear hb);(try clear hb2);(try clear hk);(try clear hi);refine hK.out _ _ (hca (cb HB hw39_0) (hca (cb HB hw39_1) (hca (cb HB hw39_2) (hca (cb HB hw39_3) (hc (cb HB hw39_4)))))).out (fun hHeld=>?_);clear hK K;refine nA 18 ?_;refine pA 7 19 HT_ ?_;refine done_ (done_of HT_.out (by kernel_rfl)) ?_;have p42:0≤(x5_1:Int):=oa;have q42:x5_1<(l0.length:Int):=oa;obtain ⟨ad42,e42,hx42_0,hx42_1,hx42_2,hx42_3,hx42_4⟩:=at_T102 HR0.out x5_1 p42 q42;obtain rfl:ad39=ad42:=(by injection e42);replace hx42_0:=cb HB hx42_0;replace hx42_1:=cb HB hx42_1;replace hx42_2:=cb HB hx42_2;replace hx42_3:=cb HB hx42_3;replace hx42_4:=cb HB hx42_4;replace p42:=eq_true p42;replace q42:=eq_true q42
      try go_wp2
      go_ret
      exact ⟨ff,bs HB⟩
    ·intro c6 c6b0 c6b1 H;obtain rfl:=si H
     try go_wp2
     replace HB:=am (below_drew1 HB.out);have p39:0≤(x5_1:Int):=oa;have q39:x5_1<(l0.length:Int):=oa;obtain ⟨ad39,e39,hx39_0,hx39_1,hx39_2,hx39_3,hx39_4⟩:=at_T102 HR0.out x5_1 p39 q39;have hw39_4:=hx39_4;have hw39_3:=hx39_3;have hw39_2:=hx39_2;have hw39_1:=hx39_1;have hw39_0:=hx39_0
     cases e39
     replace hx39_0:=cb HB hx39_0;replace hx39_1:=cb HB hx39_1;replace hx39_2:=cb HB hx39_2;replace hx39_3:=cb HB hx39_3;replace hx39_4:=cb HB hx39_4;replace p39:=eq_true p39;replace q39:=eq_true q39;refine sta 8 (hca (cb HB hw39_0) (hca (cb HB hw39_1) (hca (cb HB hw39_2) (hca (cb HB hw39_3) (hc (cb HB hw39_4)))))) (fun hHeld=>?_);refine with_tabW laws_heldOutS.tab4 laws_heldOutS.bits4 (fun HT_ HW_=>?_)
     generalize wr.drew=w30 at HB hx39_0 hx39_1 hx39_2 hx39_3 hx39_4 hHeld ⊢
     refine pA 0 12 HT_ ?_;refine pA 1 13 HT_ ?_;refine pA 2 14 HT_ ?_;refine pA 3 15 HT_ ?_;refine pA 5 17 HT_ ?_;refine tA 4 16 HT_ HW_ hHeld ?_;refine oA 6 18 HT_ (fun K hK=>?_);refine gA Tryz.func75 #[.int .i64 x1_1] ?_;(with_reducible refine (laws_markText.calls k1 x1_1 t45 _ A5.out).mono ?_);rintro e w31 ⟨rfl,hb⟩;refine ⟨_,rfl,?_⟩;replace HB:=bq HB hb;(try clear hb);(try clear hb2);(try clear hk);(try clear hi);refine hK.out _ _ (hca (cb HB hw39_0) (hca (cb HB hw39_1) (hca (cb HB hw39_2) (hca (cb HB hw39_3) (hc (cb HB hw39_4)))))).out (fun hHeld=>?_);clear hK K;refine nA 18 ?_;refine pA 7 19 HT_ ?_;refine done_ (done_of HT_.out (by kernel_rfl)) ?_
     try go_wp2
     go_ret
     exact ⟨ff,bs HB⟩
   ·intro c3b0 H;obtain rfl:=si H
    go_wp2
    go_ret
    exact ⟨ff,bs HB⟩
def laws_heldSentS.T4:Bool × List (List Nat × List Nat):=(true,[([],[]),([],[]),([0,1],[0,1]),([2],[2]),([3],[3]),([],[]),([5],[5]),([4,6],[4,6])])
def laws_heldSentS.B4:List Nat:=[0,0,3,7,15,0,32,127]
theorem laws_heldSentS.tab4:rtab .any (opsOf Tryz.f41 4)=laws_heldSentS.T4:=by kernel_rfl
theorem laws_heldSentS.bits4:waitsOk laws_heldSentS.T4.2 laws_heldSentS.B4=true:=by kernel_rfl
def laws_heldSentS.T10:Bool × List (List Nat × List Nat):=(true,[([],[]),([],[]),([0,1],[0,1]),([2],[2]),([3],[3]),([],[]),([5],[5]),([4,6],[4,6])])
def laws_heldSentS.B10:List Nat:=[0,0,3,7,15,0,32,127]
theorem laws_heldSentS.tab10:rtab .any (opsOf Tryz.f41 10)=laws_heldSentS.T10:=by kernel_rfl
theorem laws_heldSentS.bits10:waitsOk laws_heldSentS.T10.2 laws_heldSentS.B10=true:=by kernel_rfl
theorem laws_heldSentS.calls (k:Nat) (A0:Option Addr) (c0:Nat) (l0:List (S104)) (a1:Int) (r:Int) (w:World) (hr0:Kd.C k104 w A0 l0.length l0) (hc0:l0.length≤c0) (H:laws_heldSentS.f k l0 a1=some r) :
  Calls Tryz.prog 41 #[.slice A0 l0.length c0,.int .i64 a1] w fun e w'=>e=.returned (.int .i64 r)∧Below w.heap.size w w':=by
 have HR0:=am hr0;have HC0:=am hc0;clear hr0 hc0;have HB:=am (Below.refl w.heap.size w);unfold laws_heldSentS.f at H;have H':=am H;clear H
 go_in
 go_wp2
 go_loopg [1,5] k (fun kq v1 v5 w'=>∃ (x1_1:Int) (x5_1:Int),v1=.int .i64 x1_1∧v5=.int .i64 x5_1∧Aside0 (laws_heldSentS.l0 kq l0 x1_1 x5_1=some r)∧Aside0 (kq≤k)∧Aside0 (Below w.heap.size w w'))
 case atStart=>exact ⟨(a1),(0),fg,fg,H',⟨Nat.le_refl _⟩,⟨bs HB⟩⟩
 case round =>
  clear H'
  obtain ⟨x1_1,x5_1,rfl,rfl,HA,HK1,HB⟩:=hrel
  cases gk with
  | zero=>exact absurd HA.out (by simp [laws_heldSentS.l0])
  | succ k1 =>
   have H:=HA.out;clear HA;simp only [laws_heldSentS.l0] at H
   revert H;refine id2 ?_ ?_
   ·intro c3b0 H
    revert H;refine id1 ?_
    intro c4b0 H;replace H:=bo H;obtain ⟨t25,A5,H⟩:=H
    revert H;refine ie2 ?_ ?_
    ·intro c6b0 c6b1 H
     revert H;refine ie2 ?_ ?_
     ·intro c7b0 c7b1 H;replace H:=bo H;obtain ⟨t26,A8,H⟩:=H
      revert H;refine ie2 ?_ ?_
      ·intro c9b0 c9b1 H;have H':=am H;clear H
       try go_wp2
       replace HB:=am (below_drew1 HB.out);have p22:0≤(x5_1:Int):=oa;have q22:x5_1<(l0.length:Int):=oa;obtain ⟨ad22,e22,hx22_0,hx22_1,hx22_2⟩:=at_T104 HR0.out x5_1 p22 q22;have hw22_2:=hx22_2;have hw22_1:=hx22_1;have hw22_0:=hx22_0
       cases e22
       replace hx22_0:=cb HB hx22_0;replace hx22_1:=cb HB hx22_1;replace hx22_2:=cb HB hx22_2;replace p22:=eq_true p22;replace q22:=eq_true q22;refine sta 8 (hca (cb HB hw22_0) (hca (cb HB hw22_1) (hc (cb HB hw22_2)))) (fun hHeld=>?_);refine with_tabW laws_heldSentS.tab4 laws_heldSentS.bits4 (fun HT_ HW_=>?_)
       generalize wr.drew=w10 at HB hx22_0 hx22_1 hx22_2 hHeld ⊢
       refine pA 0 12 HT_ ?_;refine pA 1 13 HT_ ?_;refine pA 2 14 HT_ ?_;refine pA 3 15 HT_ ?_;refine pA 5 17 HT_ ?_;refine tA 4 16 HT_ HW_ hHeld ?_;refine oA 6 18 HT_ (fun K hK=>?_);refine gA Tryz.func75 #[.int .i64 x1_1] ?_;(with_reducible refine (laws_markText.calls k1 x1_1 t25 _ A5.out).mono ?_);rintro e w11 ⟨rfl,hb⟩;refine ⟨_,rfl,?_⟩;replace HB:=bq HB hb;(try clear hb);(try clear hb2);(try clear hk);(try clear hi);refine hK.out _ _ (hca (cb HB hw22_0) (hca (cb HB hw22_1) (hc (cb HB hw22_2)))).out (fun hHeld=>?_);clear hK K;refine nA 18 ?_;refine pA 7 19 HT_ ?_;refine done_ (done_of HT_.out (by kernel_rfl)) ?_;have p24:0≤(x5_1:Int):=oa;have q24:x5_1<(l0.length:Int):=oa;obtain ⟨ad24,e24,hx24_0,hx24_1,hx24_2⟩:=at_T104 HR0.out x5_1 p24 q24;obtain rfl:ad22=ad24:=(by injection e24);replace hx24_0:=cb HB hx24_0;replace hx24_1:=cb HB hx24_1;replace hx24_2:=cb HB hx24_2;replace p24:=eq_true p24;replace q24:=eq_true q24
       try go_wp2
       replace HB:=am (below_drew1 HB.out);have p23:0≤(x5_1:Int):=oa;have q23:x5_1<(l0.length:Int):=oa;obtain ⟨ad23,e23,hx23_0,hx23_1,hx23_2⟩:=at_T104 HR0.out x5_1 p23 q23;have hw23_2:=hx23_2;have hw23_1:=hx23_1;have hw23_0:=hx23_0;obtain rfl:ad22=ad23:=(by injection e23);replace hx23_0:=cb HB hx23_0;replace hx23_1:=cb HB hx23_1;replace hx23_2:=cb HB hx23_2;replace p23:=eq_true p23;replace q23:=eq_true q23;refine sta 8 (hca (cb HB hw23_0) (hca (cb HB hw23_1) (hc (cb HB hw23_2)))) (fun hHeld=>?_);refine with_tabW laws_heldSentS.tab10 laws_heldSentS.bits10 (fun HT_ HW_=>?_)
       generalize w11.drew=w12 at HB hx23_0 hx23_1 hx23_2 hHeld ⊢
       refine pA 0 31 HT_ ?_;refine pA 1 32 HT_ ?_;refine pA 2 33 HT_ ?_;refine pA 3 34 HT_ ?_;refine pA 5 36 HT_ ?_;refine tA 4 35 HT_ HW_ hHeld ?_;refine oA 6 37 HT_ (fun K hK=>?_);refine gA Tryz.func75 #[.int .i64 (wrap64 ((wrap64 (x1_1+1))+1))] ?_;(with_reducible refine (laws_markText.calls k1 (wrap64 ((wrap64 (x1_1+1))+1)) t26 _ A8.out).mono ?_);rintro e w13 ⟨rfl,hb⟩;refine ⟨_,rfl,?_⟩;replace HB:=bq HB hb;(try clear hb);(try clear hb2);(try clear hk);(try clear hi);refine hK.out _ _ (hca (cb HB hw23_0) (hca (cb HB hw23_1) (hc (cb HB hw23_2)))).out (fun hHeld=>?_);clear hK K;refine nA 37 ?_;refine pA 7 38 HT_ ?_;refine done_ (done_of HT_.out (by kernel_rfl)) ?_
       try go_wp2
       go_roundg k1
       case measure=>have:=HK1.out;omega
       case rel=>exact ⟨(wrap64 ((wrap64 ((wrap64 (x1_1+1))+1))+1)),(wrap64 (x5_1+1)),fg,fg,H',⟨by have:=HK1.out;omega⟩,⟨bs HB⟩⟩
      ·intro c9 c9b0 c9b1 H;obtain rfl:=si H
       try go_wp2
       replace HB:=am (below_drew1 HB.out);have p22:0≤(x5_1:Int):=oa;have q22:x5_1<(l0.length:Int):=oa;obtain ⟨ad22,e22,hx22_0,hx22_1,hx22_2⟩:=at_T104 HR0.out x5_1 p22 q22;have hw22_2:=hx22_2;have hw22_1:=hx22_1;have hw22_0:=hx22_0
       cases e22
       replace hx22_0:=cb HB hx22_0;replace hx22_1:=cb HB hx22_1;replace hx22_2:=cb HB hx22_2;replace p22:=eq_true p22;replace q22:=eq_true q22;refine sta 8 (hca (cb HB hw22_0) (hca (cb HB hw22_1) (hc (cb HB hw22_2)))) (fun hHeld=>?_);refine with_tabW laws_heldSentS.tab4 laws_heldSentS.bits4 (fun HT_ HW_=>?_)
       generalize wr.drew=w14 at HB hx22_0 hx22_1 hx22_2 hHeld ⊢
       refine pA 0 12 HT_ ?_;refine pA 1 13 HT_ ?_;refine pA 2 14 HT_ ?_;refine pA 3 15 HT_ ?_;refine pA 5 17 HT_ ?_;refine tA 4 16 HT_ HW_ hHeld ?_;refine oA 6 18 HT_ (fun K hK=>?_);refine gA Tryz.func75 #[.int .i64 x1_1] ?_;(with_reducible refine (laws_markText.calls k1 x1_1 t25 _ A5.out).mono ?_);rintro e w15 ⟨rfl,hb⟩;refine ⟨_,rfl,?_⟩;replace HB:=bq HB hb;(try clear hb);(try clear hb2);(try clear hk);(try clear hi);refine hK.out _ _ (hca (cb HB hw22_0) (hca (cb HB hw22_1) (hc (cb HB hw22_2)))).out (fun hHeld=>?_);clear hK K;refine nA 18 ?_;refine pA 7 19 HT_ ?_;refine done_ (done_of HT_.out (by kernel_rfl)) ?_;have p24:0≤(x5_1:Int):=oa;have q24:x5_1<(l0.length:Int):=oa;obtain ⟨ad24,e24,hx24_0,hx24_1,hx24_2⟩:=at_T104 HR0.out x5_1 p24 q24;obtain rfl:ad22=ad24:=(by injection e24);replace hx24_0:=cb HB hx24_0;replace hx24_1:=cb HB hx24_1;replace hx24_2:=cb HB hx24_2;replace p24:=eq_true p24;replace q24:=eq_true q24
       try go_wp2
       replace HB:=am (below_drew1 HB.out);have p23:0≤(x5_1:Int):=oa;have q23:x5_1<(l0.length:Int):=oa;obtain ⟨ad23,e23,hx23_0,hx23_1,hx23_2⟩:=at_T104 HR0.out x5_1 p23 q23;have hw23_2:=hx23_2;have hw23_1:=hx23_1;have hw23_0:=hx23_0;obtain rfl:ad22=ad23:=(by injection e23);replace hx23_0:=cb HB hx23_0;replace hx23_1:=cb HB hx23_1;replace hx23_2:=cb HB hx23_2;replace p23:=eq_true p23;replace q23:=eq_true q23;refine sta 8 (hca (cb HB hw23_0) (hca (cb HB hw23_1) (hc (cb HB hw23_2)))) (fun hHeld=>?_);refine with_tabW laws_heldSentS.tab10 laws_heldSentS.bits10 (fun HT_ HW_=>?_)
       generalize w15.drew=w16 at HB hx23_0 hx23_1 hx23_2 hHeld ⊢
       refine pA 0 31 HT_ ?_;refine pA 1 32 HT_ ?_;refine pA 2 33 HT_ ?_;refine pA 3 34 HT_ ?_;refine pA 5 36 HT_ ?_;refine tA 4 35 HT_ HW_ hHeld ?_;refine oA 6 37 HT_ (fun K hK=>?_);refine gA Tryz.func75 #[.int .i64 (wrap64 ((wrap64 (x1_1+1))+1))] ?_;(with_reducible refine (laws_markText.calls k1 (wrap64 ((wrap64 (x1_1+1))+1)) t26 _ A8.out).mono ?_);rintro e w17 ⟨rfl,hb⟩;refine ⟨_,rfl,?_⟩;replace HB:=bq HB hb;(try clear hb);(try clear hb2);(try clear hk);(try clear hi);refine hK.out _ _ (hca (cb HB hw23_0) (hca (cb HB hw23_1) (hc (cb HB hw23_2)))).out (fun hHeld=>?_);clear hK K;refine nA 37 ?_;refine pA 7 38 HT_ ?_;refine done_ (done_of HT_.out (by kernel_rfl)) ?_
       try go_wp2
       go_ret
       exact ⟨ff,bs HB⟩
     ·intro c7 c7b0 c7b1 H;obtain rfl:=si H
      try go_wp2
      replace HB:=am (below_drew1 HB.out);have p22:0≤(x5_1:Int):=oa;have q22:x5_1<(l0.length:Int):=oa;obtain ⟨ad22,e22,hx22_0,hx22_1,hx22_2⟩:=at_T104 HR0.out x5_1 p22 q22;have hw22_2:=hx22_2;have hw22_1:=hx22_1;have hw22_0:=hx22_0
      cases e22
      replace hx22_0:=cb HB hx22_0;replace hx22_1:=cb HB hx22_1;replace hx22_2:=cb HB hx22_2;replace p22:=eq_true p22;replace q22:=eq_true q22;refine sta 8 (hca (cb HB hw22_0) (hca (cb HB hw22_1) (hc (cb HB hw22_2)))) (fun hHeld=>?_);refine with_tabW laws_heldSentS.tab4 laws_heldSentS.bits4 (fun HT_ HW_=>?_)
      generalize wr.drew=w18 at HB hx22_0 hx22_1 hx22_2 hHeld ⊢
      refine pA 0 12 HT_ ?_;refine pA 1 13 HT_ ?_;refine pA 2 14 HT_ ?_;refine pA 3 15 HT_ ?_;refine pA 5 17 HT_ ?_;refine tA 4 16 HT_ HW_ hHeld ?_;refine oA 6 18 HT_ (fun K hK=>?_);refine gA Tryz.func75 #[.int .i64 x1_1] ?_;(with_reducible refine (laws_markText.calls k1 x1_1 t25 _ A5.out).mono ?_);rintro e w19 ⟨rfl,hb⟩;refine ⟨_,rfl,?_⟩;replace HB:=bq HB hb;(try clear hb);(try clear hb2);(try clear hk);(try clear hi);refine hK.out _ _ (hca (cb HB hw22_0) (hca (cb HB hw22_1) (hc (cb HB hw22_2)))).out (fun hHeld=>?_);clear hK K;refine nA 18 ?_;refine pA 7 19 HT_ ?_;refine done_ (done_of HT_.out (by kernel_rfl)) ?_;have p24:0≤(x5_1:Int):=oa;have q24:x5_1<(l0.length:Int):=oa;obtain ⟨ad24,e24,hx24_0,hx24_1,hx24_2⟩:=at_T104 HR0.out x5_1 p24 q24;obtain rfl:ad22=ad24:=(by injection e24);replace hx24_0:=cb HB hx24_0;replace hx24_1:=cb HB hx24_1;replace hx24_2:=cb HB hx24_2;replace p24:=eq_true p24;replace q24:=eq_true q24
      try go_wp2
      go_ret
      exact ⟨ff,bs HB⟩
    ·intro c6 c6b0 c6b1 H;obtain rfl:=si H
     try go_wp2
     replace HB:=am (below_drew1 HB.out);have p22:0≤(x5_1:Int):=oa;have q22:x5_1<(l0.length:Int):=oa;obtain ⟨ad22,e22,hx22_0,hx22_1,hx22_2⟩:=at_T104 HR0.out x5_1 p22 q22;have hw22_2:=hx22_2;have hw22_1:=hx22_1;have hw22_0:=hx22_0
     cases e22
     replace hx22_0:=cb HB hx22_0;replace hx22_1:=cb HB hx22_1;replace hx22_2:=cb HB hx22_2;replace p22:=eq_true p22;replace q22:=eq_true q22;refine sta 8 (hca (cb HB hw22_0) (hca (cb HB hw22_1) (hc (cb HB hw22_2)))) (fun hHeld=>?_);refine with_tabW laws_heldSentS.tab4 laws_heldSentS.bits4 (fun HT_ HW_=>?_)
     generalize wr.drew=w20 at HB hx22_0 hx22_1 hx22_2 hHeld ⊢
     refine pA 0 12 HT_ ?_;refine pA 1 13 HT_ ?_;refine pA 2 14 HT_ ?_;refine pA 3 15 HT_ ?_;refine pA 5 17 HT_ ?_;refine tA 4 16 HT_ HW_ hHeld ?_;refine oA 6 18 HT_ (fun K hK=>?_);refine gA Tryz.func75 #[.int .i64 x1_1] ?_;(with_reducible refine (laws_markText.calls k1 x1_1 t25 _ A5.out).mono ?_);rintro e w21 ⟨rfl,hb⟩;refine ⟨_,rfl,?_⟩;replace HB:=bq HB hb;(try clear hb);(try clear hb2);(try clear hk);(try clear hi);refine hK.out _ _ (hca (cb HB hw22_0) (hca (cb HB hw22_1) (hc (cb HB hw22_2)))).out (fun hHeld=>?_);clear hK K;refine nA 18 ?_;refine pA 7 19 HT_ ?_;refine done_ (done_of HT_.out (by kernel_rfl)) ?_
     try go_wp2
     go_ret
     exact ⟨ff,bs HB⟩
   ·intro c3b0 H;obtain rfl:=si H
    go_wp2
    go_ret
    exact ⟨ff,bs HB⟩
theorem laws_heldOutboxOut.calls (k:Nat) (A0_0:Option Addr) (c0_0:Nat) (l0_0:List (S102)) (A0_1:Option Addr) (c0_1:Nat) (l0_1:List (S104)) (A0_2:Option Addr) (c0_2:Nat) (l0_2:List (S102)) (a0_3:Int) (a1:Int) (r:Int) (w:World) (hr0_0:Kd.C k102 w A0_0 l0_0.length l0_0) (hc0_0:l0_0.length≤c0_0) (hr0_1:Kd.C k104 w A0_1 l0_1.length l0_1) (hc0_1:l0_1.length≤c0_1) (hr0_2:Kd.C k102 w A0_2 l0_2.length l0_2) (hc0_2:l0_2.length≤c0_2) (H:laws_heldOutboxOut.f k l0_0 l0_1 l0_2 a0_3 a1=some r) :
  Calls Tryz.prog 12 #[.agg #[.slice A0_0 l0_0.length c0_0,.slice A0_1 l0_1.length c0_1,.slice A0_2 l0_2.length c0_2,.int .i64 a0_3],.int .i64 a1] w fun e w'=>e=.returned (.int .i64 r)∧Below w.heap.size w w':=by
 have hu36:=Tryz.underlying36;have HR0_0:=am hr0_0;have HC0_0:=am hc0_0;clear hr0_0 hc0_0;have HR0_1:=am hr0_1;have HC0_1:=am hc0_1;clear hr0_1 hc0_1;have HR0_2:=am hr0_2;have HC0_2:=am hc0_2;clear hr0_2 hc0_2;have HB:=am (Below.refl w.heap.size w);unfold laws_heldOutboxOut.f at H;replace H:=bo H;obtain ⟨t17,A3,H⟩:=H
 go_in
 try go_wp2_with (first|((with_reducible refine gate_dst (N:=2) rfl ?_);refine bz 2 (cs:=#[.slice A0_0 l0_0.length c0_0,.slice A0_1 l0_1.length c0_1,.slice A0_2 l0_2.length c0_2,.int .i64 a0_3]) (t:=36) HB ?_;clear HB;intro gb16 hg w4 BK16 GW16 hb HB;clear hb hg;have hcz5:=cf4 BK16))
 go_at_call 40;(with_reducible refine (laws_heldOutS.calls k _ _ l0_0 a1 t17 _ (Kd.C_below HR0_0.out (bs HB)) HC0_0.out A3.out).mono ?_);rintro e w6 ⟨rfl,hb⟩;replace BK16:=bb BK16 hb;replace HB:=bq HB hb;(try clear hb);(try clear hb2);(try clear hk);(try clear hi)
 revert H;refine id2 ?_ ?_
 ·intro c7b0 H;obtain rfl:=si H
  go_wp2
  go_ret
  exact ⟨ff,bs HB⟩
 ·intro c7b0 H;replace H:=bo H;obtain ⟨t18,A8,H⟩:=H;have hcz9:=cf4 BK16
  try go_wp2_with (fail)
  go_at_call 41;(with_reducible refine (laws_heldSentS.calls k _ _ l0_1 t17 t18 _ (Kd.C_below HR0_1.out (bs HB)) HC0_1.out A8.out).mono ?_);rintro e w10 ⟨rfl,hb⟩;replace BK16:=bb BK16 hb;replace HB:=bq HB hb;(try clear hb);(try clear hb2);(try clear hk);(try clear hi)
  revert H;refine id2 ?_ ?_
  ·intro c11b0 H;obtain rfl:=si H
   go_wp2
   go_ret
   exact ⟨ff,bs HB⟩
  ·intro c11b0 H;replace H:=bo H;obtain ⟨t19,A12,H⟩:=H;have hcz13:=cf4 BK16
   try go_wp2_with (fail)
   go_at_call 40;(with_reducible refine (laws_heldOutS.calls k _ _ l0_2 t18 t19 _ (Kd.C_below HR0_2.out (bs HB)) HC0_2.out A12.out).mono ?_);rintro e w14 ⟨rfl,hb⟩;replace BK16:=bb BK16 hb;replace HB:=bq HB hb;(try clear hb);(try clear hb2);(try clear hk);(try clear hi)
   revert H;refine id2 ?_ ?_
   ·intro c15b0 H;obtain rfl:=si H
    go_wp2
    go_ret
    exact ⟨ff,bs HB⟩
   ·intro c15b0 H;obtain rfl:=si H
    go_wp2
    go_ret
    exact ⟨ff,bs HB⟩
end Go.Proofs.YtkfcahggnpecjaaGreat.QG
