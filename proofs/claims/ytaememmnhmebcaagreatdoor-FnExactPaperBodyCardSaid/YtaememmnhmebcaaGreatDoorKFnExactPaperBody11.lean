-- Merged by a program of this session (wip/tool/pack.py) out of its own texts for this claim.
import Derived.Test.YtaememmnhmebcaaGreatDoorKFnExactPaperBody10
set_option maxHeartbeats 8000000
set_option maxRecDepth 100000
set_option linter.unusedSimpArgs false
set_option linter.unusedVariables false
namespace Go.Proofs.YtaememmnhmebcaaGreatDoor.QB
open Go.RowKit Go.Proofs.YtaememmnhmebcaaGreatDoorW.PrintWords Go.Proofs.YtaememmnhmebcaaGreatDoorW.PrintLast Go.Proofs.YtaememmnhmebcaaGreatDoorW.PrintMore
attribute [local go_sem] max2_int min2_int max_two min_two max_three min_three max_four min_four   -- for this text's walks alone
def spec_PaperOf.T4:Bool × List (List Nat × List Nat):=(true,[([],[]),([],[]),([1],[1]),([2],[2]),([3],[3]),([],[]),([5],[5]),([6],[6]),([7,4],[7]),([0,4,8],[0,4,8]),([],[]),([10,9,8,0,1,2,3,4,5,6,7,8,9,10],[9,10])])
def spec_PaperOf.B4:List Nat:=[0,0,2,6,14,0,32,96,254,511,0,2047]
theorem spec_PaperOf.tab4:rtab .any (opsOf Tryz.f31 4)=spec_PaperOf.T4:=by kernel_rfl
theorem spec_PaperOf.bits4:waitsOk spec_PaperOf.T4.2 spec_PaperOf.B4=true:=by kernel_rfl
def spec_PaperOf.T12:Bool × List (List Nat × List Nat):=(true,[([],[]),([0],[0]),([],[]),([],[]),([2,3],[2,3]),([4],[4]),([5],[5]),([6],[6]),([1,7,6],[1,7]),([0,1,2,3,4,5,6,7,8],[]),([9,8,8,0,1,2,3,4,5,6,7,8],[8,9])])
def spec_PaperOf.B12:List Nat:=[0,1,0,0,12,28,60,124,255,511,1023]
theorem spec_PaperOf.tab12:rtab .any (opsOf Tryz.f31 12)=spec_PaperOf.T12:=by kernel_rfl
theorem spec_PaperOf.bits12:waitsOk spec_PaperOf.T12.2 spec_PaperOf.B12=true:=by kernel_rfl
def spec_PaperOf.T22:Bool × List (List Nat × List Nat):=(true,[([],[]),([0],[0]),([],[]),([1,2],[1,2]),([3],[3]),([4],[4]),([],[]),([6],[6]),([5,7],[5,7])])
def spec_PaperOf.B22:List Nat:=[0,1,0,7,15,31,0,64,255]
theorem spec_PaperOf.tab22:rtab .any (opsOf Tryz.f31 22)=spec_PaperOf.T22:=by kernel_rfl
theorem spec_PaperOf.bits22:waitsOk spec_PaperOf.T22.2 spec_PaperOf.B22=true:=by kernel_rfl
def spec_PaperOf.T24:Bool × List (List Nat × List Nat):=(true,[([],[]),([],[]),([0,1],[0,1]),([],[]),([],[]),([3,4],[3,4]),([5],[5]),([2,6,2],[2,6]),([7],[7])])
def spec_PaperOf.B24:List Nat:=[0,0,3,0,0,24,56,127,255]
theorem spec_PaperOf.tab24:rtab .any (opsOf Tryz.f31 24)=spec_PaperOf.T24:=by kernel_rfl
theorem spec_PaperOf.bits24:waitsOk spec_PaperOf.T24.2 spec_PaperOf.B24=true:=by kernel_rfl
theorem spec_PaperOf.calls (k:Nat) (a0:Int) (A1:Option Addr) (c1:Nat) (l1:List (S46)) (r1:Int) (r2:ByteArray) (r3:ByteArray) (r4:Int) (r5:List ByteArray) (r6:List (S63)) (r7:Int) (r8:Int) (w:World) (hr1:Kd.C k46 w A1 l1.length l1) (hc1:l1.length≤c1) (H:spec_PaperOf.f k a0 l1=some (r1,r2,r3,r4,r5,r6,r7,r8)) :
  Calls Tryz.prog 31 #[.int .i64 a0,.slice A1 l1.length c1] w fun e w'=>∃ v4_ v5_:Value,e=.returned (.agg #[.int .i64 r1,.string r2,.string r3,.int .i64 r4,v4_,v5_,.int .i64 r7,.int .i64 r8])∧Kd.R Kd.string 9 w' w.heap.size (fun _=>True) v4_ r5∧Kd.R k63 63 w' w.heap.size (fun _=>True) v5_ r6∧Below w.heap.size w w':=by
 have hu57:=Tryz.underlying57;have hu67:=Tryz.underlying67;have hu46:=Tryz.underlying46;have hu31:=Tryz.underlying31;have hu63:=Tryz.underlying63;have HR1:=am hr1;have HC1:=am hc1;clear hr1 hc1;have HB:=am (Below.refl w.heap.size w);unfold spec_PaperOf.f at H;replace H:=bo H;obtain ⟨⟨t360,t361,t362⟩,A3,H⟩:=H;(try dsimp only at H)
 go_in
 try go_wp2_with (first|((with_reducible refine gate_dst (N:=4) rfl ?_);refine bz 4 (cs:=#[.int .i64 0,.string (⟨#[]⟩:ByteArray),.string (⟨#[]⟩:ByteArray),.int .i64 0,.slice none 0 0,.slice none 0 0,.int .i64 0,.int .i64 0]) (t:=57) HB ?_;clear HB;intro gb78 hg w4 BK78 GW78 hb HB;clear hb hg))
 go_at_call 54;(with_reducible refine (spec_TableCheck.calls k a0 _ _ l1 t360 t361 t362 _ (Kd.C_below HR1.out (bs HB)) HC1.out A3.out).mono ?_);rintro e w5 ⟨rfl,hb⟩;replace BK78:=bb BK78 hb;replace HB:=bq HB hb;(try clear hb);(try clear hb2);(try clear hk);(try clear hi)
 revert H;refine ie2 ?_ ?_
 ·intro c6b0 c6b1 H
  revert H;refine id1k ?_
  intro c7 c7b0 H;have c7b1:decide (0<l1.length)=true:=decide_eq_true (by omega);clear c7;replace H:=bo H;obtain ⟨t365,A8,H⟩:=H;replace H:=bo H;obtain ⟨t367,A9,H⟩:=H;replace H:=bo H;obtain ⟨t369,A10,H⟩:=H
  try go_wp2_with (first|((with_reducible refine gate_dst (N:=5) rfl ?_);refine bz 5 (cs:=#[.int .i64 0,.int .i64 0,.int .i64 0]) (t:=67) HB ?_;clear HB;intro gb94 hg w11 BK94 GW94 hb HB;have NB78_94:=na hg BK78;have NB94_78:=nc hg BK78;replace BK78:=bb BK78 hb;clear hb hg;have hnb12:=NB94_78.out;have hnc12:=NB78_94.out;have hcz13:=cf3 BK94))
  have n0_:=kz (((w11.setCell ⟨gb94,0,none⟩ (.int .i64 t360)).setCell ⟨gb94,1,none⟩ (.int .i64 t361)).setCell ⟨gb94,2,none⟩ (.int .i64 t362)) BK78;have n1_:Aside0 ((((w11.setCell ⟨gb94,0,none⟩ (.int .i64 t360)).setCell ⟨gb94,1,none⟩ (.int .i64 t361)).setCell ⟨gb94,2,none⟩ (.int .i64 t362)).heap[gb94]? = some (.cells #[.int .i64 t360,.int .i64 t361,.int .i64 t362] 67 (0,0))):=⟨kp BK94⟩;have n2_:Aside0 (Below w.heap.size w (((w11.setCell ⟨gb94,0,none⟩ (.int .i64 t360)).setCell ⟨gb94,1,none⟩ (.int .i64 t361)).setCell ⟨gb94,2,none⟩ (.int .i64 t362))):=⟨bs HB⟩;(try clear BK78);(try clear BK94);(try clear HB)
  generalize (((w11.setCell ⟨gb94,0,none⟩ (.int .i64 t360)).setCell ⟨gb94,1,none⟩ (.int .i64 t361)).setCell ⟨gb94,2,none⟩ (.int .i64 t362))=w14 at n0_ n1_ n2_ ⊢
  have BK78:=n0_;have BK94:=n1_;have HB:=n2_;clear n0_ n1_ n2_;replace BK78:=am (blk_drew BK78.out);replace BK94:=am (blk_drew BK94.out);replace HB:=am (below_drew1 HB.out);have p364:0≤(0:Int):=(by omega);have q364:0<(l1.length:Int):=oa;obtain ⟨ad364,A364_1,c364_1,e364,hx364_0,hx364_1,hl364_1,hi364_1⟩:=at_T46 HR1.out 0 p364 q364;have hw364_1:=hx364_1
  (try rw [show ((0:Int)).toNat=0 from rfl] at hw364_1)
  (try rw [show 0 * 2=0 from rfl] at hw364_1)
  (try rw [Addr.add_zero'] at hw364_1)
  have hw364_0:=hx364_0
  (try rw [show ((0:Int)).toNat=0 from rfl] at hw364_0)
  (try rw [show 0 * 2=0 from rfl] at hw364_0)
  (try rw [Addr.add_zero'] at hw364_0)
  cases e364
  have qi364:(0<l1.length)=True:=eq_true (by omega)
  (try rw [show ((0:Int)).toNat=0 from rfl] at hx364_0)
  (try rw [show 0 * 2=0 from rfl] at hx364_0)
  (try rw [Addr.add_zero'] at hx364_0)
  (try rw [show ((0:Int)).toNat=0 from rfl] at hx364_1)
  (try rw [show 0 * 2=0 from rfl] at hx364_1)
  (try rw [Addr.add_zero'] at hx364_1)
  replace hx364_0:=cb HB hx364_0;replace hx364_1:=cb HB hx364_1;have HR364_1:=am hi364_1;have HC364_1:=am hl364_1;clear hi364_1 hl364_1;replace p364:=eq_true p364;replace q364:=eq_true q364;have p366:0≤(0:Int):=(by omega);have q366:0<(l1.length:Int):=oa;obtain ⟨ad366,A366_1,c366_1,e366,hx366_0,hx366_1,hl366_1,hi366_1⟩:=at_T46 HR1.out 0 p366 q366;have hw366_1:=hx366_1
  (try rw [show ((0:Int)).toNat=0 from rfl] at hw366_1)
  (try rw [show 0 * 2=0 from rfl] at hw366_1)
  (try rw [Addr.add_zero'] at hw366_1)
  have hw366_0:=hx366_0
  (try rw [show ((0:Int)).toNat=0 from rfl] at hw366_0)
  (try rw [show 0 * 2=0 from rfl] at hw366_0)
  (try rw [Addr.add_zero'] at hw366_0)
  obtain rfl:ad364=ad366:=(by injection e366);have qi366:(0<l1.length)=True:=eq_true (by omega)
  (try rw [show ((0:Int)).toNat=0 from rfl] at hx366_0)
  (try rw [show 0 * 2=0 from rfl] at hx366_0)
  (try rw [Addr.add_zero'] at hx366_0)
  (try rw [show ((0:Int)).toNat=0 from rfl] at hx366_1)
  (try rw [show 0 * 2=0 from rfl] at hx366_1)
  (try rw [Addr.add_zero'] at hx366_1)
  replace hx366_0:=cb HB hx366_0;replace hx366_1:=cb HB hx366_1;have HR366_1:=am hi366_1;have HC366_1:=am hl366_1;clear hi366_1 hl366_1;replace p366:=eq_true p366;replace q366:=eq_true q366;(try (have ea_:=Option.some.inj (hx364_1.symm.trans hx366_1);injection ea_ with ea_ en_ ec_;subst ea_;subst ec_;clear en_));refine sta 12 (hca (cb HB hw364_0) (hca (cb HB hw364_1) (hca (cb HB hw366_0) (hc (cb HB hw366_1))))) (fun hHeld=>?_);refine with_tabW spec_PaperOf.tab4 spec_PaperOf.bits4 (fun HT_ HW_=>?_)
  generalize w14.drew=w15 at BK78 BK94 HB HR364_1 HR366_1 hx364_0 hx364_1 hx366_0 hx366_1 hHeld ⊢
  refine pz3 0 ?_;refine pz2 5 ?_;refine ta 3 ?_;refine ta 7 ?_;refine join_ (σ:=Nat) 1 #[true,true,true,true,true,true,true,true,true,true,true,false] (fun s_=>[(26,.string t365),(30,.int .i64 t367),(6,.pointer (some ⟨s_,0,none⟩)),(31,.agg #[.int .i64 a0,.string t365,.string (⟨#[]⟩:ByteArray),.int .i64 t367,.slice none 0 0,.slice none 0 0])]) (fun s_ w'=>(w'.cell? ad364=some (.string ((rd_T46 l1 0).f0))∧w'.cell? ⟨ad364.block,ad364.off+1,none⟩=some (.slice A364_1 ((rd_T46 l1 0).f1).length c364_1)∧w'.cell? ad364=some (.string ((rd_T46 l1 0).f0))∧w'.cell? ⟨ad364.block,ad364.off+1,none⟩=some (.slice A364_1 ((rd_T46 l1 0).f1).length c364_1))∧(w'.heap[gb78]? = some (.cells #[.int .i64 0,.string (⟨#[]⟩:ByteArray),.string (⟨#[]⟩:ByteArray),.int .i64 0,.slice none 0 0,.slice none 0 0,.int .i64 0,.int .i64 0] 57 (0,0)))∧(w'.heap[gb94]? = some (.cells #[.int .i64 t360,.int .i64 t361,.int .i64 t362] 67 (0,0)))∧(w'.heap[s_]? = some (.cells #[.int .i64 0,.string (⟨#[]⟩:ByteArray),.string (⟨#[]⟩:ByteArray),.int .i64 0,.slice none 0 0,.slice none 0 0] 31 (0,0)))∧(w.heap.size≤s_)∧(w.heap.size≤s_)∧(gb78≠s_)∧(s_≠gb78)∧(gb94≠s_)∧(s_≠gb94)∧(Below w.heap.size w w')) ?_ ?_
  rotate_left
  ·intro hCont;refine two_ (i:=4) (j:=10) (Ni:=some 26) (Nj:=some 6) #[true,true,true,true,true,true,true,true,false,false,false,false] #[true,true,true,true,false,true,true,true,false,false,true,false] rfl rfl rfl rfl (two_of HT_.out (by kernel_rfl)) (by decide) (by decide) (fun K hK=>?_) (fun K hK=>?_)
   ·skip
    refine gA Tryz.func55 #[.agg #[.string ((rd_T46 l1 0).f0),.slice A364_1 ((rd_T46 l1 0).f1).length c364_1],.int .i64 0,.int .i64 0] ?_;(with_reducible refine (spec_PartOf.calls ((rd_T46 l1 0).f0) _ _ ((rd_T46 l1 0).f1) 0 0 t365 _ ?side1 ?side2 A8.out).mono ?_)
    (case side1=>exact sd (Kd.C_below HR364_1.out HB.out))
    (case side2=>exact HC364_1.out)
    rintro e w16 ⟨rfl,hb⟩;refine ⟨_,rfl,?_⟩;replace BK78:=bb BK78 hb;replace BK94:=bb BK94 hb;replace HB:=bq HB hb;(try clear hb);(try clear hb2);(try clear hk);(try clear hi);refine hK.out _ _ (hca (cb HB hw364_0) (hca (cb HB hw364_1) (hca (cb HB hw366_0) (hc (cb HB hw366_1))))).out (fun hHeld=>?_);clear hK K;refine nA 26 ?_;refine two_ (i:=8) (j:=10) (Ni:=some 30) (Nj:=some 6) #[true,true,true,true,true,true,true,true,true,false,false,false] #[true,true,true,true,true,true,true,true,false,false,true,false] rfl rfl rfl rfl (two_of HT_.out (by kernel_rfl)) (by decide) (by decide) (fun K hK=>?_) (fun K hK=>?_)
    ·skip
     refine gA Tryz.func56 #[.agg #[.string ((rd_T46 l1 0).f0),.slice A364_1 ((rd_T46 l1 0).f1).length c364_1],.int .i64 1] ?_;(with_reducible refine (spec_l05Num.calls k ((rd_T46 l1 0).f0) _ _ ((rd_T46 l1 0).f1) 1 t367 _ ?side1 ?side2 A9.out).mono ?_)
     (case side1=>exact sd (Kd.C_below HR366_1.out HB.out))
     (case side2=>exact HC366_1.out)
     rintro e w17 ⟨rfl,hb⟩;refine ⟨_,rfl,?_⟩;replace BK78:=bb BK78 hb;replace BK94:=bb BK94 hb;replace HB:=bq HB hb;(try clear hb);(try clear hb2);(try clear hk);(try clear hi);refine hK.out _ _ (hca (cb HB hw364_0) (hca (cb HB hw364_1) (hca (cb HB hw366_0) (hc (cb HB hw366_1))))).out (fun hHeld=>?_);clear hK K;refine nA 30 ?_;refine pz1 9 ?_;refine oA 10 6 HT_ (fun K hK=>?_);refine box_step ?hg (N:=6) ?hd (cs:=#[.int .i64 0,.string (⟨#[]⟩:ByteArray),.string (⟨#[]⟩:ByteArray),.int .i64 0,.slice none 0 0,.slice none 0 0]) (t:=31) ?hr ?_;(case hd=>rfl);(case hg=>rfl);(case hr=>first|(go_simp;done)|(go_simp;rfl));intro gb68 hg w18 hbox hb;have BK68:=am (hbox);have GW68:=gw hg HB;have GE68:=GW68;replace HB:=bq HB hb;have NB78_68:=na hg BK78;have NB68_78:=nc hg BK78;replace BK78:=bb BK78 hb;have NB94_68:=na hg BK94;have NB68_94:=nc hg BK94;replace BK94:=bb BK94 hb;clear hb hbox hg;refine hK.out _ _ (hca (cb HB hw364_0) (hca (cb HB hw364_1) (hca (cb HB hw366_0) (hc (cb HB hw366_1))))).out (fun hHeld=>?_);clear hK K;refine nA 6 ?_
     exact norm_ (by simp only [putAll,Act.put,List.setIfInBounds_toArray,List.set_cons_zero,List.set_cons_succ]) (hCont (gb68) _ ⟨hHeld,(ks BK78),(ks BK94),(ks BK68),GW68.out,GE68.out,NB78_68.out,NB68_78.out,NB94_68.out,NB68_94.out,(bs HB)⟩)
    ·skip
     refine box_step ?hg (N:=6) ?hd (cs:=#[.int .i64 0,.string (⟨#[]⟩:ByteArray),.string (⟨#[]⟩:ByteArray),.int .i64 0,.slice none 0 0,.slice none 0 0]) (t:=31) ?hr ?_;(case hd=>rfl);(case hg=>rfl);(case hr=>first|(go_simp;done)|(go_simp;rfl));intro gb68 hg w17 hbox hb;have BK68:=am (hbox);have GW68:=gw hg HB;have GE68:=GW68;replace HB:=bq HB hb;have NB78_68:=na hg BK78;have NB68_78:=nc hg BK78;replace BK78:=bb BK78 hb;have NB94_68:=na hg BK94;have NB68_94:=nc hg BK94;replace BK94:=bb BK94 hb;clear hb hbox hg;refine hK.out _ _ (hca (cb HB hw364_0) (hca (cb HB hw364_1) (hca (cb HB hw366_0) (hc (cb HB hw366_1))))).out (fun hHeld=>?_);clear hK K;refine nA 6 ?_;refine oA 8 30 HT_ (fun K hK=>?_);refine gA Tryz.func56 #[.agg #[.string ((rd_T46 l1 0).f0),.slice A364_1 ((rd_T46 l1 0).f1).length c364_1],.int .i64 1] ?_;(with_reducible refine (spec_l05Num.calls k ((rd_T46 l1 0).f0) _ _ ((rd_T46 l1 0).f1) 1 t367 _ ?side1 ?side2 A9.out).mono ?_)
     (case side1=>exact sd (Kd.C_below HR366_1.out HB.out))
     (case side2=>exact HC366_1.out)
     rintro e w18 ⟨rfl,hb⟩;refine ⟨_,rfl,?_⟩;replace BK78:=bb BK78 hb;replace BK94:=bb BK94 hb;replace BK68:=bb BK68 hb;replace HB:=bq HB hb;(try clear hb);(try clear hb2);(try clear hk);(try clear hi);refine hK.out _ _ (hca (cb HB hw364_0) (hca (cb HB hw364_1) (hca (cb HB hw366_0) (hc (cb HB hw366_1))))).out (fun hHeld=>?_);clear hK K;refine nA 30 ?_;refine pz1 9 ?_
     exact norm_ (by simp only [putAll,Act.put,List.setIfInBounds_toArray,List.set_cons_zero,List.set_cons_succ]) (hCont (gb68) _ ⟨hHeld,(ks BK78),(ks BK94),(ks BK68),GW68.out,GE68.out,NB78_68.out,NB68_78.out,NB94_68.out,NB68_94.out,(bs HB)⟩)
   ·skip
    refine box_step ?hg (N:=6) ?hd (cs:=#[.int .i64 0,.string (⟨#[]⟩:ByteArray),.string (⟨#[]⟩:ByteArray),.int .i64 0,.slice none 0 0,.slice none 0 0]) (t:=31) ?hr ?_;(case hd=>rfl);(case hg=>rfl);(case hr=>first|(go_simp;done)|(go_simp;rfl));intro gb68 hg w16 hbox hb;have BK68:=am (hbox);have GW68:=gw hg HB;have GE68:=GW68;replace HB:=bq HB hb;have NB78_68:=na hg BK78;have NB68_78:=nc hg BK78;replace BK78:=bb BK78 hb;have NB94_68:=na hg BK94;have NB68_94:=nc hg BK94;replace BK94:=bb BK94 hb;clear hb hbox hg;refine hK.out _ _ (hca (cb HB hw364_0) (hca (cb HB hw364_1) (hca (cb HB hw366_0) (hc (cb HB hw366_1))))).out (fun hHeld=>?_);clear hK K;refine nA 6 ?_;refine oA 4 26 HT_ (fun K hK=>?_);refine gA Tryz.func55 #[.agg #[.string ((rd_T46 l1 0).f0),.slice A364_1 ((rd_T46 l1 0).f1).length c364_1],.int .i64 0,.int .i64 0] ?_;(with_reducible refine (spec_PartOf.calls ((rd_T46 l1 0).f0) _ _ ((rd_T46 l1 0).f1) 0 0 t365 _ ?side1 ?side2 A8.out).mono ?_)
    (case side1=>exact sd (Kd.C_below HR364_1.out HB.out))
    (case side2=>exact HC364_1.out)
    rintro e w17 ⟨rfl,hb⟩;refine ⟨_,rfl,?_⟩;replace BK78:=bb BK78 hb;replace BK94:=bb BK94 hb;replace BK68:=bb BK68 hb;replace HB:=bq HB hb;(try clear hb);(try clear hb2);(try clear hk);(try clear hi);refine hK.out _ _ (hca (cb HB hw364_0) (hca (cb HB hw364_1) (hca (cb HB hw366_0) (hc (cb HB hw366_1))))).out (fun hHeld=>?_);clear hK K;refine nA 26 ?_;refine oA 8 30 HT_ (fun K hK=>?_);refine gA Tryz.func56 #[.agg #[.string ((rd_T46 l1 0).f0),.slice A364_1 ((rd_T46 l1 0).f1).length c364_1],.int .i64 1] ?_;(with_reducible refine (spec_l05Num.calls k ((rd_T46 l1 0).f0) _ _ ((rd_T46 l1 0).f1) 1 t367 _ ?side1 ?side2 A9.out).mono ?_)
    (case side1=>exact sd (Kd.C_below HR366_1.out HB.out))
    (case side2=>exact HC366_1.out)
    rintro e w18 ⟨rfl,hb⟩;refine ⟨_,rfl,?_⟩;replace BK78:=bb BK78 hb;replace BK94:=bb BK94 hb;replace BK68:=bb BK68 hb;replace HB:=bq HB hb;(try clear hb);(try clear hb2);(try clear hk);(try clear hi);refine hK.out _ _ (hca (cb HB hw364_0) (hca (cb HB hw364_1) (hca (cb HB hw366_0) (hc (cb HB hw366_1))))).out (fun hHeld=>?_);clear hK K;refine nA 30 ?_;refine pz1 9 ?_
    exact norm_ (by simp only [putAll,Act.put,List.setIfInBounds_toArray,List.set_cons_zero,List.set_cons_succ]) (hCont (gb68) _ ⟨hHeld,(ks BK78),(ks BK94),(ks BK68),GW68.out,GE68.out,NB78_68.out,NB68_78.out,NB94_68.out,NB68_94.out,(bs HB)⟩)
  rintro gb68 w19 ⟨hS_,h0_,h1_,h2_,h3_,h4_,h5_,h6_,h7_,h8_,h9_⟩;have n0_:Aside0 (w19.heap[gb78]? = some (.cells #[.int .i64 0,.string (⟨#[]⟩:ByteArray),.string (⟨#[]⟩:ByteArray),.int .i64 0,.slice none 0 0,.slice none 0 0,.int .i64 0,.int .i64 0] 57 (0,0))):=⟨h0_⟩;have n1_:Aside0 (w19.heap[gb94]? = some (.cells #[.int .i64 t360,.int .i64 t361,.int .i64 t362] 67 (0,0))):=⟨h1_⟩;have n2_:Aside0 (w19.heap[gb68]? = some (.cells #[.int .i64 0,.string (⟨#[]⟩:ByteArray),.string (⟨#[]⟩:ByteArray),.int .i64 0,.slice none 0 0,.slice none 0 0] 31 (0,0))):=⟨h2_⟩;have n3_:Aside0 (w.heap.size≤gb68):=⟨h3_⟩;have n4_:Aside0 (w.heap.size≤gb68):=⟨h4_⟩;have n5_:Aside0 (gb78≠gb68):=⟨h5_⟩;have n6_:Aside0 (gb68≠gb78):=⟨h6_⟩;have n7_:Aside0 (gb94≠gb68):=⟨h7_⟩;have n8_:Aside0 (gb68≠gb94):=⟨h8_⟩;have n9_:Aside0 (Below w.heap.size w w19):=⟨h9_⟩;clear BK78;clear BK94;clear HB;clear h0_ h1_ h2_ h3_ h4_ h5_ h6_ h7_ h8_ h9_;have BK78:=n0_;have BK94:=n1_;have BK68:=n2_;have GW68:=n3_;have GE68:=n4_;have NB78_68:=n5_;have NB68_78:=n6_;have NB94_68:=n7_;have NB68_94:=n8_;have HB:=n9_;clear n0_ n1_ n2_ n3_ n4_ n5_ n6_ n7_ n8_ n9_;have hHeld:w19.cell? ad364=some (.string ((rd_T46 l1 0).f0))∧w19.cell? ⟨ad364.block,ad364.off+1,none⟩=some (.slice A364_1 ((rd_T46 l1 0).f1).length c364_1)∧w19.cell? ad364=some (.string ((rd_T46 l1 0).f0))∧w19.cell? ⟨ad364.block,ad364.off+1,none⟩=some (.slice A364_1 ((rd_T46 l1 0).f1).length c364_1):=hS_;refine norm_ (a':=?_) ?_ ?_
  rotate_left
  ·simp only [putAll,Act.put,List.setIfInBounds_toArray,List.set_cons_zero,List.set_cons_succ]
   rfl
  refine one_ (i:=11) (N:=none) #[true,true,true,true,true,true,true,true,true,true,true,true] rfl rfl (one_of HT_.out (by kernel_rfl)) (by decide) (fun K hK=>?_);have hs20:w19.cell? ⟨gb68,0,none⟩=some (.int .i64 0):=(blk_cell BK68.out 0).trans rfl;have hfs20:=blk_frozen BK68.out 0;have hns20_0:=NB78_68.out;have hns20_1:=NB94_68.out;have hms20_0:=NB68_78.out;have hms20_1:=NB68_94.out;have hs21:w19.cell? ⟨gb68,1,none⟩=some (.string (⟨#[]⟩:ByteArray)):=(blk_cell BK68.out 1).trans rfl;have hfs21:=blk_frozen BK68.out 1;have hns21_0:=NB78_68.out;have hns21_1:=NB94_68.out;have hms21_0:=NB68_78.out;have hms21_1:=NB68_94.out;have hs22:w19.cell? ⟨gb68,2,none⟩=some (.string (⟨#[]⟩:ByteArray)):=(blk_cell BK68.out 2).trans rfl;have hfs22:=blk_frozen BK68.out 2;have hns22_0:=NB78_68.out;have hns22_1:=NB94_68.out;have hms22_0:=NB68_78.out;have hms22_1:=NB68_94.out;have hs23:w19.cell? ⟨gb68,3,none⟩=some (.int .i64 0):=(blk_cell BK68.out 3).trans rfl;have hfs23:=blk_frozen BK68.out 3;have hns23_0:=NB78_68.out;have hns23_1:=NB94_68.out;have hms23_0:=NB68_78.out;have hms23_1:=NB68_94.out;have hs24:w19.cell? ⟨gb68,4,none⟩=some (.slice none 0 0):=(blk_cell BK68.out 4).trans rfl;have hfs24:=blk_frozen BK68.out 4;have hns24_0:=NB78_68.out;have hns24_1:=NB94_68.out;have hms24_0:=NB68_78.out;have hms24_1:=NB68_94.out;have hs25:w19.cell? ⟨gb68,5,none⟩=some (.slice none 0 0):=(blk_cell BK68.out 5).trans rfl;have hfs25:=blk_frozen BK68.out 5;have hns25_0:=NB78_68.out;have hns25_1:=NB94_68.out;have hms25_0:=NB68_78.out;have hms25_1:=NB68_94.out;refine skip_ (w1:=?_) (by rfl) rfl ?_ ?_
  rotate_left
  ·go_simp
   rfl
  refine hK.out _ _ ⟨((cell_far (p:=⟨gb68,_,none⟩) (by exact nl hw364_0 GW68) _).trans (((cell_far (p:=⟨gb68,_,none⟩) (by exact nl hw364_0 GW68) _).trans (((cell_far (p:=⟨gb68,_,none⟩) (by exact nl hw364_0 GW68) _).trans (((cell_far (p:=⟨gb68,_,none⟩) (by exact nl hw364_0 GW68) _).trans (((cell_far (p:=⟨gb68,_,none⟩) (by exact nl hw364_0 GW68) _).trans (((cell_far (p:=⟨gb68,_,none⟩) (by exact nl hw364_0 GW68) _).trans (hHeld.1)))))))))))),((cell_far (p:=⟨gb68,_,none⟩) (by exact nl hw364_1 GW68) _).trans (((cell_far (p:=⟨gb68,_,none⟩) (by exact nl hw364_1 GW68) _).trans (((cell_far (p:=⟨gb68,_,none⟩) (by exact nl hw364_1 GW68) _).trans (((cell_far (p:=⟨gb68,_,none⟩) (by exact nl hw364_1 GW68) _).trans (((cell_far (p:=⟨gb68,_,none⟩) (by exact nl hw364_1 GW68) _).trans (((cell_far (p:=⟨gb68,_,none⟩) (by exact nl hw364_1 GW68) _).trans (hHeld.2.1)))))))))))),((cell_far (p:=⟨gb68,_,none⟩) (by exact nl hw366_0 GW68) _).trans (((cell_far (p:=⟨gb68,_,none⟩) (by exact nl hw366_0 GW68) _).trans (((cell_far (p:=⟨gb68,_,none⟩) (by exact nl hw366_0 GW68) _).trans (((cell_far (p:=⟨gb68,_,none⟩) (by exact nl hw366_0 GW68) _).trans (((cell_far (p:=⟨gb68,_,none⟩) (by exact nl hw366_0 GW68) _).trans (((cell_far (p:=⟨gb68,_,none⟩) (by exact nl hw366_0 GW68) _).trans (hHeld.2.2.1)))))))))))),((cell_far (p:=⟨gb68,_,none⟩) (by exact nl hw366_1 GW68) _).trans (((cell_far (p:=⟨gb68,_,none⟩) (by exact nl hw366_1 GW68) _).trans (((cell_far (p:=⟨gb68,_,none⟩) (by exact nl hw366_1 GW68) _).trans (((cell_far (p:=⟨gb68,_,none⟩) (by exact nl hw366_1 GW68) _).trans (((cell_far (p:=⟨gb68,_,none⟩) (by exact nl hw366_1 GW68) _).trans (((cell_far (p:=⟨gb68,_,none⟩) (by exact nl hw366_1 GW68) _).trans (hHeld.2.2.2))))))))))))⟩ (fun hHeld=>?_);clear hK K;refine done_ (done_of HT_.out (by kernel_rfl)) ?_
  try go_wp2_with (fail)
  go_at_call 34;(with_reducible refine (spec_l05Has.calls a0 t369 _ A10.out).mono ?_);rintro e w' ⟨rfl,⟨nd,rfl⟩⟩;have HC26:=am H;clear H
  go_upto_if 33 with (fail)
  go_cut [] (fun wc=>∃ (kq:Nat) (x161_25:ByteArray) (x162_25:Int),Aside0 (spec_PaperOf.j0 kq a0 l1 a0 t365 x161_25 x162_25=some (r1,r2,r3,r4,r5,r6,r7,r8))∧Aside0 (kq≤k)∧Aside0 (wc.heap[gb78]? = some (.cells #[.int .i64 0,.string (⟨#[]⟩:ByteArray),.string (⟨#[]⟩:ByteArray),.int .i64 0,(.slice none 0 0),(.slice none 0 0),.int .i64 0,.int .i64 0] 57 (0,0)))∧Aside0 (wc.heap[gb94]? = some (.cells #[.int .i64 t360,.int .i64 t361,.int .i64 t362] 67 (0,0)))∧Aside0 (wc.heap[gb68]? = some (.cells #[.int .i64 a0,.string t365,.string x161_25,.int .i64 x162_25,(.slice none 0 0),(.slice none 0 0)] 31 (0,0)))∧Aside0 (Below w.heap.size w wc))
  case first =>
   have H:=HC26.out;clear HC26
   obtain rfl|rfl:=bt t369
   ·replace H:=itT H;replace H:=bo H;obtain ⟨t371,A28,H⟩:=H;replace H:=bo H;obtain ⟨t373,A29,H⟩:=H;have H':=am H;clear H;have p370:0≤(0:Int):=(by omega);have q370:0<(l1.length:Int):=oa;obtain ⟨ad370,A370_1,c370_1,e370,hx370_0,hx370_1,hl370_1,hi370_1⟩:=at_T46 HR1.out 0 p370 q370;obtain rfl:ad364=ad370:=(by injection e370);have qi370:(0<l1.length)=True:=eq_true (by omega)
    (try rw [show ((0:Int)).toNat=0 from rfl] at hx370_0)
    (try rw [show 0 * 2=0 from rfl] at hx370_0)
    (try rw [Addr.add_zero'] at hx370_0)
    (try rw [show ((0:Int)).toNat=0 from rfl] at hx370_1)
    (try rw [show 0 * 2=0 from rfl] at hx370_1)
    (try rw [Addr.add_zero'] at hx370_1)
    have hn370_0:ad364.block≠gb68:=nl hx370_0 GW68;have hn370_1:ad364.block≠gb68:=nl hx370_0 GW68;have hn370_2:ad364.block≠gb68:=nl hx370_0 GW68;have hn370_3:ad364.block≠gb68:=nl hx370_0 GW68;have hn370_4:ad364.block≠gb68:=nl hx370_0 GW68;have hn370_5:ad364.block≠gb68:=nl hx370_0 GW68;replace hx370_0:=cb HB hx370_0;replace hx370_1:=cb HB hx370_1;(try (have ea_:=Option.some.inj ((cb HB hw364_1).symm.trans hx370_1);injection ea_ with ea_ en_ ec_;subst ea_;subst ec_;clear en_));have HR370_1:=am hi370_1;have HC370_1:=am hl370_1;clear hi370_1 hl370_1;replace hx370_0:=(cell_far (p:=⟨gb68,0,none⟩) (by exact nz hn370_0) (.int .i64 a0)).trans hx370_0;replace hx370_1:=(cell_far (p:=⟨gb68,0,none⟩) (by exact nz hn370_0) (.int .i64 a0)).trans hx370_1;replace hx370_0:=(cell_far (p:=⟨gb68,1,none⟩) (by exact nz hn370_1) (.string t365)).trans hx370_0;replace hx370_1:=(cell_far (p:=⟨gb68,1,none⟩) (by exact nz hn370_1) (.string t365)).trans hx370_1;replace hx370_0:=(cell_far (p:=⟨gb68,2,none⟩) (by exact nz hn370_2) (.string (⟨#[]⟩:ByteArray))).trans hx370_0;replace hx370_1:=(cell_far (p:=⟨gb68,2,none⟩) (by exact nz hn370_2) (.string (⟨#[]⟩:ByteArray))).trans hx370_1;replace hx370_0:=(cell_far (p:=⟨gb68,3,none⟩) (by exact nz hn370_3) (.int .i64 t367)).trans hx370_0;replace hx370_1:=(cell_far (p:=⟨gb68,3,none⟩) (by exact nz hn370_3) (.int .i64 t367)).trans hx370_1;replace hx370_0:=(cell_far (p:=⟨gb68,4,none⟩) (by exact nz hn370_4) (.slice none 0 0)).trans hx370_0;replace hx370_1:=(cell_far (p:=⟨gb68,4,none⟩) (by exact nz hn370_4) (.slice none 0 0)).trans hx370_1;replace hx370_0:=(cell_far (p:=⟨gb68,5,none⟩) (by exact nz hn370_5) (.slice none 0 0)).trans hx370_0;replace hx370_1:=(cell_far (p:=⟨gb68,5,none⟩) (by exact nz hn370_5) (.slice none 0 0)).trans hx370_1;clear hn370_0;clear hn370_1;clear hn370_2;clear hn370_3;clear hn370_4;clear hn370_5;replace p370:=eq_true p370;replace q370:=eq_true q370
    go_wp2_with (first|((first|((with_reducible refine gate_callee (f:=55) rfl ?_);refine goesL_ (some 37) rfl rfl Tryz.func55 (by kernel_rfl) rfl #[.agg #[.string ((rd_T46 l1 0).f0),.slice A370_1 ((rd_T46 l1 0).f1).length c370_1],.int .i64 1,.int .i64 0] rfl (by (try simp only [List.map_toArray,List.map_cons,List.map_nil]);first|done|rfl|(simp only [List.length_drop,List.length_take];rfl)) ?_;(with_reducible refine (spec_PartOf.calls ((rd_T46 l1 0).f0) _ _ ((rd_T46 l1 0).f1) 1 0 t371 _ ?side1 HC370_1.out A28.out).mono ?_);(case side1=>exact Kd.C_below HR370_1.out (bs HB));rintro e w30 ⟨rfl,hb⟩;refine ⟨_,rfl,?_⟩)|(go_at_call 55;(with_reducible refine (spec_PartOf.calls ((rd_T46 l1 0).f0) _ _ ((rd_T46 l1 0).f1) 1 0 t371 _ ?side1 HC370_1.out A28.out).mono ?_);(case side1=>exact Kd.C_below HR370_1.out (bs HB));rintro e w30 ⟨rfl,hb⟩));replace BK78:=bb BK78 hb;replace BK94:=bb BK94 hb;replace BK68:=am (blk_below (g:=gb68) (o:=.cells #[.int .i64 a0,.string t365,.string (⟨#[]⟩:ByteArray),.int .i64 t367,.slice none 0 0,.slice none 0 0] 31 (0,0)) (kp BK68) hb);replace HB:=bq HB hb;(try clear hb);(try clear hb2);(try clear hk);(try clear hi);have hnb31:=NB68_78.out;have hnc31:=NB78_68.out;have hnb32:=NB68_94.out;have hnc32:=NB94_68.out;have hcz33:=cf6 BK68;have p372:0≤(0:Int):=(by omega);have q372:0<(l1.length:Int):=oa;obtain ⟨ad372,A372_1,c372_1,e372,hx372_0,hx372_1,hl372_1,hi372_1⟩:=at_T46 HR1.out 0 p372 q372;obtain rfl:ad364=ad372:=(by injection e372);have qi372:(0<l1.length)=True:=eq_true (by omega);(try rw [show ((0:Int)).toNat=0 from rfl] at hx372_0);(try rw [show 0 * 2=0 from rfl] at hx372_0);(try rw [Addr.add_zero'] at hx372_0);(try rw [show ((0:Int)).toNat=0 from rfl] at hx372_1);(try rw [show 0 * 2=0 from rfl] at hx372_1);(try rw [Addr.add_zero'] at hx372_1);have hn372_0:ad364.block≠gb68:=nl hx372_0 GW68;replace hx372_0:=cb HB hx372_0;replace hx372_1:=cb HB hx372_1;(try (have ea_:=Option.some.inj ((cb HB hw364_1).symm.trans hx372_1);injection ea_ with ea_ en_ ec_;subst ea_;subst ec_;clear en_));have HR372_1:=am hi372_1;have HC372_1:=am hl372_1;clear hi372_1 hl372_1;replace hx372_0:=(cell_far (p:=⟨gb68,2,none⟩) (by exact nz hn372_0) (.string t371)).trans hx372_0;replace hx372_1:=(cell_far (p:=⟨gb68,2,none⟩) (by exact nz hn372_0) (.string t371)).trans hx372_1;clear hn372_0;replace p372:=eq_true p372;replace q372:=eq_true q372)|((first|((with_reducible refine gate_callee (f:=56) rfl ?_);refine goesL_ (some 42) rfl rfl Tryz.func56 (by kernel_rfl) rfl #[.agg #[.string ((rd_T46 l1 0).f0),.slice A372_1 ((rd_T46 l1 0).f1).length c372_1],.int .i64 2] rfl (by (try simp only [List.map_toArray,List.map_cons,List.map_nil]);first|done|rfl|(simp only [List.length_drop,List.length_take];rfl)) ?_;(with_reducible refine (spec_l05Num.calls k ((rd_T46 l1 0).f0) _ _ ((rd_T46 l1 0).f1) 2 t373 _ ?side1 HC372_1.out A29.out).mono ?_);(case side1=>exact Kd.C_below HR372_1.out (bs HB));rintro e w34 ⟨rfl,hb⟩;refine ⟨_,rfl,?_⟩)|(go_at_call 56;(with_reducible refine (spec_l05Num.calls k ((rd_T46 l1 0).f0) _ _ ((rd_T46 l1 0).f1) 2 t373 _ ?side1 HC372_1.out A29.out).mono ?_);(case side1=>exact Kd.C_below HR372_1.out (bs HB));rintro e w34 ⟨rfl,hb⟩));replace BK78:=bb BK78 hb;replace BK94:=bb BK94 hb;replace BK68:=am (blk_below (g:=gb68) (o:=.cells #[.int .i64 a0,.string t365,.string t371,.int .i64 t367,.slice none 0 0,.slice none 0 0] 31 (0,0)) (kp BK68) hb);replace HB:=bq HB hb;(try clear hb);(try clear hb2);(try clear hk);(try clear hi);have hcz35:=cf6 BK68))
    go_meet
    case rel=>exact ⟨_,(t371),(t373),H',⟨fl⟩,⟨ks BK78⟩,⟨ks BK94⟩,⟨kp BK68⟩,⟨bs HB⟩⟩
   ·replace H:=itF H;have H':=am H;clear H
    go_wp2
    go_meet
    case rel=>exact ⟨_,((⟨#[]⟩:ByteArray)),(t367),H',⟨fl⟩,⟨ks BK78⟩,⟨ks BK94⟩,⟨kp BK68⟩,⟨bs HB⟩⟩
  case rest =>
   clear HC26
   try clear c1
   try clear c7
   try clear hcz13
   try clear hx364_0
   try clear hx364_1
   try clear hx366_0
   try clear hx366_1
   try clear p364
   try clear p366
   try clear q364
   try clear q366
   obtain ⟨kq,x161_25,x162_25,HA,HJ25,BK78,BK94,BK68,HB⟩:=hcut
   cases kq with
   | zero=>exact absurd HA.out (by simp [spec_PaperOf.j0])
   | succ kj25 =>
    have H:=HA.out;clear HA;simp only [spec_PaperOf.j0] at H;have H':=am H;clear H
    go_wp2
    go_loopg [7] kj25 (fun kq v7 w'=>∃ (x7_2:Int) (x168_2:Int) (x169_2:ByteArray) (x170_2:ByteArray) (x171_2:Int) (x172_2:Int) (x173_2:Int) (x163_2:List ByteArray) (x154_2:List (S63)) (u369004:Value) (u369005:Value),v7=.int .i64 x7_2∧Aside0 (spec_PaperOf.l0 kq a0 l1 x7_2 a0 t365 x161_25 x162_25 x163_2 x154_2=some (r1,r2,r3,r4,r5,r6,r7,r8))∧Aside0 (kq≤kj25)∧Aside0 (Kd.R Kd.string 9 w' w.heap.size (fun _=>True) u369004 x163_2)∧Aside0 (Kd.R k63 63 w' w.heap.size (fun _=>True) u369005 x154_2)∧Aside0 (w'.heap[gb78]? = some (.cells #[.int .i64 x168_2,.string x169_2,.string x170_2,.int .i64 x171_2,(.slice none 0 0),(.slice none 0 0),.int .i64 x172_2,.int .i64 x173_2] 57 (0,0)))∧Aside0 (w'.heap[gb94]? = some (.cells #[.int .i64 t360,.int .i64 t361,.int .i64 t362] 67 (0,0)))∧Aside0 (w'.heap[gb68]? = some (.cells #[.int .i64 a0,.string t365,.string x161_25,.int .i64 x162_25,u369004,u369005] 31 (0,0)))∧Aside0 (Below w.heap.size w w'))
    case atStart=>exact ⟨(1),(0),((⟨#[]⟩:ByteArray)),((⟨#[]⟩:ByteArray)),(0),(0),(0),(([]:List ByteArray)),(([]:List (S63))),(.slice none 0 0),(.slice none 0 0),fg,H',⟨Nat.le_refl _⟩,⟨by first|exact Kd.R_nil _ _ _ _ _|exact Kd.N_nil _ _ _ _ _|exact Kd.V_nil _ _ _ _ _|exact Kd.Q_nil _ _ _ _ _|exact Kd.S_nil _ _ _ _ _⟩,⟨by first|exact Kd.R_nil _ _ _ _ _|exact Kd.N_nil _ _ _ _ _|exact Kd.V_nil _ _ _ _ _|exact Kd.Q_nil _ _ _ _ _|exact Kd.S_nil _ _ _ _ _⟩,⟨ks BK78⟩,⟨ks BK94⟩,⟨ks BK68⟩,⟨bs HB⟩⟩
    case round =>
     clear H'
     try clear c1
     try clear c7
     try clear hcz13
     try clear hx364_0
     try clear hx364_1
     try clear hx366_0
     try clear hx366_1
     try clear p364
     try clear p366
     try clear q364
     try clear q366
     try clear BK78
     try clear BK94
     try clear BK68
     obtain ⟨x7_2,x168_2,x169_2,x170_2,x171_2,x172_2,x173_2,x163_2,x154_2,u369004,u369005,rfl,HA,HK2,HO_369004,HO_369005,BK78,BK94,BK68,HB⟩:=hrel
     cases gk with
     | zero=>exact absurd HA.out (by simp [spec_PaperOf.l0])
     | succ k2 =>
      have H:=HA.out;clear HA;simp only [spec_PaperOf.l0] at H
      revert H;refine id2 ?_ ?_
      ·intro c36b0 H
       revert H;refine id1 ?_
       intro c37b0 H
       revert H;refine ie2 ?_ ?_
       ·intro c38b0 c38b1 H;replace H:=bo H;obtain ⟨t376,A39,H⟩:=H
        revert H;refine ip1 ?_
        intro c40 H;have LMc40:=am c40;clear c40;obtain ⟨y377,hy377⟩:∃ y_:List ByteArray,y_=(x163_2++[t376]):=⟨_,rfl⟩
        replace H:(spec_PaperOf.l0 k2 a0 l1 (wrap64 (x7_2+1)) a0 t365 x161_25 x162_25 y377 x154_2)=some (r1,r2,r3,r4,r5,r6,r7,r8):=ye hy377 H
        have Ny377:=am hy377;clear hy377;have H':=am H;clear H;have p374:0≤(x7_2:Int):=oa;have q374:x7_2<(l1.length:Int):=oa;obtain ⟨ad374,A374_1,c374_1,e374,hx374_0,hx374_1,hl374_1,hi374_1⟩:=at_T46 HR1.out x7_2 p374 q374;obtain rfl:ad364=ad374:=(by injection e374);replace hx374_0:=cb HB hx374_0;replace hx374_1:=cb HB hx374_1;(try (have ea_:=Option.some.inj ((cb HB hw364_1).symm.trans hx374_1);injection ea_ with ea_ en_ ec_;subst ea_;subst ec_;clear en_));have HR374_1:=am hi374_1;have HC374_1:=am hl374_1;clear hi374_1 hl374_1;replace p374:=eq_true p374;replace q374:=eq_true q374
        try go_wp2
        replace HO_369004:=am (Kd.R_drew HO_369004.out);replace HO_369005:=am (Kd.R_drew HO_369005.out);replace BK78:=am (blk_drew BK78.out);replace BK94:=am (blk_drew BK94.out);replace BK68:=am (blk_drew BK68.out);replace HB:=am (below_drew1 HB.out);have p375:0≤(x7_2:Int):=oa;have q375:x7_2<(l1.length:Int):=oa;obtain ⟨ad375,A375_1,c375_1,e375,hx375_0,hx375_1,hl375_1,hi375_1⟩:=at_T46 HR1.out x7_2 p375 q375;have hw375_1:=hx375_1;have hw375_0:=hx375_0;obtain rfl:ad364=ad375:=(by injection e375);replace hx375_0:=cb HB hx375_0;replace hx375_1:=cb HB hx375_1;(try (have ea_:=Option.some.inj ((cb HB hw364_1).symm.trans hx375_1);injection ea_ with ea_ en_ ec_;subst ea_;subst ec_;clear en_));have HR375_1:=am hi375_1;have HC375_1:=am hl375_1;clear hi375_1 hl375_1;replace p375:=eq_true p375;replace q375:=eq_true q375;refine stad 11 [10] (hb6a BK68 (hca (cb HB hw375_0) (hc (cb HB hw375_1)))) (fun hHeld=>?_);refine with_tabW spec_PaperOf.tab12 spec_PaperOf.bits12 (fun HT_ HW_=>?_)
        generalize wr.drew=w41 at HO_369004 HO_369005 BK78 BK94 BK68 HB HR375_1 hx375_0 hx375_1 hHeld ⊢
        refine pz1 0 ?_;refine pz3 2 ?_;refine ta 1 ?_;refine ta 5 ?_;refine oA 6 62 HT_ (fun K hK=>?_);refine gA Tryz.func55 #[.agg #[.string ((rd_T46 l1 x7_2).f0),.slice A375_1 ((rd_T46 l1 x7_2).f1).length c375_1],.int .i64 0,.int .i64 0] ?_;(with_reducible refine (spec_PartOf.calls ((rd_T46 l1 x7_2).f0) _ _ ((rd_T46 l1 x7_2).f1) 0 0 t376 _ ?side1 ?side2 A39.out).mono ?_)
        (case side1=>exact sd (Kd.C_below HR375_1.out HB.out))
        (case side2=>exact HC375_1.out)
        rintro e w42 ⟨rfl,hb⟩;refine ⟨_,rfl,?_⟩;replace HO_369004:=am (Kd.R_below (rs HO_369004) hb);replace HO_369005:=am (Kd.R_below (rs HO_369005) hb);replace BK78:=bb BK78 hb;replace BK94:=bb BK94 hb;replace BK68:=bb BK68 hb;replace HB:=bq HB hb;(try clear hb);(try clear hb2);(try clear hk);(try clear hi);refine hK.out _ _ (hb6a BK68 (hca (cb HB hw375_0) (hc (cb HB hw375_1)))).out (fun hHeld=>?_);clear hK K;refine nA 62 ?_;refine oA 7 63 HT_ (fun K hK=>?_);refine value_ (w1:=?_) (v:=?_) (by rfl) rfl ?_ ?_
        rotate_left 2
        ·go_simp
         constructor
         ·rfl
         ·rfl
        refine hK.out _ _ ⟨(blk_cell (blk_alloc BK68.out _) 0).trans rfl,(blk_cell (blk_alloc BK68.out _) 1).trans rfl,(blk_cell (blk_alloc BK68.out _) 2).trans rfl,(blk_cell (blk_alloc BK68.out _) 3).trans rfl,(blk_cell (blk_alloc BK68.out _) 4).trans rfl,(blk_cell (blk_alloc BK68.out _) 5).trans rfl,(World.cell?_alloc_lt _ _ _ (World.block_lt_of_cell? _ _ (((cb HB hw375_0).trans rfl)))).trans (((cb HB hw375_0).trans rfl)),(World.cell?_alloc_lt _ _ _ (World.block_lt_of_cell? _ _ (((cb HB hw375_1).trans rfl)))).trans (((cb HB hw375_1).trans rfl))⟩ (fun hHeld=>?_);clear hK K;refine nA 63 ?_;refine oA 8 64 HT_ (fun K hK=>?_);refine Kd.R_append_step Kd.string (w0:=w) w.heap.size (by rfl) (.tmp 57) (.tmp 63) 22 9 (.string ⟨#[]⟩) 16 rfl Tryz.underlying22 info9 rfl (by decide) (by omega) u369004 x163_2 t376 [.string t376] (fun _=>True) (fun _=>False) rfl rfl ?aP (fun _ hk=>hk.elim) ?aF ?aO ?aB ?aS ?aL ?_
        (case aP=>exact rfl)
        (case aB=>exact (bs HB))
        (case aF=>exact (fun _ _=>trivial))
        (case aO=>exact (rs HO_369004))
        (case aS=>exact (below_size (bs HB)))
        (case aL=>have:=LMc40.out;omega)
        intro v378 w43 ho hb hg hat
        rw [← Ny377.out] at ho
        have n0_:=am (Kd.R_over' (rs HO_369005) (Kd.R_typed (rs HO_369004)) (by decide) hg);have n1_:=am (blk_grown (ks BK78) hg (Kd.R_ne HO_369004.out BK78.out (by decide)));have n2_:=am (blk_grown (ks BK94) hg (Kd.R_ne HO_369004.out BK94.out (by decide)));have n3_:=am (blk_grown (ks BK68) hg (Kd.R_ne HO_369004.out BK68.out (by decide)));have n4_:=am (hb);have n5_:=am (ho);clear HO_369005;clear BK78;clear BK94;clear BK68;clear HB;clear HO_369004;have HO_369005:=n0_;have BK78:=n1_;have BK94:=n2_;have BK68:=n3_;have HB:=n4_;have HO379:=n5_;clear n0_ n1_ n2_ n3_ n4_ n5_;clear ho hb hg hat;obtain ⟨Ao44,co44,eo44⟩:=Kd.R_slice HO379.out
        (first|subst eo44|(injection eo44 with f1_ f2_ f3_;have f4_:=f1_.symm;have f5_:=f3_.symm;clear f1_ f2_ f3_;subst f4_;subst f5_))
        refine hK.out _ _ (hb6a BK68 (hca (cb HB hw375_0) (hc (cb HB hw375_1)))).out (fun hHeld=>?_);clear hK K;refine nA 64 ?_;refine pz1 9 ?_;refine last_ (i:=10) (N:=none) #[true,true,true,true,true,true,true,true,true,true,true] rfl rfl (one_of HT_.out (by kernel_rfl)) (by decide) (fun K hK=>?_);have hs45:w43.cell? ⟨gb68,4,none⟩=some (u369004):=(blk_cell BK68.out 4).trans rfl;have hfs45:=blk_frozen BK68.out 4;have hns45_0:=NB78_68.out;have hns45_1:=NB94_68.out;have hms45_0:=NB68_78.out;have hms45_1:=NB68_94.out;refine skip_ (w1:=?_) (by rfl) rfl ?_ ?_
        rotate_left
        ·go_simp
         rfl
        refine hK.out _ _ ?_;clear hK K;refine done_ (done_of HT_.out (by kernel_rfl)) ?_
        try go_wp2
        go_roundg k2
        case measure=>have:=HJ25.out;have:=HK2.out;omega
        case rel=>exact ⟨(wrap64 (x7_2+1)),(x168_2),(x169_2),(x170_2),(x171_2),(x172_2),(x173_2),(y377),(x154_2),(.slice Ao44 y377.length co44),(u369005),fg,H',⟨by have:=HJ25.out;have:=HK2.out;omega⟩,⟨Kd.R_mono (rf (Kd.R_types HO379.out BK68.out (by decide))) (fun _ hk=>trivial)⟩,⟨Kd.R_mono (rf (Kd.R_types HO_369005.out BK68.out (by decide))) (fun _ hk=>trivial)⟩,⟨ks BK78⟩,⟨ks BK94⟩,⟨kp BK68⟩,⟨bs HB⟩⟩
       ·intro c38 c38b0 c38b1 H;replace H:=bo H;obtain ⟨⟨t381,t382,t383,t384,t385⟩,A46,H⟩:=H;(try dsimp only at H);have p374:0≤(x7_2:Int):=oa;have q374:x7_2<(l1.length:Int):=oa;obtain ⟨ad374,A374_1,c374_1,e374,hx374_0,hx374_1,hl374_1,hi374_1⟩:=at_T46 HR1.out x7_2 p374 q374;obtain rfl:ad364=ad374:=(by injection e374);replace hx374_0:=cb HB hx374_0;replace hx374_1:=cb HB hx374_1;(try (have ea_:=Option.some.inj ((cb HB hw364_1).symm.trans hx374_1);injection ea_ with ea_ en_ ec_;subst ea_;subst ec_;clear en_));have HR374_1:=am hi374_1;have HC374_1:=am hl374_1;clear hi374_1 hl374_1;replace p374:=eq_true p374;replace q374:=eq_true q374;have p380:0≤(x7_2:Int):=oa;have q380:x7_2<(l1.length:Int):=oa;obtain ⟨ad380,A380_1,c380_1,e380,hx380_0,hx380_1,hl380_1,hi380_1⟩:=at_T46 HR1.out x7_2 p380 q380;obtain rfl:ad364=ad380:=(by injection e380);replace hx380_0:=cb HB hx380_0;replace hx380_1:=cb HB hx380_1;(try (have ea_:=Option.some.inj ((cb HB hw364_1).symm.trans hx380_1);injection ea_ with ea_ en_ ec_;subst ea_;subst ec_;clear en_));have HR380_1:=am hi380_1;have HC380_1:=am hl380_1;clear hi380_1 hl380_1;replace p380:=eq_true p380;replace q380:=eq_true q380;(try (have ea_:=Option.some.inj (hx374_1.symm.trans hx380_1);injection ea_ with ea_ en_ ec_;subst ea_;subst ec_;clear en_))
        try go_wp2_with (fail)
        go_at_call 57;(with_reducible refine (spec_l05Read.calls k2 a0 ((rd_T46 l1 x7_2).f0) _ _ ((rd_T46 l1 x7_2).f1) t381 t382 t383 t384 t385 _ (Kd.C_below HR380_1.out (bs HB)) HC380_1.out A46.out).mono ?_);rintro e w47 ⟨rfl,hb⟩;replace HO_369004:=am (Kd.R_below (rs HO_369004) hb);replace HO_369005:=am (Kd.R_below (rs HO_369005) hb);replace BK78:=bb BK78 hb;replace BK94:=bb BK94 hb;replace BK68:=bb BK68 hb;replace HB:=bq HB hb;(try clear hb);(try clear hb2);(try clear hk);(try clear hi);have HC48:=am H;clear H
        go_upto_if 75 with (first|((with_reducible refine gate_dst (N:=8) rfl ?_);refine bx 8 (cs:=#[.int .i64 0,.string (⟨#[]⟩:ByteArray),.int .i64 0,.int .i64 0,.string (⟨#[]⟩:ByteArray)]) (t:=63) ?_;intro gb386 hg w49 hbox hb;replace HO_369004:=am (Kd.R_below (rs HO_369004) hb);replace HO_369005:=am (Kd.R_below (Kd.R_elderB (rs HO_369005) gb386 (Nat.le_of_eq hg.symm)) hb);have BK386:=am (hbox);have GW386:=gw hg HB;replace HB:=bq HB hb;have NB78_386:=na hg BK78;have NB386_78:=nc hg BK78;replace BK78:=bb BK78 hb;have NB94_386:=na hg BK94;have NB386_94:=nc hg BK94;replace BK94:=bb BK94 hb;have NB68_386:=na hg BK68;have NB386_68:=nc hg BK68;replace BK68:=bb BK68 hb;clear hb hbox hg;have hnb50:=NB386_78.out;have hnc50:=NB78_386.out;have hnb51:=NB386_94.out;have hnc51:=NB94_386.out;have hnb52:=NB386_68.out;have hnc52:=NB68_386.out;have hcz53:=cf5 BK386;have hnb54:=NB68_78.out;have hnc54:=NB78_68.out;have hnb55:=NB68_94.out;have hnc55:=NB94_68.out;have hcz56:=cf6 BK68;obtain ⟨Ao57,co57,eo57⟩:=Kd.R_slice HO_369005.out;subst eo57))
        (try simp only [Act.put,List.setIfInBounds_toArray,List.set_cons_zero,List.set_cons_succ])
        go_cut [9] (fun v9 wc=>∃ (kq:Nat) (x9_47:Int),v9=.int .i64 x9_47∧Aside0 (spec_PaperOf.j2 kq a0 l1 x7_2 x9_47 a0 t365 x161_25 x162_25 x163_2 x154_2 t381 t382 t383 t384 t385=some (r1,r2,r3,r4,r5,r6,r7,r8))∧Aside0 (kq≤k2)∧Aside0 (Kd.R Kd.string 9 wc w.heap.size (fun _=>True) u369004 x163_2)∧Aside0 (Kd.R k63 63 wc w.heap.size (fun k_=>k_≠gb386) (.slice Ao57 x154_2.length co57) x154_2)∧Aside0 (wc.heap[gb78]? = some (.cells #[.int .i64 x168_2,.string x169_2,.string x170_2,.int .i64 x171_2,(.slice none 0 0),(.slice none 0 0),.int .i64 x172_2,.int .i64 x173_2] 57 (0,0)))∧Aside0 (wc.heap[gb94]? = some (.cells #[.int .i64 t360,.int .i64 t361,.int .i64 t362] 67 (0,0)))∧Aside0 (wc.heap[gb68]? = some (.cells #[.int .i64 a0,.string t365,.string x161_25,.int .i64 x162_25,u369004,(.slice Ao57 x154_2.length co57)] 31 (0,0)))∧Aside0 (wc.heap[gb386]? = some (.cells #[.int .i64 t381,.string t382,.int .i64 t383,.int .i64 t384,.string t385] 63 (0,0)))∧Aside0 (Below w.heap.size w wc))
        case first =>
         have H:=HC48.out;clear HC48
         revert H;refine ip2 ?_ ?_
         ·intro c58 H;have c58b0:decide (0<(x154_2.length:Int))=true:=decide_eq_true c58;have c58b1:decide (0<x154_2.length)=true:=decide_eq_true (by omega);clear c58
          (first|rw [c58b0]|(simp only [i64_w,i32_w];rw [c58b0])|rw [c58b1]|skip)
          obtain ⟨ji59,hji59⟩:∃ j_:Int,(wrap64 ((x154_2.length:Int) - 1))=j_:=⟨_,rfl⟩
          replace H:(if 0≤(ji59) then (if (ji59)<(x154_2.length:Int) then (spec_PaperOf.j2 k2 a0 l1 x7_2 ((rd_T63 x154_2 (ji59)).f0) a0 t365 x161_25 x162_25 x163_2 x154_2 t381 t382 t383 t384 t385) else (none)) else (none))=some (r1,r2,r3,r4,r5,r6,r7,r8):=by first|(rw [hji59] at H;exact H)|(simp only [hji59] at H ⊢;exact H)
          have hji59w:(IntKind.i64.wrap ((x154_2.length:Int) - 1))=ji59:=(i64_w _).trans hji59
          revert H;refine id1 ?_
          intro c60b0 H
          revert H;refine id1 ?_
          intro c61b0 H;have H':=am H;clear H;have hnb62:=NB68_78.out;have hnc62:=NB78_68.out;have hnb63:=NB68_94.out;have hnc63:=NB94_68.out;have hnb64:=NB68_386.out;have hnc64:=NB386_68.out;have hcz65:=cf6 BK68;have p387:0≤((ji59):Int):=oa;have q387:(ji59)<(x154_2.length:Int):=oa;obtain ⟨ad387,e387,hx387_0,hx387_1,hx387_2,hx387_3,hx387_4⟩:=at_T63 (Kd.R_reads' HO_369005.out).2.2 (ji59) p387 q387
          cases e387
          have hn387_0:ad387.block≠gb386:=Kd.own_blk ((by first|exact Kd.R_ne HO_369005.out BK386.out (by decide)|exact fun e_=>(HO_369005.out.1 _ e_.symm).2 rfl|exact fun e_=>(HO_369005.out.1 _ e_.symm) rfl));have hn387_1:ad387.block≠gb386:=Kd.own_blk ((by first|exact Kd.R_ne HO_369005.out BK386.out (by decide)|exact fun e_=>(HO_369005.out.1 _ e_.symm).2 rfl|exact fun e_=>(HO_369005.out.1 _ e_.symm) rfl));have hn387_2:ad387.block≠gb386:=Kd.own_blk ((by first|exact Kd.R_ne HO_369005.out BK386.out (by decide)|exact fun e_=>(HO_369005.out.1 _ e_.symm).2 rfl|exact fun e_=>(HO_369005.out.1 _ e_.symm) rfl));have hn387_3:ad387.block≠gb386:=Kd.own_blk ((by first|exact Kd.R_ne HO_369005.out BK386.out (by decide)|exact fun e_=>(HO_369005.out.1 _ e_.symm).2 rfl|exact fun e_=>(HO_369005.out.1 _ e_.symm) rfl));have hn387_4:ad387.block≠gb386:=Kd.own_blk ((by first|exact Kd.R_ne HO_369005.out BK386.out (by decide)|exact fun e_=>(HO_369005.out.1 _ e_.symm).2 rfl|exact fun e_=>(HO_369005.out.1 _ e_.symm) rfl));replace hx387_0:=(cell_far (p:=⟨gb386,0,none⟩) (by exact nz hn387_0) (.int .i64 t381)).trans hx387_0;replace hx387_1:=(cell_far (p:=⟨gb386,0,none⟩) (by exact nz hn387_0) (.int .i64 t381)).trans hx387_1;replace hx387_2:=(cell_far (p:=⟨gb386,0,none⟩) (by exact nz hn387_0) (.int .i64 t381)).trans hx387_2;replace hx387_3:=(cell_far (p:=⟨gb386,0,none⟩) (by exact nz hn387_0) (.int .i64 t381)).trans hx387_3;replace hx387_4:=(cell_far (p:=⟨gb386,0,none⟩) (by exact nz hn387_0) (.int .i64 t381)).trans hx387_4;replace hx387_0:=(cell_far (p:=⟨gb386,1,none⟩) (by exact nz hn387_1) (.string t382)).trans hx387_0;replace hx387_1:=(cell_far (p:=⟨gb386,1,none⟩) (by exact nz hn387_1) (.string t382)).trans hx387_1;replace hx387_2:=(cell_far (p:=⟨gb386,1,none⟩) (by exact nz hn387_1) (.string t382)).trans hx387_2;replace hx387_3:=(cell_far (p:=⟨gb386,1,none⟩) (by exact nz hn387_1) (.string t382)).trans hx387_3;replace hx387_4:=(cell_far (p:=⟨gb386,1,none⟩) (by exact nz hn387_1) (.string t382)).trans hx387_4;replace hx387_0:=(cell_far (p:=⟨gb386,2,none⟩) (by exact nz hn387_2) (.int .i64 t383)).trans hx387_0;replace hx387_1:=(cell_far (p:=⟨gb386,2,none⟩) (by exact nz hn387_2) (.int .i64 t383)).trans hx387_1;replace hx387_2:=(cell_far (p:=⟨gb386,2,none⟩) (by exact nz hn387_2) (.int .i64 t383)).trans hx387_2;replace hx387_3:=(cell_far (p:=⟨gb386,2,none⟩) (by exact nz hn387_2) (.int .i64 t383)).trans hx387_3;replace hx387_4:=(cell_far (p:=⟨gb386,2,none⟩) (by exact nz hn387_2) (.int .i64 t383)).trans hx387_4;replace hx387_0:=(cell_far (p:=⟨gb386,3,none⟩) (by exact nz hn387_3) (.int .i64 t384)).trans hx387_0;replace hx387_1:=(cell_far (p:=⟨gb386,3,none⟩) (by exact nz hn387_3) (.int .i64 t384)).trans hx387_1;replace hx387_2:=(cell_far (p:=⟨gb386,3,none⟩) (by exact nz hn387_3) (.int .i64 t384)).trans hx387_2;replace hx387_3:=(cell_far (p:=⟨gb386,3,none⟩) (by exact nz hn387_3) (.int .i64 t384)).trans hx387_3;replace hx387_4:=(cell_far (p:=⟨gb386,3,none⟩) (by exact nz hn387_3) (.int .i64 t384)).trans hx387_4;replace hx387_0:=(cell_far (p:=⟨gb386,4,none⟩) (by exact nz hn387_4) (.string t385)).trans hx387_0;replace hx387_1:=(cell_far (p:=⟨gb386,4,none⟩) (by exact nz hn387_4) (.string t385)).trans hx387_1;replace hx387_2:=(cell_far (p:=⟨gb386,4,none⟩) (by exact nz hn387_4) (.string t385)).trans hx387_2;replace hx387_3:=(cell_far (p:=⟨gb386,4,none⟩) (by exact nz hn387_4) (.string t385)).trans hx387_3;replace hx387_4:=(cell_far (p:=⟨gb386,4,none⟩) (by exact nz hn387_4) (.string t385)).trans hx387_4;clear hn387_0;clear hn387_1;clear hn387_2;clear hn387_3;clear hn387_4;replace p387:=eq_true p387;replace q387:=eq_true q387
          go_wp2
          go_meet
          case rel=>exact ⟨_,((rd_T63 x154_2 (ji59)).f0),(by first|rfl|(simp;done)|(simp only [← hji59] <;> (first|rfl|simp))|(simp [*];done)),H',⟨by have:=HJ25.out;have:=HK2.out;first|omega|exact Nat.le_refl _⟩,⟨Kd.R_mono (rf (Kd.R_types HO_369004.out BK386.out (by decide))) (fun _ hk=>trivial)⟩,⟨Kd.R_mono (rf (Kd.R_mono HO_369005.out (fun k_ hk=>(⟨hk,hk.2⟩:_∧k_≠gb386)))) (fun _ hk=>hk.1.2)⟩,⟨ks BK78⟩,⟨ks BK94⟩,⟨ks BK68⟩,⟨kp BK386⟩,⟨bs HB⟩⟩
         ·intro c58 H;have c58b0:decide (0<(x154_2.length:Int))=false:=decide_eq_false c58;have c58b1:decide (0<x154_2.length)=false:=decide_eq_false (by omega);clear c58
          (first|rw [c58b0]|(simp only [i64_w,i32_w];rw [c58b0])|rw [c58b1]|skip)
          have H':=am H;clear H
          go_wp2
          go_meet
          case rel=>exact ⟨_,(0),fg,H',⟨by have:=HJ25.out;have:=HK2.out;first|omega|exact Nat.le_refl _⟩,⟨Kd.R_mono (rf (Kd.R_types HO_369004.out BK386.out (by decide))) (fun _ hk=>trivial)⟩,⟨Kd.R_mono (rf (Kd.R_mono HO_369005.out (fun k_ hk=>(⟨hk,hk.2⟩:_∧k_≠gb386)))) (fun _ hk=>hk.1.2)⟩,⟨ks BK78⟩,⟨ks BK94⟩,⟨ks BK68⟩,⟨kp BK386⟩,⟨bs HB⟩⟩
        case rest =>
         clear HC48
         try clear c1
         try clear c7
         try clear c36b0
         try clear c37b0
         try clear c38
         try clear c38b0
         try clear c38b1
         try clear hcz13
         try clear hcz53
         try clear hcz56
         try clear hx364_0
         try clear hx364_1
         try clear hx366_0
         try clear hx366_1
         try clear hx374_0
         try clear hx374_1
         try clear hx380_0
         try clear hx380_1
         try clear p364
         try clear p366
         try clear p374
         try clear p380
         try clear q364
         try clear q366
         try clear q374
         try clear q380
         obtain ⟨kq,x9_47,rfl,HA,HJ47,HO_369004,HO_369005,BK78,BK94,BK68,BK386,HB⟩:=hcut
         cases kq with
         | zero=>exact absurd HA.out (by simp [spec_PaperOf.j2])
         | succ kj47 =>
          have H:=HA.out;clear HA;simp only [spec_PaperOf.j2] at H;have HC66:=am H;clear H
          go_upto_region 17 with (fail)
          go_cut [97] (fun v97 wc=>∃ (kq:Nat) (x97_65:Bool),v97=.bool x97_65∧Aside0 (spec_PaperOf.j3 kq a0 l1 x7_2 x97_65 a0 t365 x161_25 x162_25 x163_2 x154_2 t381 t382 t383 t384 t385=some (r1,r2,r3,r4,r5,r6,r7,r8))∧Aside0 (kq≤kj47)∧Aside0 (Kd.R Kd.string 9 wc w.heap.size (fun _=>True) u369004 x163_2)∧Aside0 (Kd.R k63 63 wc w.heap.size (fun k_=>k_≠gb386) (.slice Ao57 x154_2.length co57) x154_2)∧Aside0 (wc.heap[gb78]? = some (.cells #[.int .i64 x168_2,.string x169_2,.string x170_2,.int .i64 x171_2,(.slice none 0 0),(.slice none 0 0),.int .i64 x172_2,.int .i64 x173_2] 57 (0,0)))∧Aside0 (wc.heap[gb94]? = some (.cells #[.int .i64 t360,.int .i64 t361,.int .i64 t362] 67 (0,0)))∧Aside0 (wc.heap[gb68]? = some (.cells #[.int .i64 a0,.string t365,.string x161_25,.int .i64 x162_25,u369004,(.slice Ao57 x154_2.length co57)] 31 (0,0)))∧Aside0 (wc.heap[gb386]? = some (.cells #[.int .i64 t381,.string t382,.int .i64 t383,.int .i64 t384,.string t385] 63 (0,0)))∧Aside0 (Below w.heap.size w wc))
          case first =>
           have H:=HC66.out;clear HC66;replace H:=bo H;obtain ⟨t388,A67,H⟩:=H
           try go_wp2_with (fail)
           go_at_call 58;(with_reducible refine (spec_l05Numbered.calls a0 t388 _ A67.out).mono ?_);rintro e w' ⟨rfl,⟨nd,rfl⟩⟩
           obtain rfl|rfl:=bt t388
           ·replace H:=itT H
            revert H;refine id2 ?_ ?_
            ·intro c69b0 H
             (first|rw [c69b0]|(simp only [i64_w,i32_w];rw [c69b0])|skip)
             have H':=am H;clear H;have hnb70:=NB386_78.out;have hnc70:=NB78_386.out;have hnb71:=NB386_94.out;have hnc71:=NB94_386.out;have hnb72:=NB386_68.out;have hnc72:=NB68_386.out;have hcz73:=cf5 BK386
             go_wp2
             go_meet
             case rel=>exact ⟨_,(true),fg,H',⟨by have:=HJ25.out;have:=HK2.out;have:=HJ47.out;first|omega|exact Nat.le_refl _⟩,⟨rz HO_369004.out⟩,⟨rz HO_369005.out⟩,⟨ks BK78⟩,⟨ks BK94⟩,⟨ks BK68⟩,⟨ks BK386⟩,⟨bs HB⟩⟩
            ·intro c69b0 H
             (first|rw [c69b0]|(simp only [i64_w,i32_w];rw [c69b0])|skip)
             have H':=am H;clear H;have hnb74:=NB386_78.out;have hnc74:=NB78_386.out;have hnb75:=NB386_94.out;have hnc75:=NB94_386.out;have hnb76:=NB386_68.out;have hnc76:=NB68_386.out;have hcz77:=cf5 BK386
             go_wp2
             go_meet
             case rel=>exact ⟨_,(decide (t381>999)),fg,H',⟨by have:=HJ25.out;have:=HK2.out;have:=HJ47.out;first|omega|exact Nat.le_refl _⟩,⟨rz HO_369004.out⟩,⟨rz HO_369005.out⟩,⟨ks BK78⟩,⟨ks BK94⟩,⟨ks BK68⟩,⟨ks BK386⟩,⟨bs HB⟩⟩
           ·replace H:=itF H;have H':=am H;clear H
            go_wp2
            go_meet
            case rel=>exact ⟨_,(false),fg,H',⟨by have:=HJ25.out;have:=HK2.out;have:=HJ47.out;first|omega|exact Nat.le_refl _⟩,⟨rz HO_369004.out⟩,⟨rz HO_369005.out⟩,⟨ks BK78⟩,⟨ks BK94⟩,⟨ks BK68⟩,⟨ks BK386⟩,⟨bs HB⟩⟩
          case rest =>
           clear HC66
           try clear c1
           try clear c7
           try clear c36b0
           try clear c37b0
           try clear c38
           try clear c38b0
           try clear c38b1
           try clear hcz13
           try clear hcz53
           try clear hcz56
           try clear hx364_0
           try clear hx364_1
           try clear hx366_0
           try clear hx366_1
           try clear hx374_0
           try clear hx374_1
           try clear hx380_0
           try clear hx380_1
           try clear p364
           try clear p366
           try clear p374
           try clear p380
           try clear q364
           try clear q366
           try clear q374
           try clear q380
           obtain ⟨kq,x97_65,rfl,HA,HJ65,HO_369004,HO_369005,BK78,BK94,BK68,BK386,HB⟩:=hcut
           cases kq with
           | zero=>exact absurd HA.out (by simp [spec_PaperOf.j3])
           | succ kj65 =>
            have H:=HA.out;clear HA;simp only [spec_PaperOf.j3] at H
            obtain rfl|rfl:=bt x97_65
            ·replace H:=itT H;replace H:=sj8 H;obtain ⟨rfl,rfl,rfl,rfl,rfl,rfl,rfl,rfl⟩:=H;have hnb79:=NB78_94.out;have hnc79:=NB94_78.out;have hnb80:=NB78_68.out;have hnc80:=NB68_78.out;have hnb81:=NB78_386.out;have hnc81:=NB386_78.out;have hcz82:=cf8 BK78
             go_wp2
             refine bodyPost_ret (results_cell_row rfl _ _ gb78 57 #[.int .i64 0,.string (⟨#[]⟩:ByteArray),.string (⟨#[]⟩:ByteArray),.int .i64 0,.slice none 0 0,.slice none 0 0,.int .i64 x7_2,.int .i64 11] (0,0) _ rfl (kp BK78) Tryz.underlying57 rfl (by kernel_rfl)) rfl ?_
             exact ⟨_,_,ff,by first|exact Kd.R_nil _ _ _ _ _|exact Kd.N_nil _ _ _ _ _|exact Kd.V_nil _ _ _ _ _|exact Kd.Q_nil _ _ _ _ _|exact Kd.S_nil _ _ _ _ _,by first|exact Kd.R_nil _ _ _ _ _|exact Kd.N_nil _ _ _ _ _|exact Kd.V_nil _ _ _ _ _|exact Kd.Q_nil _ _ _ _ _|exact Kd.S_nil _ _ _ _ _,bs HB⟩
            ·replace H:=itF H;have H':=am H;clear H
             go_wp2
             go_loopg [10] kj65 (fun kq v10 w'=>∃ (x10_5:Int) (x168_5:Int) (x169_5:ByteArray) (x170_5:ByteArray) (x171_5:Int) (x172_5:Int) (x173_5:Int),v10=.int .i64 x10_5∧Aside0 (spec_PaperOf.l1 kq a0 l1 x7_2 x10_5 a0 t365 x161_25 x162_25 x163_2 x154_2 t381 t382 t383 t384 t385=some (r1,r2,r3,r4,r5,r6,r7,r8))∧Aside0 (kq≤kj65)∧Aside0 (Kd.R Kd.string 9 w' w.heap.size (fun _=>True) u369004 x163_2)∧Aside0 (Kd.R k63 63 w' w.heap.size (fun k_=>k_≠gb386) (.slice Ao57 x154_2.length co57) x154_2)∧Aside0 (w'.heap[gb78]? = some (.cells #[.int .i64 x168_5,.string x169_5,.string x170_5,.int .i64 x171_5,(.slice none 0 0),(.slice none 0 0),.int .i64 x172_5,.int .i64 x173_5] 57 (0,0)))∧Aside0 (w'.heap[gb94]? = some (.cells #[.int .i64 t360,.int .i64 t361,.int .i64 t362] 67 (0,0)))∧Aside0 (w'.heap[gb68]? = some (.cells #[.int .i64 a0,.string t365,.string x161_25,.int .i64 x162_25,u369004,(.slice Ao57 x154_2.length co57)] 31 (0,0)))∧Aside0 (w'.heap[gb386]? = some (.cells #[.int .i64 t381,.string t382,.int .i64 t383,.int .i64 t384,.string t385] 63 (0,0)))∧Aside0 (Below w.heap.size w w'))
             case atStart=>exact ⟨(0),(x168_2),(x169_2),(x170_2),(x171_2),(x172_2),(x173_2),fg,H',⟨Nat.le_refl _⟩,⟨rz HO_369004.out⟩,⟨rz HO_369005.out⟩,⟨ks BK78⟩,⟨ks BK94⟩,⟨ks BK68⟩,⟨ks BK386⟩,⟨bs HB⟩⟩
             case round =>
              clear H'
              try clear c1
              try clear c7
              try clear c36b0
              try clear c37b0
              try clear c38
              try clear c38b0
              try clear c38b1
              try clear hcz13
              try clear hcz53
              try clear hcz56
              try clear hx364_0
              try clear hx364_1
              try clear hx366_0
              try clear hx366_1
              try clear hx374_0
              try clear hx374_1
              try clear hx380_0
              try clear hx380_1
              try clear p364
              try clear p366
              try clear p374
              try clear p380
              try clear q364
              try clear q366
              try clear q374
              try clear q380
              try clear BK78
              try clear BK94
              try clear BK68
              try clear BK386
              obtain ⟨x10_5,x168_5,x169_5,x170_5,x171_5,x172_5,x173_5,rfl,HA,HK5,HO_369004,HO_369005,BK78,BK94,BK68,BK386,HB⟩:=hrel
              cases gk with
              | zero=>exact absurd HA.out (by simp [spec_PaperOf.l1])
              | succ k5 =>
               have H:=HA.out;clear HA;simp only [spec_PaperOf.l1] at H;have HC83:=am H;clear H
               go_upto_region 20 with (fail)
               go_cut [108] (fun v108 wc=>∃ (kq:Nat) (x108_82:Bool),v108=.bool x108_82∧Aside0 (spec_PaperOf.j5 kq a0 l1 x7_2 x10_5 x108_82 a0 t365 x161_25 x162_25 x163_2 x154_2 t381 t382 t383 t384 t385=some (r1,r2,r3,r4,r5,r6,r7,r8))∧Aside0 (kq≤k5)∧Aside0 (Kd.R Kd.string 9 wc w.heap.size (fun _=>True) u369004 x163_2)∧Aside0 (Kd.R k63 63 wc w.heap.size (fun k_=>k_≠gb386) (.slice Ao57 x154_2.length co57) x154_2)∧Aside0 (wc.heap[gb78]? = some (.cells #[.int .i64 x168_5,.string x169_5,.string x170_5,.int .i64 x171_5,(.slice none 0 0),(.slice none 0 0),.int .i64 x172_5,.int .i64 x173_5] 57 (0,0)))∧Aside0 (wc.heap[gb94]? = some (.cells #[.int .i64 t360,.int .i64 t361,.int .i64 t362] 67 (0,0)))∧Aside0 (wc.heap[gb68]? = some (.cells #[.int .i64 a0,.string t365,.string x161_25,.int .i64 x162_25,u369004,(.slice Ao57 x154_2.length co57)] 31 (0,0)))∧Aside0 (wc.heap[gb386]? = some (.cells #[.int .i64 t381,.string t382,.int .i64 t383,.int .i64 t384,.string t385] 63 (0,0)))∧Aside0 (Below w.heap.size w wc))
               case first =>
                have H:=HC83.out;clear HC83
                revert H;refine id2 ?_ ?_
                ·intro c84b0 H
                 (first|rw [c84b0]|(simp only [i64_w,i32_w];rw [c84b0])|skip)
                 replace H:=bo H;obtain ⟨t389,A85,H⟩:=H;have H':=am H;clear H;have hnb86:=NB68_78.out;have hnc86:=NB78_68.out;have hnb87:=NB68_94.out;have hnc87:=NB94_68.out;have hnb88:=NB68_386.out;have hnc88:=NB386_68.out;have hcz89:=cf6 BK68
                 go_wp2_with (first|(go_at_call 59;(with_reducible refine (spec_l05Own.calls a0 t389 _ A85.out).mono ?_);rintro e w' ⟨rfl,⟨nd,rfl⟩⟩))
                 go_meet
                 case rel=>exact ⟨_,(t389),fg,H',⟨by have:=HJ25.out;have:=HK2.out;have:=HJ47.out;have:=HJ65.out;have:=HK5.out;first|omega|exact Nat.le_refl _⟩,⟨rz HO_369004.out⟩,⟨rz HO_369005.out⟩,⟨ks BK78⟩,⟨ks BK94⟩,⟨ks BK68⟩,⟨ks BK386⟩,⟨bs HB⟩⟩
                ·intro c84b0 H
                 (first|rw [c84b0]|(simp only [i64_w,i32_w];rw [c84b0])|skip)
                 have H':=am H;clear H;have hnb90:=NB68_78.out;have hnc90:=NB78_68.out;have hnb91:=NB68_94.out;have hnc91:=NB94_68.out;have hnb92:=NB68_386.out;have hnc92:=NB386_68.out;have hcz93:=cf6 BK68
                 go_wp2
                 go_meet
                 case rel=>exact ⟨_,(false),fg,H',⟨by have:=HJ25.out;have:=HK2.out;have:=HJ47.out;have:=HJ65.out;have:=HK5.out;first|omega|exact Nat.le_refl _⟩,⟨rz HO_369004.out⟩,⟨rz HO_369005.out⟩,⟨ks BK78⟩,⟨ks BK94⟩,⟨ks BK68⟩,⟨ks BK386⟩,⟨bs HB⟩⟩
               case rest =>
                clear HC83
                try clear c1
                try clear c7
                try clear c36b0
                try clear c37b0
                try clear c38
                try clear c38b0
                try clear c38b1
                try clear hcz13
                try clear hcz53
                try clear hcz56
                try clear hx364_0
                try clear hx364_1
                try clear hx366_0
                try clear hx366_1
                try clear hx374_0
                try clear hx374_1
                try clear hx380_0
                try clear hx380_1
                try clear p364
                try clear p366
                try clear p374
                try clear p380
                try clear q364
                try clear q366
                try clear q374
                try clear q380
                obtain ⟨kq,x108_82,rfl,HA,HJ82,HO_369004,HO_369005,BK78,BK94,BK68,BK386,HB⟩:=hcut
                cases kq with
                | zero=>exact absurd HA.out (by simp [spec_PaperOf.j5])
                | succ kj82 =>
                 have H:=HA.out;clear HA;simp only [spec_PaperOf.j5] at H
                 obtain rfl|rfl:=bt x108_82
                 ·replace H:=itT H
                  revert H;refine id1 ?_
                  intro c95b0 H
                  revert H;refine id1 ?_
                  intro c96b0 H
                  revert H;refine ie2 ?_ ?_
                  ·intro c97b0 c97b1 H;replace H:=sj8 H;obtain ⟨rfl,rfl,rfl,rfl,rfl,rfl,rfl,rfl⟩:=H
                   try go_wp2
                   replace HO_369004:=am (Kd.R_drew HO_369004.out);replace HO_369005:=am (Kd.R_drew HO_369005.out);replace BK78:=am (blk_drew BK78.out);replace BK94:=am (blk_drew BK94.out);replace BK68:=am (blk_drew BK68.out);replace BK386:=am (blk_drew BK386.out);replace HB:=am (below_drew1 HB.out);have p390:0≤(x10_5:Int):=oa;have q390:x10_5<(x154_2.length:Int):=oa;obtain ⟨ad390,e390,hx390_0,hx390_1,hx390_2,hx390_3,hx390_4⟩:=at_T63 (Kd.R_reads' HO_369005.out).2.2 x10_5 p390 q390
                   cases e390
                   replace p390:=eq_true p390;replace q390:=eq_true q390;refine sta 9 (hb6a BK68 (hb5a BK386 (hca hx390_0 (hca hx390_1 (hca hx390_2 (hca hx390_3 (hc hx390_4))))))) (fun hHeld=>?_);refine with_tabW spec_PaperOf.tab22 spec_PaperOf.bits22 (fun HT_ HW_=>?_)
                   generalize wc.drew=w98 at HO_369004 HO_369005 BK78 BK94 BK68 BK386 HB hx390_0 hx390_1 hx390_2 hx390_3 hx390_4 hHeld ⊢
                   refine pz1 0 ?_;refine pz1 2 ?_;refine pz1 6 ?_;refine ta 1 ?_;refine pz2 3 ?_;refine ta 5 ?_;refine ta 7 ?_;refine pz1 8 ?_;refine done_ (done_of HT_.out (by kernel_rfl)) ?_;have hnb99:=NB78_94.out;have hnc99:=NB94_78.out;have hnb100:=NB78_68.out;have hnc100:=NB68_78.out;have hnb101:=NB78_386.out;have hnc101:=NB386_78.out;have hcz102:=cf8 BK78
                   try go_wp2
                   refine bodyPost_ret (results_cell_row rfl _ _ gb78 57 #[.int .i64 0,.string (⟨#[]⟩:ByteArray),.string (⟨#[]⟩:ByteArray),.int .i64 0,.slice none 0 0,.slice none 0 0,.int .i64 x7_2,.int .i64 11] (0,0) _ rfl (kp BK78) Tryz.underlying57 rfl (by kernel_rfl)) rfl ?_
                   exact ⟨_,_,ff,by first|exact Kd.R_nil _ _ _ _ _|exact Kd.N_nil _ _ _ _ _|exact Kd.V_nil _ _ _ _ _|exact Kd.Q_nil _ _ _ _ _|exact Kd.S_nil _ _ _ _ _,by first|exact Kd.R_nil _ _ _ _ _|exact Kd.N_nil _ _ _ _ _|exact Kd.V_nil _ _ _ _ _|exact Kd.Q_nil _ _ _ _ _|exact Kd.S_nil _ _ _ _ _,bs HB⟩
                  ·intro c97 c97b0 c97b1 H;have H':=am H;clear H
                   try go_wp2
                   replace HO_369004:=am (Kd.R_drew HO_369004.out);replace HO_369005:=am (Kd.R_drew HO_369005.out);replace BK78:=am (blk_drew BK78.out);replace BK94:=am (blk_drew BK94.out);replace BK68:=am (blk_drew BK68.out);replace BK386:=am (blk_drew BK386.out);replace HB:=am (below_drew1 HB.out);have p390:0≤(x10_5:Int):=oa;have q390:x10_5<(x154_2.length:Int):=oa;obtain ⟨ad390,e390,hx390_0,hx390_1,hx390_2,hx390_3,hx390_4⟩:=at_T63 (Kd.R_reads' HO_369005.out).2.2 x10_5 p390 q390
                   cases e390
                   replace p390:=eq_true p390;replace q390:=eq_true q390;refine sta 9 (hb6a BK68 (hb5a BK386 (hca hx390_0 (hca hx390_1 (hca hx390_2 (hca hx390_3 (hc hx390_4))))))) (fun hHeld=>?_);refine with_tabW spec_PaperOf.tab22 spec_PaperOf.bits22 (fun HT_ HW_=>?_)
                   generalize wc.drew=w103 at HO_369004 HO_369005 BK78 BK94 BK68 BK386 HB hx390_0 hx390_1 hx390_2 hx390_3 hx390_4 hHeld ⊢
                   refine pz1 0 ?_;refine pz1 2 ?_;refine pz1 6 ?_;refine ta 1 ?_;refine pz2 3 ?_;refine ta 5 ?_;refine ta 7 ?_;refine pz1 8 ?_;refine done_ (done_of HT_.out (by kernel_rfl)) ?_
                   try go_wp2
                   go_roundg kj82
                   case measure=>have:=HJ25.out;have:=HK2.out;have:=HJ47.out;have:=HJ65.out;have:=HK5.out;have:=HJ82.out;omega
                   case rel=>exact ⟨(wrap64 (x10_5+1)),(x168_5),(x169_5),(x170_5),(x171_5),(x172_5),(x173_5),fg,H',⟨by have:=HJ25.out;have:=HK2.out;have:=HJ47.out;have:=HJ65.out;have:=HK5.out;have:=HJ82.out;omega⟩,⟨rz HO_369004.out⟩,⟨rz HO_369005.out⟩,⟨ks BK78⟩,⟨ks BK94⟩,⟨ks BK68⟩,⟨ks BK386⟩,⟨bs HB⟩⟩
                 ·replace H:=itF H;replace H:=bo H;obtain ⟨⟨t391,t392⟩,A104,H⟩:=H;(try dsimp only at H)
                  revert H;refine id1 ?_
                  intro c105b0 H
                  revert H;refine id1 ?_
                  intro c106b0 H;replace H:=bo H;obtain ⟨t396,A107,H⟩:=H
                  obtain rfl|rfl:=bt t396
                  ·replace H:=itT H
                   revert H;refine ip1 ?_
                   intro c109 H;have LMc109:=am c109;clear c109;obtain ⟨y397,hy397⟩:∃ y_:List (S63),y_=(x154_2++[(⟨t381,t382,t383,t384,t385⟩:S63)]):=⟨_,rfl⟩
                   replace H:(spec_PaperOf.l0 kj82 a0 l1 (wrap64 (x7_2+1)) a0 t365 x161_25 x162_25 x163_2 y397)=some (r1,r2,r3,r4,r5,r6,r7,r8):=ye hy397 H
                   have Ny397:=am hy397;clear hy397;have H':=am H;clear H
                   try go_wp2
                   replace HO_369004:=am (Kd.R_drew HO_369004.out);replace HO_369005:=am (Kd.R_drew HO_369005.out);replace BK78:=am (blk_drew BK78.out);replace BK94:=am (blk_drew BK94.out);replace BK68:=am (blk_drew BK68.out);replace BK386:=am (blk_drew BK386.out);replace HB:=am (below_drew1 HB.out);have p395:0≤(x7_2:Int):=oa;have q395:x7_2<(l1.length:Int):=oa;obtain ⟨ad395,A395_1,c395_1,e395,hx395_0,hx395_1,hl395_1,hi395_1⟩:=at_T46 HR1.out x7_2 p395 q395;have hw395_1:=hx395_1;have hw395_0:=hx395_0;obtain rfl:ad364=ad395:=(by injection e395);replace hx395_0:=cb HB hx395_0;replace hx395_1:=cb HB hx395_1;(try (have ea_:=Option.some.inj ((cb HB hw364_1).symm.trans hx395_1);injection ea_ with ea_ en_ ec_;subst ea_;subst ec_;clear en_));have HR395_1:=am hi395_1;have HC395_1:=am hl395_1;clear hi395_1 hl395_1;replace p395:=eq_true p395;replace q395:=eq_true q395;refine sta 9 (hb5a BK386 (hca (cb HB hw395_0) (hc (cb HB hw395_1)))) (fun hHeld=>?_);refine with_tabW spec_PaperOf.tab24 spec_PaperOf.bits24 (fun HT_ HW_=>?_)
                   generalize wc.drew=w110 at HO_369004 HO_369005 BK78 BK94 BK68 BK386 HB HR395_1 hx395_0 hx395_1 hHeld ⊢
                   refine pz1 0 ?_;refine pz3 3 ?_;refine ta 1 ?_;refine ta 6 ?_;refine oA 2 124 HT_ (fun K hK=>?_);refine gA Tryz.func36 #[.int .i64 a0,.agg #[.int .i64 t381,.string t382,.int .i64 t383,.int .i64 t384,.string t385]] ?_;(with_reducible refine (spec_l05Line.calls kj82 a0 t381 t382 t383 t384 t385 t391 t392 _ A104.out).mono ?_);rintro e w111 ⟨v393,rfl,ho0,hb⟩;refine ⟨_,rfl,?_⟩;replace HO_369005:=am (Kd.R_below (rs HO_369005) hb);have HO394:=am (Kd.S_lower (Kd.S_new' ho0 (Kd.R_lt (rs HO_369004))) (below_size (bs HB)));replace HO_369004:=am (Kd.R_below (rs HO_369004) hb);replace BK78:=bb BK78 hb;replace BK94:=bb BK94 hb;replace BK68:=bb BK68 hb;replace BK386:=bb BK386 hb;replace HB:=bq HB hb;(try clear hb);(try clear hb2);(try clear hk);(try clear hi);(try clear ho0);obtain ⟨Ao112,co112,eo112⟩:=Kd.S_slice HO394.out
                   (first|subst eo112|(injection eo112 with f1_ f2_ f3_;have f4_:=f1_.symm;have f5_:=f3_.symm;clear f1_ f2_ f3_;subst f4_;subst f5_))
                   refine hK.out _ _ (hb5a BK386 (hca (cb HB hw395_0) (hc (cb HB hw395_1)))).out (fun hHeld=>?_);clear hK K;refine nA 124 ?_;refine oA 7 129 HT_ (fun K hK=>?_);refine gA Tryz.func60 #[.agg #[.string t391,.slice Ao112 t392.length co112],.agg #[.string ((rd_T46 l1 x7_2).f0),.slice A395_1 ((rd_T46 l1 x7_2).f1).length c395_1]] ?_;(with_reducible refine (spec_l03SameSeg.calls kj82 t391 _ _ t392 ((rd_T46 l1 x7_2).f0) _ _ ((rd_T46 l1 x7_2).f1) true _ ?side1 ?side2 ?side3 ?side4 A107.out).mono ?_)
                   (case side1=>exact sd (Kd.S_reads' HO394.out).2.2)
                   (case side2=>exact (Kd.S_reads' HO394.out).2.1)
                   (case side3=>exact sd (Kd.C_below HR395_1.out HB.out))
                   (case side4=>exact HC395_1.out)
                   rintro e w113 ⟨rfl,hb⟩;refine ⟨_,rfl,?_⟩;have n0_:=am (Kd.R_below (rs HO_369004) hb);have n1_:=am (Kd.R_below (rs HO_369005) hb);have n2_:=am (Kd.S_below (by (with_reducible repeat (first|apply Kd.S_alloc|apply Kd.S_drewN|apply Kd.S_drew));exact HO394.out) hb);have n3_:=am (blk_below (ks BK78) hb);have n4_:=am (blk_below (ks BK94) hb);have n5_:=am (blk_below (ks BK68) hb);have n6_:=am (blk_below (ks BK386) hb);have n7_:=am (below_step (bs HB) hb);clear HO_369004;clear HO_369005;clear HO394;clear BK78;clear BK94;clear BK68;clear BK386;clear HB;have HO_369004:=n0_;have HO_369005:=n1_;have HO394:=n2_;have BK78:=n3_;have BK94:=n4_;have BK68:=n5_;have BK386:=n6_;have HB:=n7_;clear n0_ n1_ n2_ n3_ n4_ n5_ n6_ n7_;(try clear hb);(try clear hb2);(try clear hk);(try clear hi);refine hK.out _ _ (hb5a BK386 (hca (cb HB hw395_0) (hc (cb HB hw395_1)))).out (fun hHeld=>?_);clear hK K;refine nA 129 ?_;refine pz1 8 ?_;refine done_ (done_of HT_.out (by kernel_rfl)) ?_;have hnb114:=NB68_78.out;have hnc114:=NB78_68.out;have hnb115:=NB68_94.out;have hnc115:=NB94_68.out;have hnb116:=NB68_386.out;have hnc116:=NB386_68.out;have hcz117:=cf6 BK68;have hnb118:=NB386_78.out;have hnc118:=NB78_386.out;have hnb119:=NB386_94.out;have hnc119:=NB94_386.out;have hcz120:=cf5 BK386
                   try go_wp2_with (first|((with_reducible refine gate_builtin (b:=.append) (xs:=#[.tmp 134,.tmp 136]) rfl ?_);at_builtin;refine Kd.R_append k63 (w0:=w) w.heap.size rfl (.tmp 134) (.tmp 136) 29 63 (.agg #[(.int .i64 0),(.string ⟨#[]⟩),(.int .i64 0),(.int .i64 0),(.string ⟨#[]⟩)]) 56 rfl Tryz.underlying29 info63 rfl (by decide) (by omega) (.slice Ao57 x154_2.length co57) x154_2 (⟨t381,t382,t383,t384,t385⟩:S63) [.int .i64 t381,.string t382,.int .i64 t383,.int .i64 t384,.string t385] (fun k_=>k_≠gb386) (fun _=>False) rfl rfl ?aP (fun _ hk=>hk.elim) ?aF ?aO ?aB ?aS ?aL ?_;(case aP=>exact k63_mkM _ _ _ (⟨t381,t382,t383,t384,t385⟩:S63));(case aB=>exact (bs HB));(case aF=>exact (fun k_ hk=>Kd.freshB (g:=gb386) (o:=.cells #[.int .i64 t381,.string t382,.int .i64 t383,.int .i64 t384,.string t385] 63 (0,0)) (ks BK386) k_ hk));(case aO=>exact (rs HO_369005));(case aS=>exact (below_size (bs HB)));(case aL=>have:=LMc109.out;omega);intro v398 w121 ho hb hg hat;rw [← Ny397.out] at ho;have n0_:=am (Kd.R_over' (rs HO_369004) (Kd.R_typed (rs HO_369005)) (by decide) hg);have n1_:=am (blk_grown (ks BK78) hg (Kd.R_ne HO_369005.out BK78.out (by decide)));have n2_:=am (blk_grown (ks BK94) hg (Kd.R_ne HO_369005.out BK94.out (by decide)));have n3_:=am (blk_grown (ks BK68) hg (Kd.R_ne HO_369005.out BK68.out (by decide)));have n4_:=am (blk_grown (ks BK386) hg (Kd.R_away HO_369005.out (fun _ hk=>hk)));have n5_:=am (Kd.S_over' (by (with_reducible repeat (first|apply Kd.S_alloc|apply Kd.S_drewN|apply Kd.S_drew));exact HO394.out) (Kd.R_typed (rs HO_369005)) (by decide) hg);have n6_:=am (hb);have n7_:=am (ho);clear HO_369004;clear BK78;clear BK94;clear BK68;clear BK386;clear HO394;clear HB;clear HO_369005;have HO_369004:=n0_;have BK78:=n1_;have BK94:=n2_;have BK68:=n3_;have BK386:=n4_;have HO394:=n5_;have HB:=n6_;have HO399:=n7_;clear n0_ n1_ n2_ n3_ n4_ n5_ n6_ n7_;clear ho hb hg hat;obtain ⟨Ao122,co122,eo122⟩:=Kd.R_slice HO399.out;subst eo122;have hcz123:=cf6 BK68))
                   go_roundg kj82
                   case measure=>have:=HJ25.out;have:=HK2.out;have:=HJ47.out;have:=HJ65.out;have:=HK5.out;have:=HJ82.out;omega
                   case rel=>exact ⟨(wrap64 (x7_2+1)),(x168_5),(x169_5),(x170_5),(x171_5),(x172_5),(x173_5),(x163_2),(y397),(u369004),(.slice Ao122 y397.length co122),fg,H',⟨by have:=HJ25.out;have:=HK2.out;have:=HJ47.out;have:=HJ65.out;have:=HK5.out;have:=HJ82.out;omega⟩,⟨Kd.R_mono (rf (Kd.R_types HO_369004.out BK68.out (by decide))) (fun _ hk=>trivial)⟩,⟨Kd.R_mono (rf (Kd.R_types HO399.out BK68.out (by decide))) (fun _ hk=>trivial)⟩,⟨ks BK78⟩,⟨ks BK94⟩,⟨kp BK68⟩,⟨bs HB⟩⟩
                  ·replace H:=itF H;replace H:=sj8 H;obtain ⟨rfl,rfl,rfl,rfl,rfl,rfl,rfl,rfl⟩:=H
                   try go_wp2
                   replace HO_369004:=am (Kd.R_drew HO_369004.out);replace HO_369005:=am (Kd.R_drew HO_369005.out);replace BK78:=am (blk_drew BK78.out);replace BK94:=am (blk_drew BK94.out);replace BK68:=am (blk_drew BK68.out);replace BK386:=am (blk_drew BK386.out);replace HB:=am (below_drew1 HB.out);have p395:0≤(x7_2:Int):=oa;have q395:x7_2<(l1.length:Int):=oa;obtain ⟨ad395,A395_1,c395_1,e395,hx395_0,hx395_1,hl395_1,hi395_1⟩:=at_T46 HR1.out x7_2 p395 q395;have hw395_1:=hx395_1;have hw395_0:=hx395_0;obtain rfl:ad364=ad395:=(by injection e395);replace hx395_0:=cb HB hx395_0;replace hx395_1:=cb HB hx395_1;(try (have ea_:=Option.some.inj ((cb HB hw364_1).symm.trans hx395_1);injection ea_ with ea_ en_ ec_;subst ea_;subst ec_;clear en_));have HR395_1:=am hi395_1;have HC395_1:=am hl395_1;clear hi395_1 hl395_1;replace p395:=eq_true p395;replace q395:=eq_true q395;refine sta 9 (hb5a BK386 (hca (cb HB hw395_0) (hc (cb HB hw395_1)))) (fun hHeld=>?_);refine with_tabW spec_PaperOf.tab24 spec_PaperOf.bits24 (fun HT_ HW_=>?_)
                   generalize wc.drew=w124 at HO_369004 HO_369005 BK78 BK94 BK68 BK386 HB HR395_1 hx395_0 hx395_1 hHeld ⊢
                   refine pz1 0 ?_;refine pz3 3 ?_;refine ta 1 ?_;refine ta 6 ?_;refine oA 2 124 HT_ (fun K hK=>?_);refine gA Tryz.func36 #[.int .i64 a0,.agg #[.int .i64 t381,.string t382,.int .i64 t383,.int .i64 t384,.string t385]] ?_;(with_reducible refine (spec_l05Line.calls kj82 a0 t381 t382 t383 t384 t385 t391 t392 _ A104.out).mono ?_);rintro e w125 ⟨v393,rfl,ho0,hb⟩;refine ⟨_,rfl,?_⟩;replace HO_369005:=am (Kd.R_below (rs HO_369005) hb);have HO394:=am (Kd.S_lower (Kd.S_new' ho0 (Kd.R_lt (rs HO_369004))) (below_size (bs HB)));replace HO_369004:=am (Kd.R_below (rs HO_369004) hb);replace BK78:=bb BK78 hb;replace BK94:=bb BK94 hb;replace BK68:=bb BK68 hb;replace BK386:=bb BK386 hb;replace HB:=bq HB hb;(try clear hb);(try clear hb2);(try clear hk);(try clear hi);(try clear ho0);obtain ⟨Ao126,co126,eo126⟩:=Kd.S_slice HO394.out
                   (first|subst eo126|(injection eo126 with f1_ f2_ f3_;have f4_:=f1_.symm;have f5_:=f3_.symm;clear f1_ f2_ f3_;subst f4_;subst f5_))
                   refine hK.out _ _ (hb5a BK386 (hca (cb HB hw395_0) (hc (cb HB hw395_1)))).out (fun hHeld=>?_);clear hK K;refine nA 124 ?_;refine oA 7 129 HT_ (fun K hK=>?_);refine gA Tryz.func60 #[.agg #[.string t391,.slice Ao126 t392.length co126],.agg #[.string ((rd_T46 l1 x7_2).f0),.slice A395_1 ((rd_T46 l1 x7_2).f1).length c395_1]] ?_;(with_reducible refine (spec_l03SameSeg.calls kj82 t391 _ _ t392 ((rd_T46 l1 x7_2).f0) _ _ ((rd_T46 l1 x7_2).f1) false _ ?side1 ?side2 ?side3 ?side4 A107.out).mono ?_)
                   (case side1=>exact sd (Kd.S_reads' HO394.out).2.2)
                   (case side2=>exact (Kd.S_reads' HO394.out).2.1)
                   (case side3=>exact sd (Kd.C_below HR395_1.out HB.out))
                   (case side4=>exact HC395_1.out)
                   rintro e w127 ⟨rfl,hb⟩;refine ⟨_,rfl,?_⟩;have n0_:=am (Kd.R_below (rs HO_369004) hb);have n1_:=am (Kd.R_below (rs HO_369005) hb);have n2_:=am (Kd.S_below (by (with_reducible repeat (first|apply Kd.S_alloc|apply Kd.S_drewN|apply Kd.S_drew));exact HO394.out) hb);have n3_:=am (blk_below (ks BK78) hb);have n4_:=am (blk_below (ks BK94) hb);have n5_:=am (blk_below (ks BK68) hb);have n6_:=am (blk_below (ks BK386) hb);have n7_:=am (below_step (bs HB) hb);clear HO_369004;clear HO_369005;clear HO394;clear BK78;clear BK94;clear BK68;clear BK386;clear HB;have HO_369004:=n0_;have HO_369005:=n1_;have HO394:=n2_;have BK78:=n3_;have BK94:=n4_;have BK68:=n5_;have BK386:=n6_;have HB:=n7_;clear n0_ n1_ n2_ n3_ n4_ n5_ n6_ n7_;(try clear hb);(try clear hb2);(try clear hk);(try clear hi);refine hK.out _ _ (hb5a BK386 (hca (cb HB hw395_0) (hc (cb HB hw395_1)))).out (fun hHeld=>?_);clear hK K;refine nA 129 ?_;refine pz1 8 ?_;refine done_ (done_of HT_.out (by kernel_rfl)) ?_;have hnb128:=NB78_94.out;have hnc128:=NB94_78.out;have hnb129:=NB78_68.out;have hnc129:=NB68_78.out;have hnb130:=NB78_386.out;have hnc130:=NB386_78.out;have hcz131:=cf8 BK78
                   try go_wp2
                   refine bodyPost_ret (results_cell_row rfl _ _ gb78 57 #[.int .i64 0,.string (⟨#[]⟩:ByteArray),.string (⟨#[]⟩:ByteArray),.int .i64 0,.slice none 0 0,.slice none 0 0,.int .i64 x7_2,.int .i64 3] (0,0) _ rfl (kp BK78) Tryz.underlying57 rfl (by kernel_rfl)) rfl ?_
                   exact ⟨_,_,ff,by first|exact Kd.R_nil _ _ _ _ _|exact Kd.N_nil _ _ _ _ _|exact Kd.V_nil _ _ _ _ _|exact Kd.Q_nil _ _ _ _ _|exact Kd.S_nil _ _ _ _ _,by first|exact Kd.R_nil _ _ _ _ _|exact Kd.N_nil _ _ _ _ _|exact Kd.V_nil _ _ _ _ _|exact Kd.Q_nil _ _ _ _ _|exact Kd.S_nil _ _ _ _ _,bs HB⟩
      ·intro c36b0 H;replace H:=sj8 H;obtain ⟨rfl,rfl,rfl,rfl,rfl,rfl,rfl,rfl⟩:=H;have hnb132:=NB68_78.out;have hnc132:=NB78_68.out;have hnb133:=NB68_94.out;have hnc133:=NB94_68.out;have hcz134:=cf6 BK68;obtain ⟨Ao135,co135,eo135⟩:=Kd.R_slice HO_369005.out;subst eo135;obtain ⟨Ao136,co136,eo136⟩:=Kd.R_slice HO_369004.out;subst eo136;have hnb137:=NB78_94.out;have hnc137:=NB94_78.out;have hcz138:=cf8 BK78
       go_wp2
       refine bodyPost_ret (results_cell_row rfl _ _ gb78 57 #[.int .i64 a0,.string t365,.string x161_25,.int .i64 x162_25,.slice Ao136 x163_2.length co136,.slice Ao135 x154_2.length co135,.int .i64 0,.int .i64 0] (0,0) _ rfl (kp BK78) Tryz.underlying57 rfl (by kernel_rfl)) rfl ?_
       exact ⟨_,_,ff,Kd.R_mono (rf (Kd.R_types HO_369004.out BK78.out (by decide))) (fun _ hk=>trivial),Kd.R_mono (rf (Kd.R_types HO_369005.out BK78.out (by decide))) (fun _ hk=>trivial),bs HB⟩
 ·intro c6 c6b0 c6b1 H;replace H:=sj8 H;obtain ⟨rfl,rfl,rfl,rfl,rfl,rfl,rfl,rfl⟩:=H
  go_wp2_with (first|((with_reducible refine gate_dst (N:=5) rfl ?_);refine bz 5 (cs:=#[.int .i64 0,.int .i64 0,.int .i64 0]) (t:=67) HB ?_;clear HB;intro gb94 hg w139 BK94 GW94 hb HB;have NB78_94:=na hg BK78;have NB94_78:=nc hg BK78;replace BK78:=bb BK78 hb;clear hb hg;have hnb140:=NB94_78.out;have hnc140:=NB78_94.out;have hcz141:=cf3 BK94;have hcz142:=cf8 BK78))
  refine bodyPost_ret (results_cell_row rfl _ _ gb78 57 #[.int .i64 0,.string (⟨#[]⟩:ByteArray),.string (⟨#[]⟩:ByteArray),.int .i64 0,.slice none 0 0,.slice none 0 0,.int .i64 t360,.int .i64 t362] (0,0) _ rfl (kp BK78) Tryz.underlying57 rfl (by kernel_rfl)) rfl ?_
  exact ⟨_,_,ff,by first|exact Kd.R_nil _ _ _ _ _|exact Kd.N_nil _ _ _ _ _|exact Kd.V_nil _ _ _ _ _|exact Kd.Q_nil _ _ _ _ _|exact Kd.S_nil _ _ _ _ _,by first|exact Kd.R_nil _ _ _ _ _|exact Kd.N_nil _ _ _ _ _|exact Kd.V_nil _ _ _ _ _|exact Kd.Q_nil _ _ _ _ _|exact Kd.S_nil _ _ _ _ _,bs HB⟩
end Go.Proofs.YtaememmnhmebcaaGreatDoor.QB
