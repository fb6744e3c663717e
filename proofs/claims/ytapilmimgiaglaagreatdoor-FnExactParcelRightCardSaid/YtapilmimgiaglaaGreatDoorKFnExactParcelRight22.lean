-- Merged by a program of this session (wip/tool/pack.py) out of its own texts for this claim.
import Derived.Deep.Slices
import Derived.ChangeArms
import Derived.WalkKit
import Derived.ProofKit
import Derived.OpenShut
import Derived.ShutString
import Derived.ChangeOld
import Derived.Below
import Derived.SizedLaws
import Derived.Lib.Strings
import Derived.Lib.ItoaNum
import Derived.Lib.AtoiAll
import Derived.Test.YtapilmimgiaglaaGreatDoorKFnExactParcelRight21
set_option maxHeartbeats 8000000
set_option maxRecDepth 100000
set_option linter.unusedSimpArgs false
set_option linter.unusedVariables false
namespace Go.Proofs.YtapilmimgiaglaaGreatDoor.QA
open Go.RowKit Go.Proofs.bB.fA Go.Proofs.bB.PrintLast Go.Proofs.bB.PrintMore
attribute [local go_sem] o6 pg o9 pE o8 pz o7 pq   -- for this text's walks alone
theorem FD.calls (k:Nat) (ag:ByteArray) (aj:ByteArray) (ak:Int) (fP:Option Addr) (eZ:Nat) (au:List (lM)) (r:Bool) (w:World) (kE:Kd.C Bt w fP au.length au) (kD:au.length≤eZ) (hTC:zu w) (hTF:sM w) (hTP:uR w) (H:FD.f k ag aj ak au=some r) :
  Calls Tryz.prog 3 #[.agg #[.string ag,.string aj,.int .i64 ak,.slice fP au.length eZ]] w fun e w'=>e=.returned (.bool r)∧Below w.heap.size w w':=by
 have HTC:=am hTC;clear hTC;have HTF:=am hTF;clear hTF;have HTP:=am hTP;clear hTP
 have ajD:=Tryz.underlying24;have WC:=Tryz.underlying29;have pV:=am kE;have qN:=am kD;clear kE kD;have HB:=am (Below.refl w.heap.size w);unfold FD.f at H;replace H:=bo H;obtain ⟨t54,A2,H⟩:=H
 go_in
 try go_wp2_with (first|((with_reducible refine aN (N:=1) rfl ?_);refine bz 1 (cs:=#[.string ag,.string aj,.int .i64 ak,.slice fP au.length eZ]) (t:=24) HB ?_;clear HB;intro aBB hg w3 jO az9 hb HB;clear hb hg;have P5:=eU jO))
 go_at_call 5;(with_reducible refine (IX.calls k ag aj ak _ _ au 1048576 t54 _ (Kd.bJ pV.out (bs HB)) qN.out A2.out).mono ?_);rintro e w5 ⟨rfl,hb⟩;replace jO:=bb jO hb;replace HB:=bq HB hb;(try clear hb)
 revert H;refine cB ?_ ?_
 ·intro gQ H;obtain rfl:=si H
  go_wp2
  go_ret
  exact ⟨ff,bs HB⟩
 ·intro gQ H;replace H:=bo H;obtain ⟨⟨t50,t51,t52,t53⟩,A7,H⟩:=H;(try dsimp only at H);have CR:=eU jO
  try go_wp2_with (fail)
  go_at_call 7;(with_reducible refine (yM.calls k ag aj ak _ _ au t50 t51 t52 t53 _ (Kd.bJ pV.out (bs HB)) qN.out A7.out).mono ?_);rintro e w9 ⟨v58,rfl,ho0,hb⟩;have rF:=am (Kd.mJ ho0 (bC (bs HB)));replace jO:=bb jO hb;replace HB:=bq HB hb;(try clear hb);(try clear ho0);replace H:=bo H;obtain ⟨t42,qb,H⟩:=H;obtain ⟨aew,VR,aa4⟩:=Kd.kI rF.out;subst aa4
  try go_wp2_with (fail)
  go_at_call 6;(with_reducible refine (qH.calls k t50 t51 t52 _ _ t53 t42 _ ?aI ?aW qb.out).mono ?_);(case aI=>exact sd (Kd.oP rF.out).2.2);(case aW=>exact (Kd.oP rF.out).2.1);rintro e wS ⟨rfl,hb⟩;clear rF;replace jO:=bb jO hb;replace HB:=bq HB hb;(try clear hb);replace H:=bo H;obtain ⟨⟨t39,t40,t41,t38⟩,ry,H⟩:=H;(try dsimp only at H);have Wo:=eU jO
  try go_wp2_with (fail)
  go_at_call 7;(with_reducible refine (yM.calls k ag aj ak _ _ au t39 t40 t41 t38 _ (Kd.bJ pV.out (bs HB)) qN.out ry.out).mono ?_);rintro e DJ ⟨v59,rfl,ho0,hb⟩;have mo:=am (Kd.mJ ho0 (bC (bs HB)));replace jO:=bb jO hb;replace HB:=bq HB hb;(try clear hb);(try clear ho0);replace H:=bo H;obtain ⟨t43,Eb,H⟩:=H
  try go_wp2_with (first|((with_reducible refine aN (N:=5) rfl ?_);refine bx 5 (cs:=#[.string (⟨#[]⟩:ByteArray),.string (⟨#[]⟩:ByteArray),.int .i64 0,.slice none 0 0]) (t:=29) ?_;intro CO hg JN hbox hb;replace mo:=am (Kd.rJ (by (with_reducible repeat (first|apply Kd.fD|apply Kd.fE|apply Kd.dV));exact mo.out) hb);have mZ:=am (hbox);have aAa:=am ((gs hg (bs HB)));have azY:=am ((gs hg (bs HB)));replace HB:=am (fF (bs HB) hb);have aoT:=am ((gn hg (ks jO)));have aoU:=am ((gm hg (ks jO)));replace jO:=am (aZ (ks jO) hb);clear hb hbox hg;have aja:=aoU.out;have ajm:=aoT.out;have Ie:=eU mZ;obtain ⟨zg,yt,H5⟩:=Kd.kI mo.out;subst H5))
  go_at_call 8;(with_reducible refine (ut.calls k t39 t40 t41 _ _ t38 t43 _ ?aI ?aW (Ag HTC (bs HB)) (vN HTF (bs HB)) (oJ HTP (bs HB)) Eb.out).mono ?_);(case aI=>refine (Kd.oP (e:=45) (base:=w.heap.size) (ok:=fun k_=>True) (n:=t38.length) (c:=yt) ?_).2.2;exact (by (with_reducible repeat (first|apply Kd.fD|apply Kd.fE|apply Kd.dV));exact (Kd.fU (Kd.iT (p:=⟨CO,3,none⟩) (Kd.iT (p:=⟨CO,2,none⟩) (Kd.iT (p:=⟨CO,1,none⟩) (Kd.iT (p:=⟨CO,0,none⟩) (Kd.uQ mo.out mZ.out (by decide)) (fun _ hk=>hk.2) (.string t39)) (fun _ hk=>hk.2) (.string t40)) (fun _ hk=>hk.2) (.int .i64 t41)) (fun _ hk=>hk.2) (.slice zg t38.length yt)) (fun _ h_=>h_.1))));(case aW=>exact (Kd.oP mo.out).2.1);rintro e Ah ⟨rfl,hb⟩;replace mo:=am (Kd.rJ (by (with_reducible repeat (first|apply Kd.fD|apply Kd.fE|apply Kd.dV));exact (Kd.fU (Kd.iT (p:=⟨CO,3,none⟩) (Kd.iT (p:=⟨CO,2,none⟩) (Kd.iT (p:=⟨CO,1,none⟩) (Kd.iT (p:=⟨CO,0,none⟩) (Kd.uQ mo.out mZ.out (by decide)) (fun _ hk=>hk.2) (.string t39)) (fun _ hk=>hk.2) (.string t40)) (fun _ hk=>hk.2) (.int .i64 t41)) (fun _ hk=>hk.2) (.slice zg t38.length yt)) (fun _ h_=>h_.1))) hb);replace jO:=am (aZ (ks jO) hb);replace mZ:=am (aZ (g:=CO) (o:=.cells #[.string t39,.string t40,.int .i64 t41,.slice zg t38.length yt] 29 (0,0)) (kp mZ) hb);replace HB:=am (fF (bs HB) hb);(try clear hb)
  revert H;refine gz ?_ ?_
  ·intro qQ H;have EC:(t43 != t42)=true:=qQ
   (try (have Hm:decide (t43=t42)=false:=by simpa using qQ))
   (try (have aqA:(t43 == t42)=false:=by simpa using qQ))
   (try (have aA0:¬ (t43=t42):=by simpa using qQ))
   clear qQ;obtain rfl:=si H
   go_wp2
   go_ret
   exact ⟨ff,bs HB⟩
  ·intro qQ H
   have EC:(t43 != t42)=false:=by simpa using qQ
   (try (have Hm:decide (t43=t42)=true:=by simpa using qQ))
   (try (have aqA:(t43 == t42)=true:=by simpa using qQ))
   clear qQ;replace H:=bo H;obtain ⟨⟨t44,t46,t47,t48⟩,Uj,H⟩:=H;(try dsimp only at H);replace H:=bo H;obtain ⟨t55,Uk,H⟩:=H
   obtain rfl|rfl:=bt t55
   ·replace H:=dE H;obtain rfl:=si H
    try go_wp2
    replace mo:=am (Kd.dV mo.out);replace jO:=am (bg jO.out);replace mZ:=am (bg mZ.out);replace HB:=am (cO HB.out);refine il 5 (ny mZ (hb4 jO)) (fun hHeld=>?_)
    generalize Ah.drew=Nc at mo jO mZ HB hHeld ⊢
    refine tu 0 22 #[true,false,false,false,false] ?_
    refine tu 1 23 #[true,true,false,false,false] ?_
    refine nG (i:=2) (N:=some 24) #[true,true,true,false,false] rfl rfl (by kernel_rfl) (by decide) (fun K hK=>?_);refine gA Tryz.func7 #[.agg #[.string ag,.string aj,.int .i64 ak,.slice fP au.length eZ]] ?_;(with_reducible refine (yM.calls k ag aj ak _ _ au t44 t46 t47 t48 _ ?aI ?aW Uj.out).mono ?_)
    (case aI=>exact sd (Kd.bJ pV.out HB.out))
    (case aW=>exact qN.out)
    rintro e BN ⟨v57,rfl,ho0,hb⟩;refine ⟨_,rfl,?_⟩;have zm:=am (Kd.mJ (Kd.ug ho0 (Kd.KQ (by (with_reducible repeat (first|apply Kd.fD|apply Kd.fE|apply Kd.dV));exact mo.out))) (bC (bs HB)));replace mo:=am (Kd.GY (by (with_reducible repeat (first|apply Kd.fD|apply Kd.fE|apply Kd.dV));exact mo.out) (Kd.KO ho0) hb);replace jO:=am (aZ (ks jO) hb);replace mZ:=am (aZ (ks mZ) hb);replace HB:=am (fF (bs HB) hb);(try clear hb);(try clear ho0);obtain ⟨ams,arl,ahl⟩:=Kd.kI zm.out
    (first|subst ahl|(injection ahl with dZ iJ d9;have iK:=dZ.symm;have iL:=d9.symm;clear dZ iJ d9;subst iK;subst iL))
    refine hK.out _ _ (ny mZ (hb4 jO)).out (fun hHeld=>?_);clear hK K;refine nA 24 ?_;refine nG (i:=3) (N:=some 25) #[true,true,true,true,false] rfl rfl (by kernel_rfl) (by decide) (fun K hK=>?_);refine gA Tryz.func9 #[.agg #[.string t39,.string t40,.int .i64 t41,.slice zg t38.length yt],.agg #[.string t44,.string t46,.int .i64 t47,.slice ams t48.length arl]] ?_;(with_reducible refine (FH.calls k t39 t40 t41 _ _ t38 t44 t46 t47 _ _ t48 true _ ?aI ?aW ?lh ?qZ Uk.out).mono ?_)
    (case aI=>exact sd (Kd.oP mo.out).2.2)
    (case aW=>exact (Kd.oP mo.out).2.1)
    (case lh=>exact sd (Kd.oP zm.out).2.2)
    (case qZ=>exact (Kd.oP zm.out).2.1)
    rintro e X7 ⟨rfl,hb⟩;refine ⟨_,rfl,?_⟩;replace mo:=am (Kd.rJ (by (with_reducible repeat (first|apply Kd.fD|apply Kd.fE|apply Kd.dV));exact mo.out) hb);replace zm:=am (Kd.rJ (by (with_reducible repeat (first|apply Kd.fD|apply Kd.fE|apply Kd.dV));exact zm.out) hb);replace jO:=am (aZ (ks jO) hb);replace mZ:=am (aZ (ks mZ) hb);replace HB:=am (fF (bs HB) hb);(try clear hb);refine hK.out _ _ (ny mZ (hb4 jO)).out (fun hHeld=>?_);clear hK K;refine nA 25 ?_;refine pu 4 26 #[true,true,true,true,true] ?_
    refine fq (by kernel_rfl) ?_
    try go_wp2
    go_ret
    exact ⟨ff,bs HB⟩
   ·replace H:=dD H;obtain rfl:=si H
    try go_wp2
    replace mo:=am (Kd.dV mo.out);replace jO:=am (bg jO.out);replace mZ:=am (bg mZ.out);replace HB:=am (cO HB.out);refine il 5 (ny mZ (hb4 jO)) (fun hHeld=>?_)
    generalize Ah.drew=qJ at mo jO mZ HB hHeld ⊢
    refine tu 0 22 #[true,false,false,false,false] ?_
    refine tu 1 23 #[true,true,false,false,false] ?_
    refine nG (i:=2) (N:=some 24) #[true,true,true,false,false] rfl rfl (by kernel_rfl) (by decide) (fun K hK=>?_);refine gA Tryz.func7 #[.agg #[.string ag,.string aj,.int .i64 ak,.slice fP au.length eZ]] ?_;(with_reducible refine (yM.calls k ag aj ak _ _ au t44 t46 t47 t48 _ ?aI ?aW Uj.out).mono ?_)
    (case aI=>exact sd (Kd.bJ pV.out HB.out))
    (case aW=>exact qN.out)
    rintro e F7 ⟨v57,rfl,ho0,hb⟩;refine ⟨_,rfl,?_⟩;have zm:=am (Kd.mJ (Kd.ug ho0 (Kd.KQ (by (with_reducible repeat (first|apply Kd.fD|apply Kd.fE|apply Kd.dV));exact mo.out))) (bC (bs HB)));replace mo:=am (Kd.GY (by (with_reducible repeat (first|apply Kd.fD|apply Kd.fE|apply Kd.dV));exact mo.out) (Kd.KO ho0) hb);replace jO:=am (aZ (ks jO) hb);replace mZ:=am (aZ (ks mZ) hb);replace HB:=am (fF (bs HB) hb);(try clear hb);(try clear ho0);obtain ⟨Ee,EI,H6⟩:=Kd.kI zm.out
    (first|subst H6|(injection H6 with dZ iJ d9;have iK:=dZ.symm;have iL:=d9.symm;clear dZ iJ d9;subst iK;subst iL))
    refine hK.out _ _ (ny mZ (hb4 jO)).out (fun hHeld=>?_);clear hK K;refine nA 24 ?_;refine nG (i:=3) (N:=some 25) #[true,true,true,true,false] rfl rfl (by kernel_rfl) (by decide) (fun K hK=>?_);refine gA Tryz.func9 #[.agg #[.string t39,.string t40,.int .i64 t41,.slice zg t38.length yt],.agg #[.string t44,.string t46,.int .i64 t47,.slice Ee t48.length EI]] ?_;(with_reducible refine (FH.calls k t39 t40 t41 _ _ t38 t44 t46 t47 _ _ t48 false _ ?aI ?aW ?lh ?qZ Uk.out).mono ?_)
    (case aI=>exact sd (Kd.oP mo.out).2.2)
    (case aW=>exact (Kd.oP mo.out).2.1)
    (case lh=>exact sd (Kd.oP zm.out).2.2)
    (case qZ=>exact (Kd.oP zm.out).2.1)
    rintro e DK ⟨rfl,hb⟩;refine ⟨_,rfl,?_⟩;replace mo:=am (Kd.rJ (by (with_reducible repeat (first|apply Kd.fD|apply Kd.fE|apply Kd.dV));exact mo.out) hb);replace zm:=am (Kd.rJ (by (with_reducible repeat (first|apply Kd.fD|apply Kd.fE|apply Kd.dV));exact zm.out) hb);replace jO:=am (aZ (ks jO) hb);replace mZ:=am (aZ (ks mZ) hb);replace HB:=am (fF (bs HB) hb);(try clear hb);refine hK.out _ _ (ny mZ (hb4 jO)).out (fun hHeld=>?_);clear hK K;refine nA 25 ?_;refine pu 4 26 #[true,true,true,true,true] ?_
    refine fq (by kernel_rfl) ?_
    try go_wp2
    go_ret
    exact ⟨ff,bs HB⟩
end Go.Proofs.YtapilmimgiaglaaGreatDoor.QA
namespace Go.Proofs.YtapilmimgiaglaaGreatDoor.Rd
open Go.RowKit Go.ChangeShapes Go.WideShapes Go.Proofs.bB.fA
def Rd (P:Program) (t:TypeId) {α:Type} (d:Kd α) (wf:α→Prop):Prop :=
 ∀ (H:Type) (enc:TypeId × Value→H) (w:World) (base:Nat) (sp:Nat→Bool) (held:Bool) (fuel:Nat) (cs:List Value) (x:DataW H × List MemPlace),
  DataW.trod enc P w base sp held fuel t cs=some x→∃ a:α,d.K w a cs∧wf a
def U4 (P:Program) (fs:List Field) (off:Nat) {α:Type} (d:Kd α) (wf:α→Prop):Prop :=
 ∀ (H:Type) (enc:TypeId × Value→H) (w:World) (base:Nat) (sp:Nat→Bool) (held:Bool) (n:Nat) (cs:List Value),
  cs.length=off+d.sz→(∀ f ∈ fs,∃ y,DataW.trod enc P w base sp held n f.type ((cs.drop f.offset).take (P.cellsOf f.type))=some y)→∃ a:α,d.K w a (cs.drop off)∧wf a
def Cs (k:IntKind) (n:Int):Prop:=(Lit.int k n).wf=true
def AQ (s:ByteArray):Prop:=s.size≤maxLen
def OP {α:Type} (wf:α→Prop) (l:List α):Prop:=l.length≤maxLen∧∀ x ∈ l,wf x
theorem MQ {P:Program} {t:TypeId} {k:IntKind} (hu:P.underlying t=some (.int k)):Rd P t (Kd.int k) (Cs k):=by
 intro H enc w base sp held fuel cs x h
 cases fuel with
 | zero=>simp [DataW.trod] at h
 | succ n =>
  match cs with
  | [.int k' m] =>
   simp only [DataW.trod,hu] at h
   split at h
   ·rename_i hk
    obtain ⟨rfl,hw⟩:=hk
    exact ⟨m,rfl,hw⟩
   ·cases h
  | []=>simp [DataW.trod,hu] at h
  | [.bool _]=>simp [DataW.trod,hu] at h
  | [.float _ _]=>simp [DataW.trod,hu] at h
  | [.complex _ _ _]=>simp [DataW.trod,hu] at h
  | [.string _]=>simp [DataW.trod,hu] at h
  | [.pointer _]=>simp [DataW.trod,hu] at h
  | [.slice _ _ _]=>simp [DataW.trod,hu] at h
  | [.map _]=>simp [DataW.trod,hu] at h
  | [.chan _]=>simp [DataW.trod,hu] at h
  | [.func _ _ _]=>simp [DataW.trod,hu] at h
  | [.nilFunc]=>simp [DataW.trod,hu] at h
  | [.iface _ _]=>simp [DataW.trod,hu] at h
  | [.nilIface]=>simp [DataW.trod,hu] at h
  | [.agg _]=>simp [DataW.trod,hu] at h
  | [.tuple _]=>simp [DataW.trod,hu] at h
  | _ :: _ :: _=>simp [DataW.trod,hu] at h
theorem I8 {P:Program} {t:TypeId} (hu:P.underlying t=some .string):Rd P t Kd.string AQ:=by
 intro H enc w base sp held fuel cs x h
 cases fuel with
 | zero=>simp [DataW.trod] at h
 | succ n =>
  match cs with
  | [.string s] =>
   simp only [DataW.trod,hu] at h
   split at h
   ·rename_i hk
    exact ⟨s,rfl,hk⟩
   ·cases h
  | []=>simp [DataW.trod,hu] at h
  | [.int _ _]=>simp [DataW.trod,hu] at h
  | [.bool _]=>simp [DataW.trod,hu] at h
  | [.float _ _]=>simp [DataW.trod,hu] at h
  | [.complex _ _ _]=>simp [DataW.trod,hu] at h
  | [.pointer _]=>simp [DataW.trod,hu] at h
  | [.slice _ _ _]=>simp [DataW.trod,hu] at h
  | [.map _]=>simp [DataW.trod,hu] at h
  | [.chan _]=>simp [DataW.trod,hu] at h
  | [.func _ _ _]=>simp [DataW.trod,hu] at h
  | [.nilFunc]=>simp [DataW.trod,hu] at h
  | [.iface _ _]=>simp [DataW.trod,hu] at h
  | [.nilIface]=>simp [DataW.trod,hu] at h
  | [.agg _]=>simp [DataW.trod,hu] at h
  | [.tuple _]=>simp [DataW.trod,hu] at h
  | _ :: _ :: _=>simp [DataW.trod,hu] at h
theorem adp {P:Program} {f:Field} {off:Nat} {α:Type} {d:Kd α} {wf:α→Prop} (h:Rd P f.type d wf) (ho:f.offset=off) (hc:P.cellsOf f.type=d.sz):U4 P [f] off d wf:=by
 intro H enc w base sp held n cs hl hy
 obtain ⟨y,hy⟩:=hy f (List.mem_singleton.2 rfl)
 rw [ho,hc,List.take_of_length_le (by rw [List.length_drop];omega)] at hy
 exact h H enc w base sp held n _ y hy
theorem yQ {P:Program} {f:Field} {fs:List Field} {off wK:Nat} {α β:Type} {d:Kd α} {e:Kd β} {wf:α→Prop} {wg:β→Prop} (h:Rd P f.type d wf) (ho:f.offset=off) (hc:P.cellsOf f.type=d.sz)
  (h2:wK=off+d.sz) (hs:U4 P fs wK e wg):U4 P (f :: fs) off (Kd.pair d e) (fun x=>wf x.1∧wg x.2):=by
 intro H enc w base sp held n cs hl hy
 obtain ⟨y,hy1⟩:=hy f (List.mem_cons_self ..)
 have hl':cs.length=off+(d.sz+e.sz):=hl
 obtain ⟨a,ha,hwa⟩:=h H enc w base sp held n _ y hy1
 obtain ⟨b,hb,hwb⟩:=hs H enc w base sp held n cs (by omega) (fun g hg=>hy g (List.mem_cons_of_mem _ hg))
 rw [ho,hc] at ha
 refine ⟨(a,b),⟨_,_,?_,ha,hb⟩,hwa,hwb⟩
 rw [h2,← List.drop_drop,List.take_append_drop]
theorem adt {P:Program} {t:TypeId} {fs:Array Field} {α β:Type} {d:Kd α} {wf:α→Prop} {wg:β→Prop} (g:β→α) (gi:α→β) (hg:∀ a,g (gi a)=a) (hwg:∀ a,wf a→wg (gi a))
  (hu:P.underlying t=some (.struct fs)) (hc:P.cellsOf t=d.sz) (hF:U4 P fs.toList 0 d wf):Rd P t (Kd.yG d g) wg:=by
 intro H enc w base sp held fuel cs x h
 obtain ⟨xs,n,_,rfl,hl,hlen,hf⟩:=DataW.trod_struct hu h
 obtain ⟨a,ha,hwa⟩:=hF H enc w base sp held n cs (by omega) (fun f hfm=>by
  obtain ⟨i,hi,rfl⟩:=List.mem_iff_getElem.1 hfm
  have hi':i<fs.size:=by simpa using hi
  have z:=hf i (fs[i]) (by simp [hi'])
  rw [List.getElem?_eq_getElem (by omega)] at z
  exact ⟨_,by simpa using z⟩)
 refine ⟨gi a,?_,hwg a hwa⟩
 show d.K w (g (gi a)) cs
 rw [hg]
 simpa using ha
theorem ads {P:Program} {t e:TypeId} {α:Type} {d:Kd α} {wf:α→Prop} (hu:P.underlying t=some (.slice e)) (hc:P.cellsOf e=d.sz) (hd:Rd P e d wf):Rd P t (Kd.slice e d) (OP wf):=by
 intro H enc w base sp held fuel cs x h
 rcases Go.Deep.open_slice hu h with ⟨rfl,_⟩ | ⟨a,len,cap,m,n,D,Pl,rfl,hb,hl,hm,hmm,_,hx⟩
 ·exact ⟨[],⟨none,0,rfl,Nat.le_refl _,rfl,by simp,fun h=>absurd h (by simp)⟩,by simp [maxLen],by simp⟩
 ·have hlm:len≤m:=by rw [hmm];split <;> omega
  have hall:∀ i,i<len→∃ cs',w.cells? base (a.add (i * P.cellsOf e)) (P.cellsOf e)=some cs'∧DataW.trod enc P w base sp held n e cs'=some (D i,Pl i):=fun i hi=>hx i (by omega)
  have key:∀ (k:Nat),k≤len→∃ l:List α,l.length=k∧(∀ x ∈ l,wf x)∧∀ j p,l[j]? = some p→∃ c,c.length=d.sz∧d.K w p c∧∀ i u,c[i]? = some u→w.cell? (a.add (j * d.sz+i))=some u:=by
   intro k
   induction k with
   | zero=>intro _;exact ⟨[],rfl,by simp,by simp⟩
   | succ k ih =>
    intro hk
    obtain ⟨l,hl1,hl2,hl3⟩:=ih (by omega)
    obtain ⟨cs',h1,h2⟩:=hall k (by omega)
    obtain ⟨b,hb1,hb2⟩:=hd H enc w base sp held n cs' _ h2
    refine ⟨l++[b],by simp [hl1],?_,?_⟩
    ·intro z hz
     rcases List.mem_append.1 hz with hz|hz
     ·exact hl2 z hz
     ·rw [List.mem_singleton.1 hz];exact hb2
    ·intro j p hj
     by_cases hjl:j<l.length
     ·rw [List.getElem?_append_left hjl] at hj
      exact hl3 j p hj
     ·rw [List.getElem?_append_right (by omega)] at hj
      have hj0:j - l.length=0:=by
       cases hz:j - l.length with
       | zero=>rfl
       | succ q=>rw [hz] at hj;simp at hj
      rw [hj0] at hj
      obtain rfl:b=p:=by simpa using hj
      have hjk:j=k:=by omega
      subst hjk
      refine ⟨cs',d.K_len hb1,hb1,fun i u hu'=>?_⟩
      obtain ⟨_,hlen',hcell⟩:=World.cells?_some h1
      have hi:i<cs'.length:=by
       rcases Nat.lt_or_ge i cs'.length with h|h
       ·exact h
       ·rw [List.getElem?_eq_none h] at hu';cases hu'
      have z:=hcell i (by omega)
      rw [hu',Go.Deep.add_add,hc] at z
      exact z
  obtain ⟨l,hl1,hl2,hl3⟩:=key len (Nat.le_refl _)
  refine ⟨l,⟨some a,cap,by rw [hl1],by omega,?_⟩,by rw [hl1];exact Nat.le_trans hl hm,hl2⟩
  exact ⟨rfl,by rw [hl1];have:cap≤2 ^ 63 - 1:=hm;omega,fun _=>⟨a,rfl,hl3⟩⟩
end Go.Proofs.YtapilmimgiaglaaGreatDoor.Rd
namespace Go.Proofs.YtapilmimgiaglaaGreatDoor.QA
open Go.RowKit Go.Proofs.YtapilmimgiaglaaGreatDoor Go.Proofs.bB.fA
def adP (x:lL):Prop:=(Rd.Cs .i64) x.f0∧Rd.AQ x.f1∧(Rd.Cs .i64) x.f2∧(Rd.Cs .i64) x.f3∧Rd.AQ x.f4
def JR (x:lM):Prop:=(Rd.Cs .i64) x.f0∧Rd.AQ x.f1∧Rd.AQ x.f2∧(Rd.Cs .i64) x.f3∧(Rd.OP Rd.AQ) x.f4∧(Rd.OP adP) x.f5
def ay6 (x:U5):Prop:=Rd.AQ x.f0∧Rd.AQ x.f1∧(Rd.Cs .i64) x.f2∧(Rd.OP JR) x.f3
theorem awj:Rd.Rd Tryz.prog 127 Br adP:=Rd.adt _ (fun a=>⟨a.1,a.2.1,a.2.2.1,a.2.2.2.1,a.2.2.2.2⟩) (fun _=>rfl) (fun _ h=>h) Tryz.underlying127 (by kernel_rfl) (Rd.yQ (Rd.MQ (Tryz.underlying2)) rfl (by kernel_rfl) (wK:=1) rfl (Rd.yQ (Rd.I8 (Tryz.underlying9)) rfl (by kernel_rfl) (wK:=2) rfl (Rd.yQ (Rd.MQ (Tryz.underlying2)) rfl (by kernel_rfl) (wK:=3) rfl (Rd.yQ (Rd.MQ (Tryz.underlying2)) rfl (by kernel_rfl) (wK:=4) rfl (Rd.adp (Rd.I8 (Tryz.underlying9)) rfl (by kernel_rfl))))))
theorem awl:Rd.Rd Tryz.prog 56 Bt JR:=Rd.adt _ (fun a=>⟨a.1,a.2.1,a.2.2.1,a.2.2.2.1,a.2.2.2.2.1,a.2.2.2.2.2⟩) (fun _=>rfl) (fun _ h=>h) Tryz.underlying56 (by kernel_rfl) (Rd.yQ (Rd.MQ (Tryz.underlying2)) rfl (by kernel_rfl) (wK:=1) rfl (Rd.yQ (Rd.I8 (Tryz.underlying9)) rfl (by kernel_rfl) (wK:=2) rfl (Rd.yQ (Rd.I8 (Tryz.underlying9)) rfl (by kernel_rfl) (wK:=3) rfl (Rd.yQ (Rd.MQ (Tryz.underlying2)) rfl (by kernel_rfl) (wK:=4) rfl (Rd.yQ (Rd.ads Tryz.underlying42 (by kernel_rfl) (Rd.I8 (Tryz.underlying9))) rfl (by kernel_rfl) (wK:=5) rfl (Rd.adp (Rd.ads Tryz.underlying54 (by kernel_rfl) awj) rfl (by kernel_rfl)))))))
theorem awk:Rd.Rd Tryz.prog 24 k24 ay6:=Rd.adt _ (fun a=>⟨a.1,a.2.1,a.2.2.1,a.2.2.2⟩) (fun _=>rfl) (fun _ h=>h) Tryz.underlying24 (by kernel_rfl) (Rd.yQ (Rd.I8 (Tryz.underlying9)) rfl (by kernel_rfl) (wK:=1) rfl (Rd.yQ (Rd.I8 (Tryz.underlying9)) rfl (by kernel_rfl) (wK:=2) rfl (Rd.yQ (Rd.MQ (Tryz.underlying2)) rfl (by kernel_rfl) (wK:=3) rfl (Rd.adp (Rd.ads Tryz.underlying22 (by kernel_rfl) awl) rfl (by kernel_rfl)))))
end Go.Proofs.YtapilmimgiaglaaGreatDoor.QA
namespace Go.Proofs.YtapilmimgiaglaaGreatDoor.QA
open Go.Proofs.YtapilmimgiaglaaGreatDoor Go.Proofs.bB.fA
def FD.Pure:Prop:=∀ (ag:ByteArray) (aj:ByteArray) (ak:Int) (au:List (lM)),Rd.AQ ag→Rd.AQ aj→(Rd.Cs .i64) ak→(Rd.OP JR) au→∃ k,FD.f k ag aj ak au=some true
end Go.Proofs.YtapilmimgiaglaaGreatDoor.QA
namespace Go.Proofs.YtapilmimgiaglaaGreatDoor.Ev0
open Go.RowKit Go.Proofs.bB.fA
def aa {α:Type} (f:Nat→Option α) (r:α):Prop:=∃ K,∀ k,K≤k→f k=some r
namespace aa
variable {α β : Type}
theorem const {o:Option α} {r:α} (h:o=some r):aa (fun _=>o) r:=⟨0,fun _ _=>h⟩
theorem pure (r:α):aa (fun _=>some r) r:=⟨0,fun _ _=>rfl⟩
theorem bind {f:Nat→Option α} {g:Nat→α→Option β} {a:α} {r:β} (h:aa f a) (h2:aa (fun k=>g k a) r):aa (fun k=>(f k).bind (g k)) r:=by
 obtain ⟨K,hK⟩:=h
 obtain ⟨L,hL⟩:=h2
 refine ⟨K+L,fun k hk=>?_⟩
 show (f k).bind (g k)=some r
 rw [hK k (by omega)]
 exact hL k (by omega)
theorem succ {f:Nat→Option α} {r:α} (h:aa (fun k=>f (k+1)) r):aa f r:=by
 obtain ⟨K,hK⟩:=h
 refine ⟨K+1,fun k hk=>?_⟩
 obtain ⟨m,rfl⟩:∃ m,k=m+1:=⟨k - 1,by omega⟩
 exact hK m (by omega)
theorem pos {c:Prop} [Decidable c] {f g:Nat→Option α} {r:α} (hc:c) (h:aa f r):aa (fun k=>if c then f k else g k) r:=by
 simpa only [if_pos hc] using h
theorem neg {c:Prop} [Decidable c] {f g:Nat→Option α} {r:α} (hc:¬ c) (h:aa g r):aa (fun k=>if c then f k else g k) r:=by
 simpa only [if_neg hc] using h
theorem ite {c:Prop} [Decidable c] {f g:Nat→Option α} {r:α} (h1:c→aa f r) (h2:¬ c→aa g r):aa (fun k=>if c then f k else g k) r:=by
 by_cases hc:c
 ·exact pos hc (h1 hc)
 ·exact neg hc (h2 hc)
theorem ex {f:Nat→Option α} {r:α} (h:aa f r):∃ k,f k=some r:=by
 obtain ⟨K,hK⟩:=h
 exact ⟨K,hK K (Nat.le_refl _)⟩
theorem same {f:Nat→Option α} {r r':α} (h:aa f r) (e:r=r'):aa f r':=e ▸ h
end aa
theorem dN {x:Int} (h0 : -9223372036854775808≤x) (h1:x≤9223372036854775807):wrap64 x=x:=by
 unfold wrap64
 omega
noncomputable def B (p:Prop):Bool:=@decide p (Classical.propDecidable p)
theorem fC {p:Prop} (h:p):B p=true:=by unfold B;exact @decide_eq_true p (Classical.propDecidable p) h
theorem fK {p:Prop} (h:¬ p):B p=false:=by unfold B;exact @decide_eq_false p (Classical.propDecidable p) h
theorem Ef {p:Prop} : B p=true ↔ p:=by unfold B;exact @decide_eq_true_iff p (Classical.propDecidable p)
theorem jB {p q:Prop} (h:p ↔ q):B p=B q:=by rw [propext h]
theorem AZ (p:Prop) [Decidable p]:decide p=B p:=by
 by_cases h:p
 ·rw [decide_eq_true h,fC h]
 ·rw [decide_eq_false h,fK h]
theorem Hd {b:Bool} {p:Prop} (h:b=true ↔ p):b=B p:=by
 cases b with
 | true=>exact (fC (h.1 rfl)).symm
 | false=>exact (fK (fun hp=>by simpa using h.2 hp)).symm
theorem ap9 {c p q:Prop} [Decidable c] {f:Nat→Option Bool} (hc:c ↔ p) (h:p→aa f (B q)):aa (fun k=>if c then f k else some false) (B (p∧q)):=by
 by_cases e:c
 ·exact aa.pos e ((h (hc.1 e)).same (jB ⟨fun x=>⟨hc.1 e,x⟩,fun x=>x.2⟩))
 ·exact aa.neg e ((aa.pure false).same (fK (fun x=>e (hc.2 x.1))).symm)
theorem asx {c p q:Prop} [Decidable c] {f:Nat→Option Bool} (hc:c ↔ ¬ p) (h:p→aa f (B q)):aa (fun k=>if c then some false else f k) (B (p∧q)):=by
 by_cases e:c
 ·exact aa.pos e ((aa.pure false).same (fK (fun x=>hc.1 e x.1)).symm)
 ·have hp:p:=Classical.not_not.1 (fun x=>e (hc.2 x))
  exact aa.neg e ((h hp).same (jB ⟨fun x=>⟨hp,x⟩,fun x=>x.2⟩))
theorem FC {p q:Prop} [Decidable p] (h:p ↔ q):aa (fun _=>some (decide p)) (B q):=(aa.pure _).same ((AZ p).trans (jB h))
theorem ru {σ ρ:Type} (n:Int) (F:Nat→σ→Int→Option ρ) (st:Int→σ) (r:Int→ρ)
  (step:∀ i,0≤i→i<n→aa (fun k=>F k (st (i+1)) (i+1)) (r (i+1))→aa (fun k=>F (k+1) (st i) i) (r i))
  (stop:aa (fun k=>F (k+1) (st n) n) (r n)) (i:Int) (h0:0≤i) (hn:i≤n):aa (fun k=>F k (st i) i) (r i):=by
 have key:∀ (d:Nat) (i:Int),0≤i→i≤n→n - i≤d→aa (fun k=>F k (st i) i) (r i):=by
  intro d
  induction d with
  | zero =>
   intro i h0 h1 hd
   obtain rfl:i=n:=by omega
   exact stop.succ
  | succ d ih =>
   intro i h0 h1 hd
   by_cases hlt:i<n
   ·exact (step i h0 hlt (ih (i+1) (by omega) (by omega) (by omega))).succ
   ·obtain rfl:i=n:=by omega
    exact stop.succ
 exact key (n - i).toNat i h0 hn (by omega)
def Es (f:Nat→Option Int) (left:Int) (p:Prop):Prop:=∃ t,aa f t∧(t<0∨(0≤t∧t≤left∧p))
theorem ady (n:Nat) (hn:n≤9223372036854775807) (p:Int→Prop) (f:Nat→Option Int) (F:Nat→Int→Int→Option Int) (left:Int) (hl0:0≤left) (hl:left≤1048576)
  (hf:∀ k,f k=if wrap64 (left - (n:Int))<0 then some (-1) else F k (wrap64 (left - (n:Int))) 0)
  (step:∀ s i,0≤i→i<(n:Int)→0≤s→s≤1048576→(∃ r,r<0∧aa (fun k=>F (k+1) s i) r)∨(∃ s',0≤s'∧s'≤s∧p i∧∀ r,aa (fun k=>F k s' (i+1)) r→aa (fun k=>F (k+1) s i) r))
  (stop:∀ s i,(n:Int)≤i→aa (fun k=>F (k+1) s i) s):Es f left (n≤1048576∧∀ i,0≤i→i<(n:Int)→p i):=by
 have hw:wrap64 (left - (n:Int))=left - (n:Int):=dN (by omega) (by omega)
 by_cases h:left - (n:Int)<0
 ·refine ⟨-1,⟨0,fun k _=>?_⟩,.inl (by decide)⟩
  rw [hf,hw,if_pos h]
 ·have key:∀ (d:Nat) (s i:Int),0≤i→(n:Int) - i≤d→0≤s→s≤1048576→∃ t,aa (fun k=>F k s i) t∧(t<0∨(0≤t∧t≤s∧∀ j,i≤j→j<(n:Int)→p j)):=by
   intro d
   induction d with
   | zero=>intro s i h0 hd hs0 hs1;exact ⟨s,(stop s i (by omega)).succ,.inr ⟨hs0,Int.le_refl _,fun j h1 h2=>absurd h2 (by omega)⟩⟩
   | succ d ih =>
    intro s i h0 hd hs0 hs1
    by_cases hlt:i<(n:Int)
    ·rcases step s i h0 hlt hs0 hs1 with ⟨r,hr0,hr⟩ | ⟨s',h1,h2,hp,hs⟩
     ·exact ⟨r,hr.succ,.inl hr0⟩
     ·obtain ⟨t,ht,h3⟩:=ih s' (i+1) (by omega) (by omega) h1 (by omega)
      refine ⟨t,(hs t ht).succ,h3.imp id (fun ⟨g0,g1,g2⟩=>⟨g0,by omega,fun j h1 h2=>?_⟩)⟩
      by_cases e:j=i
      ·rw [e];exact hp
      ·exact g2 j (by omega) h2
    ·exact ⟨s,(stop s i (by omega)).succ,.inr ⟨hs0,Int.le_refl _,fun j h1 h2=>absurd h2 (by omega)⟩⟩
  obtain ⟨t,⟨K,hK⟩,h3⟩:=key n (left - (n:Int)) 0 (Int.le_refl _) (by omega) (by omega) (by omega)
  refine ⟨t,⟨K,fun k hk=>?_⟩,h3.imp id (fun ⟨g0,g1,g2⟩=>⟨g0,by omega,by omega,g2⟩)⟩
  rw [hf,hw,if_neg h]
  exact hK k hk
theorem JS {s a:Int} (hs0:0≤s) (hs1:s≤1048576) (ha0:0≤a) (ha:a≤9223372036854775807):wrap64 (s - a)=s - a:=dN (by omega) (by omega)
theorem getD_at {α:Type} (l:List α) (z:α) (i:Nat) (h:i<l.length):l.getD i z=l[i]:=by
 rw [List.getD_eq_getElem?_getD,List.getElem?_eq_getElem h]
 rfl
theorem aa9 {α β:Type} (l:List α) (zα:α) (z:β) (g:α→β) (F:Nat→List β→Int→Option (List β))
  (step:∀ acc i,0≤i→i<(l.length:Int)→acc.length=l.length→∀ r,aa (fun k=>F k (acc.set i.toNat (g (l.getD i.toNat zα))) (i+1)) r→aa (fun k=>F (k+1) acc i) r)
  (stop:∀ acc i,(l.length:Int)≤i→aa (fun k=>F (k+1) acc i) acc):aa (fun k=>F k (List.replicate l.length z) 0) (l.map g):=by
 have h:=ru (l.length:Int) F (fun i=>(l.take i.toNat).map g++List.replicate (l.length - i.toNat) z) (fun _=>l.map g) ?_ ?_ 0 (Int.le_refl _) (by omega)
 ·simpa using h
 ·intro i h0 hlt ih
  refine step _ i h0 hlt (by simp;omega) _ ?_
  have hi:i.toNat<l.length:=by omega
  have e:((l.take i.toNat).map g++List.replicate (l.length - i.toNat) z).set i.toNat (g (l.getD i.toNat zα))=(l.take (i+1).toNat).map g++List.replicate (l.length - (i+1).toNat) z:=by
   have e1:(i+1).toNat=i.toNat+1:=by omega
   rw [e1,List.take_succ_eq_append_getElem hi,List.map_append,getD_at l zα _ hi,List.set_append_right _ _ (by simp;omega)]
   have e2:l.length - i.toNat=(l.length - (i.toNat+1))+1:=by omega
   have e3:i.toNat - ((l.take i.toNat).map g).length=0:=by simp;omega
   rw [e2,e3,List.replicate_succ]
   simp
  rw [e]
  exact ih
 ·have h:=stop ((l.take ((l.length:Int)).toNat).map g++List.replicate (l.length - ((l.length:Int)).toNat) z) (l.length:Int) (Int.le_refl _)
  refine h.same ?_
  simp
theorem G6 (n:Int) (h0:0≤n) (F:Nat→Int→Option Bool) (step:∀ i,0≤i→i<n→aa (fun k=>F k (i+1)) true→aa (fun k=>F (k+1) i) true)
  (stop:aa (fun k=>F (k+1) n) true):aa (fun k=>F k 0) true :=
 ru n (fun k (_:Unit) i=>F k i) (fun _=>()) (fun _=>true) step stop 0 (Int.le_refl _) h0
theorem FP (n:Int) (hn:0≤n) (ok:Int→Prop) (q:Prop) (F:Nat→Int→Option Bool)
  (step:∀ i,0≤i→i<n→(ok i→∀ r,aa (fun k=>F k (i+1)) r→aa (fun k=>F (k+1) i) r)∧(¬ ok i→aa (fun k=>F (k+1) i) false))
  (stop:aa (fun k=>F (k+1) n) (B q)):aa (fun k=>F k 0) (B ((∀ i,0≤i→i<n→ok i)∧q)):=by
 have h:=ru n (fun k (_:Unit) i=>F k i) (fun _=>()) (fun i=>B ((∀ j,i≤j→j<n→ok j)∧q)) ?_ ?_ 0 (Int.le_refl _) hn
 ·exact h
 ·intro i h0 hlt ih
  by_cases hk:ok i
  ·refine ((step i h0 hlt).1 hk _ ih).same (jB ⟨fun h=>⟨fun j h1 h2=>?_,h.2⟩,fun h=>⟨fun j h1 h2=>h.1 j (by omega) h2,h.2⟩⟩)
   by_cases e:j=i
   ·rw [e];exact hk
   ·exact h.1 j (by omega) h2
  ·exact ((step i h0 hlt).2 hk).same (fK (fun h=>hk (h.1 i (Int.le_refl _) hlt))).symm
 ·exact stop.same (jB ⟨fun h=>⟨fun j h1 h2=>absurd h2 (by omega),h⟩,fun h=>h.2⟩)
theorem V8 (n:Int) (hn:0≤n) (p:Int→Prop) (F:Nat→Int→Option Int)
  (step:∀ i,0≤i→i<n→(p i→aa (fun k=>F (k+1) i) i)∧(¬ p i→∀ r,aa (fun k=>F k (i+1)) r→aa (fun k=>F (k+1) i) r))
  (stop:aa (fun k=>F (k+1) n) (-1)) :
  ∃ r,aa (fun k=>F k 0) r∧((r = -1∧∀ j,0≤j→j<n→¬ p j)∨(0≤r∧r<n∧p r∧∀ j,0≤j→j<r→¬ p j)):=by
 have key:∀ (d:Nat) (i:Int),0≤i→i≤n→n - i≤d→∃ r,aa (fun k=>F k i) r∧((r = -1∧∀ j,i≤j→j<n→¬ p j)∨(i≤r∧r<n∧p r∧∀ j,i≤j→j<r→¬ p j)):=by
  intro d
  induction d with
  | zero =>
   intro i h0 h1 hd
   obtain rfl:i=n:=by omega
   exact ⟨-1,stop.succ,.inl ⟨rfl,fun j h1 h2=>absurd h2 (by omega)⟩⟩
  | succ d ih =>
   intro i h0 h1 hd
   by_cases hlt:i<n
   ·by_cases hp:p i
    ·exact ⟨i,((step i h0 hlt).1 hp).succ,.inr ⟨Int.le_refl _,hlt,hp,fun j h1 h2=>absurd h2 (by omega)⟩⟩
    ·obtain ⟨r,hr,h⟩:=ih (i+1) (by omega) (by omega) (by omega)
     refine ⟨r,((step i h0 hlt).2 hp r hr).succ,?_⟩
     rcases h with ⟨h1,h2⟩ | ⟨h1,h2,h3,h4⟩
     ·refine .inl ⟨h1,fun j g1 g2=>?_⟩
      by_cases e:j=i
      ·rw [e];exact hp
      ·exact h2 j (by omega) g2
     ·refine .inr ⟨by omega,h2,h3,fun j g1 g2=>?_⟩
      by_cases e:j=i
      ·rw [e];exact hp
      ·exact h4 j (by omega) g2
   ·obtain rfl:i=n:=by omega
    exact ⟨-1,stop.succ,.inl ⟨rfl,fun j h1 h2=>absurd h2 (by omega)⟩⟩
 exact key n.toNat 0 (Int.le_refl _) hn (by omega)
theorem Hg {a b:ByteArray} : a.toList=b.toList ↔ a=b:=by
 constructor
 ·intro h
  rw [Lib.toList_data,Lib.toList_data] at h
  cases a with|mk x=>cases b with|mk y=>cases x with|mk x=>cases y with|mk y=>simp at h;rw [h]
 ·rintro rfl
  rfl
theorem O5 {a:ByteArray} : a.toList=([]:List UInt8) ↔ a.size=0:=by
 rw [Lib.toList_data]
 cases a with|mk x=>cases x with|mk x=>simp [ByteArray.size]
end Go.Proofs.YtapilmimgiaglaaGreatDoor.Ev0
namespace Go.Proofs.YtapilmimgiaglaaGreatDoor.QA
open Go.RowKit Go.Proofs.bB.fA Go.Proofs.YtapilmimgiaglaaGreatDoor.Ev0
def bM (l:List UInt8):ByteArray:=⟨l.toArray⟩
theorem KX (a b:List UInt8):bM a++bM b=bM (a++b):=by
 apply ByteArray.ext
 simp [bM]
theorem qP (l:List UInt8):(bM l).size=l.length:=by simp [bM,ByteArray.size]
def dg (u:Nat):List UInt8:=if u=0 then [] else Lib.decDigits u
theorem ahe (u:Nat) (h:u≠0):dg u=dg (u / 10)++[UInt8.ofNat (48+u % 10)]:=by
 unfold dg
 rw [if_neg h,Lib.decDigits]
 by_cases g:u<10
 ·rw [dif_pos g,if_pos (by omega),show u % 10=u by omega]
  rfl
 ·rw [dif_neg g,if_neg (by omega)]
theorem arB (d:Nat):∀ u:Nat,u<10 ^ d→(dg u).length≤d:=by
 induction d with
 | zero =>
  intro u h
  have:u=0:=by (simpa using h)
  subst this
  simp [dg]
 | succ d ih =>
  intro u h
  by_cases g:u=0
  ·subst g;simp [dg]
  ·rw [ahe u g,List.length_append,List.length_singleton]
   have:=ih (u / 10) (by rw [Nat.pow_succ] at h;omega)
   omega
theorem awK (v:Nat) (h:v<10):strOfNums [((48+v:Nat):Int)]=bM [UInt8.ofNat (48+v)]:=by
 have:v=0∨v=1∨v=2∨v=3∨v=4∨v=5∨v=6∨v=7∨v=8∨v=9:=by omega
 rcases this with rfl|rfl|rfl|rfl|rfl|rfl|rfl|rfl|rfl|rfl <;> rfl
theorem ahd (d:Nat):∀ (n:Nat) (a:Int) (neg:Bool) (x:List UInt8),(a=(n:Int)∨a = -(n:Int))→n<10 ^ d→n≤9223372036854775808→(a=(n:Int)→n≤9223372036854775807)→x.length+d≤1000 →
  aa (fun k=>fw.l0 k a neg (bM x)) (bM ((if neg=true then [45] else [])++(dg n++x))):=by
 have fin:∀ (a:Int) (neg:Bool) (x:List UInt8),a=0→x.length≤1000→aa (fun k=>fw.l0 k a neg (bM x)) (bM ((if neg=true then [45] else [])++(dg 0++x))):=by
  intro a neg x ha hx
  apply aa.succ
  simp only [fw.l0]
  refine aa.pos ha ?_
  cases neg with
  | true=>exact aa.pos rfl (aa.pos (by rw [qP];omega) ((aa.pure _).same (KX [45] x)))
  | false=>exact aa.neg (by decide) ((aa.pure _).same (by simp [dg]))
 induction d with
 | zero =>
  intro n a neg x ha hn h1 h2 hx
  have:n=0:=by simpa using hn
  subst this
  exact fin a neg x (by omega) (by omega)
 | succ d ih =>
  intro n a neg x ha hn h1 h2 hx
  by_cases g:n=0
  ·subst g
   exact fin a neg x (by omega) (by omega)
  have hd:n / 10<10 ^ d:=by rw [Nat.pow_succ] at hn;omega
  apply aa.succ
  simp only [fw.l0,Option.bind_some]
  refine aa.neg (by omega) ?_
  have hv:n % 10<10:=by omega
  have one:∀ v:Int,v=((n % 10:Nat):Int)→strOfNums [(wrap64 (48+v)) % 256]=bM [UInt8.ofNat (48+n % 10)]:=fun v e=>by
   rw [e,dN (by omega) (by omega),← awK _ hv]
   congr 2
   omega
  have ends:bM ((if neg=true then [45] else [])++(dg (n / 10)++([UInt8.ofNat (48+n % 10)]++x)))=bM ((if neg=true then [45] else [])++(dg n++x)):=by
   rw [ahe n g,List.append_assoc]
  rcases ha with ha|ha
  ·have e1:Int.tmod a 10=((n % 10:Nat):Int):=by rw [ha,Int.tmod_eq_emod_of_nonneg (by omega)];omega
   have e2:Int.tdiv a 10=((n / 10:Nat):Int):=by rw [ha,Int.tdiv_eq_ediv_of_nonneg (by omega)];omega
   refine aa.neg (by omega) ?_
   rw [one _ e1,e2,dN (by omega) (by omega),KX]
   refine aa.pos (by rw [qP,qP,List.length_singleton];omega) ((ih (n / 10) _ neg _ (.inl rfl) hd (by omega) (fun _=>by omega) (by simp;omega)).same ends)
  ·have e1:Int.tmod a 10 = -((n % 10:Nat):Int):=by rw [ha,Int.neg_tmod,Int.tmod_eq_emod_of_nonneg (by omega)];omega
   have e2:Int.tdiv a 10 = -((n / 10:Nat):Int):=by rw [ha,Int.neg_tdiv,Int.tdiv_eq_ediv_of_nonneg (by omega)];omega
   have hm:wrap64 (-(Int.tmod a 10))=((n % 10:Nat):Int):=by rw [e1,dN (by omega) (by omega)];omega
   have go:aa (fun k=>fw.l0 k (-((n / 10:Nat):Int)) neg (bM ([UInt8.ofNat (48+n % 10)]++x))) (bM ((if neg=true then [45] else [])++(dg n++x))) :=
    (ih (n / 10) _ neg _ (.inr rfl) hd (by omega) (fun h=>by omega) (by simp;omega)).same ends
   by_cases hz:Int.tmod a 10<0
   ·refine aa.pos hz ?_
    rw [hm,one _ rfl,e2,dN (by omega) (by omega),KX]
    exact aa.pos (by rw [qP,qP,List.length_singleton];omega) go
   ·refine aa.neg hz ?_
    rw [one _ (by omega),e2,dN (by omega) (by omega),KX]
    exact aa.pos (by rw [qP,qP,List.length_singleton];omega) go
theorem MG (a:Int) (h0 : -9223372036854775808≤a) (h1:a≤9223372036854775807):aa (fun k=>fw.f k a) (bM (Lib.itoa a)):=by
 unfold fw.f
 by_cases e:a=0
 ·refine aa.pos e ((aa.pure _).same ?_)
  subst e
  unfold Lib.itoa
  rw [if_neg (by decide),show (0:Int).toNat=0 from rfl,Lib.decDigits,dif_pos (by decide)]
  rfl
 ·refine aa.neg e ?_
  by_cases g:a<0
  ·rw [decide_eq_true g]
   have h:=ahd 20 a.natAbs a true [] (.inr (by omega)) (by omega) (by omega) (fun h=>by omega) (by decide)
   refine (show aa (fun k=>fw.l0 k a true (⟨#[]⟩:ByteArray)) _ from h).same ?_
   unfold Lib.itoa dg
   rw [if_pos g,if_pos rfl,if_neg (by omega),List.append_nil]
   rfl
  ·rw [decide_eq_false g]
   have h:=ahd 20 a.natAbs a false [] (.inl (by omega)) (by omega) (by omega) (fun h=>by omega) (by decide)
   refine (show aa (fun k=>fw.l0 k a false (⟨#[]⟩:ByteArray)) _ from h).same ?_
   unfold Lib.itoa dg
   rw [if_neg g,if_neg (by decide),if_neg (by omega),List.append_nil,List.nil_append,show a.toNat=a.natAbs by omega]
theorem auS (a:Int) (h0 : -9223372036854775808≤a) (h1:a≤9223372036854775807):(Lib.itoa a).length≤25:=by
 have hd:∀ u:Nat,u<10 ^ 20→(Lib.decDigits u).length≤20:=fun u hu=>by
  by_cases g:u=0
  ·subst g
   rw [Lib.decDigits,dif_pos (by decide)]
   decide
  ·have:=arB 20 u hu
   unfold dg at this
   rwa [if_neg g] at this
 unfold Lib.itoa
 by_cases g:a<0
 ·rw [if_pos g,List.length_cons]
  have:=hd a.natAbs (by omega)
  omega
 ·rw [if_neg g]
  have:=hd a.toNat (by omega)
  omega
theorem yX (a b c:Int):kY.f a b c=some (B (b≤a∧a≤c)):=by
 unfold kY.f
 by_cases h:b≤a
 ·rw [if_pos h,AZ]
  exact congrArg some (jB ⟨fun x=>⟨h,x⟩,fun x=>x.2⟩)
 ·rw [if_neg h,fK (fun x=>h x.1)]
theorem akh (c:Int):xO.f c=some (B (65≤c∧c≤90)):=by
 unfold xO.f
 by_cases h:c≥65
 ·rw [if_pos h,AZ]
  exact congrArg some (jB ⟨fun x=>⟨h,x⟩,fun x=>x.2⟩)
 ·rw [if_neg h,fK (fun x=>h x.1)]
theorem akg (c:Int):Dl.f c=some (B (48≤c∧c≤57)):=by
 unfold Dl.f
 by_cases h:c≥48
 ·rw [if_pos h,AZ]
  exact congrArg some (jB ⟨fun x=>⟨h,x⟩,fun x=>x.2⟩)
 ·rw [if_neg h,fK (fun x=>h x.1)]
theorem avk (n:Int):FU.f n=some (B (1≤n∧n≤1000000)):=by
 unfold FU.f
 by_cases h:n≥1
 ·rw [if_pos h,AZ]
  exact congrArg some (jB ⟨fun x=>⟨h,x⟩,fun x=>x.2⟩)
 ·rw [if_neg h,fK (fun x=>h x.1)]
def yO (c:Int):Prop:=(65≤c∧c≤90)∨(48≤c∧c≤57)∨c=45
def aaj (s:ByteArray):Prop:=1≤(s.size:Int)∧(s.size:Int)≤12∧(65≤bt s 0∧bt s 0≤90)∧∀ j:Int,0≤j→j<s.size→yO (bt s j)
noncomputable def MI (s:ByteArray):Bool:=B (aaj s)
theorem awH (s:ByteArray) (hs:(s.size:Int)≤9223372036854775807) (d:Nat):∀ i:Int,0≤i→(s.size:Int) - i≤d→aa (fun k=>jf.l0 k s i) (B (∀ j:Int,i≤j→j<s.size→yO (bt s j))):=by
 induction d with
 | zero =>
  intro i h0 hd
  apply aa.succ
  simp only [jf.l0]
  refine aa.neg (by omega) ((aa.pure true).same (fC ?_).symm)
  intro j h1 h2
  omega
 | succ d ih =>
  intro i h0 hd
  apply aa.succ
  simp only [jf.l0]
  by_cases hlt:i<(s.size:Int)
  ·refine aa.pos hlt (aa.pos h0 ?_)
   have hw:wrap64 (i+1)=i+1:=dN (by omega) (by omega)
   rw [hw]
   have yes:yO (bt s i)→aa (fun k=>jf.l0 k s (i+1)) (B (∀ j:Int,i≤j→j<s.size→yO (bt s j))):=fun hc =>
    (ih (i+1) (by omega) (by omega)).same (jB ⟨fun h j h1 h2=>by
     by_cases e:j=i
     ·rw [e];exact hc
     ·exact h j (by omega) h2,fun h j h1 h2=>h j (by omega) h2⟩)
   have no:¬ yO (bt s i)→aa (fun _=>some false) (B (∀ j:Int,i≤j→j<s.size→yO (bt s j))):=fun hc =>
    (aa.pure false).same (fK (fun h=>hc (h i (Int.le_refl _) hlt))).symm
   have digit:aa (fun k=>if bt s i≥48 then (if bt s i≤57 then jf.l0 k s (i+1) else (if bt s i=45 then jf.l0 k s (i+1) else some false)) else (if bt s i=45 then jf.l0 k s (i+1) else some false)) (B (∀ j:Int,i≤j→j<s.size→yO (bt s j)))∨(65≤bt s i∧bt s i≤90):=by
    by_cases hg:65≤bt s i∧bt s i≤90
    ·exact .inr hg
    ·refine .inl (aa.ite (fun h1=>aa.ite (fun h2=>yes (.inr (.inl ⟨h1,h2⟩))) (fun h2=>aa.ite (fun h3=>yes (.inr (.inr h3))) (fun h3=>no (fun hk=>?_)))) (fun h1=>aa.ite (fun h3=>yes (.inr (.inr h3))) (fun h3=>no (fun hk=>?_))))
     ·rcases hk with hk|hk|hk
      ·exact hg hk
      ·omega
      ·exact h3 hk
     ·rcases hk with hk|hk|hk
      ·exact hg hk
      ·omega
      ·exact h3 hk
   refine aa.ite (fun h1=>aa.ite (fun h2=>yes (.inl ⟨h1,h2⟩)) (fun h2=>?_)) (fun h1=>?_)
   ·exact digit.resolve_right (fun h=>h2 h.2)
   ·exact digit.resolve_right (fun h=>h1 h.1)
  ·refine aa.neg hlt ((aa.pure true).same (fC ?_).symm)
   intro j h1 h2
   omega
theorem adx (s:ByteArray) (hs:(s.size:Int)≤9223372036854775807):aa (fun k=>jf.f k s) (MI s):=by
 unfold jf.f
 have bad:¬ aaj s→aa (fun k=>jf.j0 k s true) (MI s):=fun h=>by
  apply aa.succ
  simp only [jf.j0]
  exact (aa.pure false).same (fK h).symm
 refine aa.ite (fun h=>bad (fun hn=>by have:=hn.1;omega)) (fun h1=>aa.ite (fun h=>bad (fun hn=>by have:=hn.2.1;omega)) (fun h2=>aa.pos (by omega) (aa.ite (fun h=>bad (fun hn=>by have:=hn.2.2.1.1;omega)) (fun h3=>?_))))
 by_cases h4:bt s 0>90
 ·rw [decide_eq_true h4]
  exact bad (fun hn=>by have:=hn.2.2.1.2;omega)
 ·rw [decide_eq_false h4]
  apply aa.succ
  simp only [jf.j0]
  refine (awH s hs s.size 0 (Int.le_refl _) (by omega)).same (jB ⟨fun h=>⟨by omega,by omega,⟨by omega,by omega⟩,h⟩,fun h=>h.2.2.2⟩)
theorem auL (s:ByteArray) (hs:(s.size:Int)≤9223372036854775807) (d:Nat):∀ i:Int,0≤i→(s.size:Int) - i≤d →
  aa (fun k=>oI.l0 k s (s.size:Int) i) (B ((∀ j:Int,i≤j→j<s.size→(65≤bt s j∧bt s j≤90)∨(j≠0∧yO (bt s j)))∧1≤(s.size:Int)∧(s.size:Int)≤12)):=by
 induction d with
 | zero =>
  intro i h0 hd
  apply aa.succ
  simp only [oI.l0]
  refine aa.neg (by omega) (aa.const ?_)
  rw [yX]
  exact congrArg some (jB ⟨fun h=>⟨fun j h1 h2=>by omega,h⟩,fun h=>h.2⟩)
 | succ d ih =>
  intro i h0 hd
  apply aa.succ
  simp only [oI.l0]
  by_cases hlt:i<(s.size:Int)
  ·refine aa.pos hlt (aa.pos h0 (aa.pos hlt ?_))
   have hw:wrap64 (i+1)=i+1:=dN (by omega) (by omega)
   rw [hw,akh,akg]
   have yes:((65≤bt s i∧bt s i≤90)∨(i≠0∧yO (bt s i)))→aa (fun k=>oI.l0 k s (s.size:Int) (i+1)) (B ((∀ j:Int,i≤j→j<s.size→(65≤bt s j∧bt s j≤90)∨(j≠0∧yO (bt s j)))∧1≤(s.size:Int)∧(s.size:Int)≤12)):=fun hc =>
    (ih (i+1) (by omega) (by omega)).same (jB ⟨fun h=>⟨fun j h1 h2=>by
     by_cases e:j=i
     ·rw [e];exact hc
     ·exact h.1 j (by omega) h2,h.2⟩,fun h=>⟨fun j h1 h2=>h.1 j (by omega) h2,h.2⟩⟩)
   have no:¬ ((65≤bt s i∧bt s i≤90)∨(i≠0∧yO (bt s i)))→aa (fun _=>some false) (B ((∀ j:Int,i≤j→j<s.size→(65≤bt s j∧bt s j≤90)∨(j≠0∧yO (bt s j)))∧1≤(s.size:Int)∧(s.size:Int)≤12)):=fun hc =>
    (aa.pure false).same (fK (fun h=>hc (h.1 i (Int.le_refl _) hlt))).symm
   simp only [Option.bind_some]
   refine aa.ite (fun h1=>yes (.inl (Ef.1 h1))) (fun h1=>?_)
   have g1:¬ (65≤bt s i∧bt s i≤90):=fun h=>h1 (Ef.2 h)
   refine aa.ite (fun h2=>no (fun h=>h.elim g1 (fun h=>h.1 h2))) (fun h2=>aa.ite (fun h3=>yes (.inr ⟨h2,.inr (.inl (Ef.1 h3))⟩)) (fun h3=>aa.ite (fun h4=>yes (.inr ⟨h2,.inr (.inr h4)⟩)) (fun h4=>no (fun h=>?_))))
   rcases h with h | ⟨_,h|h|h⟩
   ·exact g1 h
   ·exact g1 h
   ·exact h3 (Ef.2 h)
   ·exact h4 h
  ·refine aa.neg hlt (aa.const ?_)
   rw [yX]
   exact congrArg some (jB ⟨fun h=>⟨fun j h1 h2=>by omega,h⟩,fun h=>h.2⟩)
theorem Xd (s:ByteArray) (hs:(s.size:Int)≤9223372036854775807):aa (fun k=>oI.f k s) (MI s):=by
 unfold oI.f
 refine (auL s hs s.size 0 (Int.le_refl _) (by omega)).same (jB ⟨fun h=>⟨h.2.1,h.2.2,?_,?_⟩,fun h=>⟨?_,h.1,h.2.1⟩⟩)
 ·rcases h.1 0 (Int.le_refl _) (by omega) with h|h
  ·exact h
  ·exact absurd rfl h.1
 ·intro j h1 h2
  rcases h.1 j h1 h2 with h|h
  ·exact .inl h
  ·exact h.2
 ·intro j h1 h2
  by_cases e:j=0
  ·rw [e];exact .inl h.2.2.1
  ·exact .inr ⟨e,h.2.2.2 j h1 h2⟩
end Go.Proofs.YtapilmimgiaglaaGreatDoor.QA
namespace Go.Proofs.YtapilmimgiaglaaGreatDoor.Num
def lQ (c:UInt8):Prop:=48≤c.toNat∧c.toNat≤57
def val (acc:Nat):List UInt8→Nat
 | []=>acc
 | c :: r=>val (acc * 10+(c.toNat - 48)) r
theorem alv (l:List UInt8):∀ acc,acc≤val acc l:=by
 induction l with
 | nil=>intro acc;exact Nat.le_refl _
 | cons c r ih=>intro acc;exact Nat.le_trans (by omega) (ih _)
theorem adO (l:List UInt8) (c:UInt8):∀ acc,val acc (l++[c])=val acc l * 10+(c.toNat - 48):=by
 induction l with
 | nil=>intro acc;rfl
 | cons a r ih=>intro acc;exact ih _
theorem akR (l:List UInt8):∀ acc,(∀ c ∈ l,lQ c)→val acc l≤1000000000000000000→Lib.parseUint10 acc l=.ok (val acc l):=by
 induction l with
 | nil=>intro acc _ _;rfl
 | cons c r ih =>
  intro acc hd hv
  have hc:=hd c (List.mem_cons_self ..)
  have hg:=alv r (acc * 10+(c.toNat - 48))
  have hv':val (acc * 10+(c.toNat - 48)) r≤1000000000000000000:=hv
  unfold Lib.parseUint10
  rw [if_pos (show 48≤c.toNat∧c.toNat≤57 from hc),if_neg (by omega),if_neg (by omega)]
  exact ih _ (fun x hx=>hd x (List.mem_cons_of_mem _ hx)) hv'
theorem akP (l:List UInt8):∀ acc u,Lib.parseUint10 acc l=.ok u→(∀ c ∈ l,lQ c)∧u=val acc l:=by
 induction l with
 | nil =>
  intro acc u h
  simp only [Lib.parseUint10] at h
  injection h with h
  exact ⟨by simp,h.symm⟩
 | cons c r ih =>
  intro acc u h
  unfold Lib.parseUint10 at h
  by_cases hc:48≤c.toNat∧c.toNat≤57
  ·rw [if_pos hc] at h
   by_cases h1:1844674407370955162≤acc
   ·rw [if_pos h1] at h;cases h
   ·rw [if_neg h1] at h
    by_cases h2:18446744073709551616≤acc * 10+(c.toNat - 48)
    ·rw [if_pos h2] at h;cases h
    ·rw [if_neg h2] at h
     obtain ⟨g1,g2⟩:=ih _ _ h
     refine ⟨fun x hx=>?_,g2⟩
     rcases List.mem_cons.1 hx with rfl|hx
     ·exact hc
     ·exact g1 x hx
  ·rw [if_neg hc] at h;cases h
theorem byte_of (v:Nat) (h:v<10):(UInt8.ofNat (48+v)).toNat=48+v:=by
 have:v=0∨v=1∨v=2∨v=3∨v=4∨v=5∨v=6∨v=7∨v=8∨v=9:=by omega
 rcases this with rfl|rfl|rfl|rfl|rfl|rfl|rfl|rfl|rfl|rfl <;> rfl
theorem ahY {a b:List UInt8} (h:a≠[]):(a++b).head? = a.head?:=by
 cases a with
 | nil=>exact absurd rfl h
 | cons c r=>rfl
theorem VX (u:Nat):(∀ c ∈ Lib.decDigits u,lQ c)∧val 0 (Lib.decDigits u)=u∧Lib.decDigits u≠[]∧(0<u→(Lib.decDigits u).head? ≠ some 48):=by
 induction u using Nat.strongRecOn with
 | ind u ih =>
  rw [Lib.decDigits]
  by_cases g:u<10
  ·rw [dif_pos g]
   have hb:=byte_of u g
   refine ⟨fun c hc=>?_,?_,by simp,fun hp=>?_⟩
   ·rw [List.mem_singleton.1 hc]
    unfold lQ
    omega
   ·show 0 * 10+((UInt8.ofNat (48+u)).toNat - 48)=u
    omega
   ·intro h
    have h2:UInt8.ofNat (48+u)=48:=by simpa using h
    have h3:=congrArg UInt8.toNat h2
    rw [hb] at h3
    have h4:(48:UInt8).toNat=48:=rfl
    omega
  ·rw [dif_neg g]
   obtain ⟨i1,i2,i3,i4⟩:=ih (u / 10) (by omega)
   have hb:=byte_of (u % 10) (by omega)
   refine ⟨fun c hc=>?_,?_,by simp,fun hp=>?_⟩
   ·rcases List.mem_append.1 hc with hc|hc
    ·exact i1 c hc
    ·rw [List.mem_singleton.1 hc]
     unfold lQ
     omega
   ·rw [adO,i2,hb]
    omega
   ·rw [ahY i3]
    exact i4 (by omega)
theorem alx (l:List UInt8):∀ c r,l=c :: r→lQ c→c≠48→0<val 0 l:=by
 intro c r hl hc hn
 subst hl
 have h1:=alv r (0 * 10+(c.toNat - 48))
 have h2:c.toNat≠48:=fun h=>hn (UInt8.toNat_inj.1 h)
 have h3:val 0 (c :: r)=val (0 * 10+(c.toNat - 48)) r:=rfl
 unfold lQ at hc
 omega
theorem aaX (n:Nat):∀ l:List UInt8,l.length=n→l≠[]→(∀ c ∈ l,lQ c)→(l.head? ≠ some 48∨l=[48])→Lib.decDigits (val 0 l)=l:=by
 induction n with
 | zero=>intro l hl hn;exact absurd (List.eq_nil_of_length_eq_zero hl) hn
 | succ n ih =>
  intro l hl hn hd hh
  obtain ⟨m,c,rfl⟩:∃ m c,l=m++[c]:=⟨l.dropLast,l.getLast hn,(List.dropLast_concat_getLast hn).symm⟩
  have hc:=hd c (by simp)
  have hcb:UInt8.ofNat (48+(c.toNat - 48))=c:=by
   unfold lQ at hc
   rw [show 48+(c.toNat - 48)=c.toNat by omega]
   exact UInt8.ofNat_toNat
  rw [adO]
  by_cases hm:m=[]
  ·subst hm
   have e:val 0 [] * 10+(c.toNat - 48)=c.toNat - 48:=by show 0 * 10+_=_;omega
   rw [e,Lib.decDigits,dif_pos (by unfold lQ at hc;omega),hcb]
   rfl
  ·have aiV:m.head? ≠ some 48:=by
    rcases hh with h|h
    ·rwa [ahY hm] at h
    ·exfalso
     have:=congrArg List.length h
     exact hm (by simpa using this)
   have ih':=ih m (by simp at hl;exact hl) hm (fun x hx=>hd x (List.mem_append_left _ hx)) (.inl aiV)
   have hp:0<val 0 m:=by
    cases m with
    | nil=>exact absurd rfl hm
    | cons a r=>exact alx _ a r rfl (hd a (by simp)) (fun h=>aiV (by rw [h];rfl))
   have hlt:c.toNat - 48<10:=by unfold lQ at hc;omega
   rw [Lib.decDigits,dif_neg (by omega),show (val 0 m * 10+(c.toNat - 48)) / 10=val 0 m by omega,show (val 0 m * 10+(c.toNat - 48)) % 10=c.toNat - 48 by omega,ih',hcb]
def iH (t:List UInt8):List UInt8:=if t.head? = some 45 then t.tail else t
def je (t:List UInt8):Prop:=iH t≠[]∧(∀ c ∈ iH t,lQ c)∧((iH t).head? ≠ some 48∨t=[48])
def iO (t:List UInt8):Int:=if t.head? = some 45 then -(val 0 (iH t):Int) else (val 0 (iH t):Int)
theorem akK (t:List UInt8) (h:je t):Lib.itoa (iO t)=t:=by
 obtain ⟨h1,h2,h3⟩:=h
 unfold iO iH at *
 by_cases hn:t.head? = some 45
 ·rw [if_pos hn] at h1 h2 h3 ⊢
  rw [if_pos hn]
  cases t with
  | nil=>cases hn
  | cons a r =>
   have ha:a=45:=by simpa using hn
   subst ha
   have h4:r.head? ≠ some 48:=h3.resolve_right (by simp)
   have hb:=aaX r.length r rfl h1 h2 (.inl h4)
   have hp:0<val 0 r:=by
    cases r with
    | nil=>exact absurd rfl h1
    | cons b q=>exact alx _ b q rfl (h2 b (by simp)) (fun h=>h4 (by rw [h];rfl))
   unfold Lib.itoa
   show (if (-(val 0 r:Int))<0 then 45 :: Lib.decDigits (-(val 0 r:Int)).natAbs else _)=45 :: r
   rw [if_pos (by omega),show (-(val 0 r:Int)).natAbs=val 0 r by omega,hb]
 ·rw [if_neg hn] at h1 h2 h3 ⊢
  rw [if_neg hn]
  have hb:=aaX t.length t rfl h1 h2 (h3.imp id id)
  unfold Lib.itoa
  rw [if_neg (by omega),show ((val 0 t:Int)).toNat=val 0 t by omega,hb]
theorem auT (t:List UInt8) (hd:∀ c ∈ iH t,lQ c) (h:Lib.itoa (iO t)=t):je t:=by
 unfold je
 unfold iO iH at *
 by_cases hn:t.head? = some 45
 ·rw [if_pos hn] at hd h ⊢
  rw [if_pos hn] at h
  cases t with
  | nil=>cases hn
  | cons a r =>
   have ha:a=45:=by simpa using hn
   subst ha
   have h':Lib.itoa (-(val 0 r:Int))=45 :: r:=h
   unfold Lib.itoa at h'
   by_cases hz:val 0 r=0
   ·rw [hz,if_neg (by omega)] at h'
    have e:(-((0:Nat):Int)).toNat=0:=rfl
    rw [e,Lib.decDigits,dif_pos (by decide)] at h'
    have:=congrArg List.head? h'
    simp at this
   ·rw [if_pos (by omega),show (-(val 0 r:Int)).natAbs=val 0 r by omega] at h'
    have hr:Lib.decDigits (val 0 r)=r:=by simpa using h'
    obtain ⟨_,_,d3,d4⟩:=VX (val 0 r)
    rw [hr] at d3 d4
    exact ⟨d3,hd,.inl (d4 (by omega))⟩
 ·rw [if_neg hn] at hd h ⊢
  rw [if_neg hn] at h
  unfold Lib.itoa at h
  rw [if_neg (by omega),show ((val 0 t:Int)).toNat=val 0 t by omega] at h
  obtain ⟨_,_,d3,d4⟩:=VX (val 0 t)
  rw [h] at d3 d4
  refine ⟨d3,hd,?_⟩
  by_cases hz:val 0 t=0
  ·rw [hz,Lib.decDigits,dif_pos (by decide)] at h
   exact .inr h.symm
  ·exact .inl (d4 (by omega))
theorem avF (t:List UInt8) (h:je t) (hv:val 0 (iH t)≤1000000000000000000):Lib.atoiAll t=.ok (iO t):=by
 obtain ⟨h1,h2,h3⟩:=h
 unfold iO iH at *
 cases t with
 | nil=>simp at h1
 | cons a r =>
  by_cases ha:a=45
  ·subst ha
   have hn:((45:UInt8) :: r).head? = some 45:=rfl
   rw [if_pos hn] at h1 h2 hv ⊢
   rw [if_pos hn]
   have hr:r≠[]:=h1
   have hp:=akR r 0 h2 hv
   have hv':val 0 r≤1000000000000000000:=hv
   unfold Lib.atoiAll Lib.parseMag
   have e45:(45:UInt8).toNat=45:=rfl
   simp only [e45,or_true,if_true,if_neg hr,hp,not_true,false_and,if_false,true_and]
   rw [if_neg (by omega)]
   rfl
  ·have hn:¬ (a :: r).head? = some 45:=by simpa using ha
   rw [if_neg hn] at h1 h2 hv ⊢
   rw [if_neg hn]
   have hda:=h2 a (by simp)
   unfold lQ at hda
   have hp:=akR (a :: r) 0 h2 hv
   unfold Lib.atoiAll Lib.parseMag
   have e2:¬ a.toNat=45:=by omega
   have e5:¬ a.toNat=43:=by omega
   have e4:¬ (a :: r)=[]:=by simp
   simp only [e5,e2,or_self,if_false,if_neg e4,hp,not_false_eq_true,true_and,false_and]
   rw [if_neg (by omega)]
theorem akQ (t:List UInt8) (h:je t) (v:Int) (hp:Lib.atoiAll t=.ok v):v=iO t:=by
 obtain ⟨h1,h2,h3⟩:=h
 unfold iO iH at *
 cases t with
 | nil=>simp at h1
 | cons a r =>
  unfold Lib.atoiAll Lib.parseMag at hp
  by_cases ha:a=45
  ·subst ha
   have hn:((45:UInt8) :: r).head? = some 45:=rfl
   rw [if_pos hn] at h1 h2 ⊢
   rw [if_pos hn]
   have e45:(45:UInt8).toNat=45:=rfl
   have hr:r≠[]:=h1
   simp only [e45,or_true,if_true,if_neg hr,not_true,false_and,if_false,true_and] at hp
   cases hq:Lib.parseUint10 0 r with
   | «syntax»=>rw [hq] at hp;cases hp
   | range=>rw [hq] at hp;cases hp
   | ok u =>
    rw [hq] at hp
    simp only at hp
    obtain ⟨_,rfl⟩:=akP r 0 u hq
    by_cases hb:9223372036854775808<val 0 r
    ·rw [if_pos hb] at hp;cases hp
    ·rw [if_neg hb] at hp
     injection hp with hp
     exact hp.symm
  ·have hn:¬ (a :: r).head? = some 45:=by simpa using ha
   rw [if_neg hn] at h1 h2 ⊢
   rw [if_neg hn]
   have hda:=h2 a (by simp)
   unfold lQ at hda
   have e2:¬ a.toNat=45:=by omega
   have e5:¬ a.toNat=43:=by omega
   have e4:¬ (a :: r)=[]:=by simp
   simp only [e5,e2,or_self,if_false,if_neg e4,not_false_eq_true,true_and,false_and] at hp
   cases hq:Lib.parseUint10 0 (a :: r) with
   | «syntax»=>rw [hq] at hp;cases hp
   | range=>rw [hq] at hp;cases hp
   | ok u =>
    rw [hq] at hp
    simp only at hp
    obtain ⟨_,rfl⟩:=akP (a :: r) 0 u hq
    by_cases hb:9223372036854775808≤val 0 (a :: r)
    ·rw [if_pos hb] at hp;cases hp
    ·rw [if_neg hb] at hp
     injection hp with hp
     exact hp.symm
theorem arA (d:Nat):∀ u:Nat,0<d→u<10 ^ d→(Lib.decDigits u).length≤d:=by
 induction d with
 | zero=>intro u h;omega
 | succ d ih =>
  intro u _ hu
  rw [Lib.decDigits]
  by_cases g:u<10
  ·rw [dif_pos g];simp
  ·rw [dif_neg g,List.length_append,List.length_singleton]
   have h1:u / 10<10 ^ d:=by rw [Nat.pow_succ] at hu;omega
   have h2:0<d:=by
    rcases Nat.eq_zero_or_pos d with z|z
    ·subst z;simp at h1;omega
    ·exact z
   have:=ih (u / 10) h2 h1
   omega
theorem avE (t:List UInt8) (h:je t) (hv:val 0 (iH t)<1000000000000):(iH t).length≤12:=by
 obtain ⟨h1,h2,h3⟩:=h
 have h4:(iH t).head? ≠ some 48∨iH t=[48]:=h3.imp id (fun h=>by subst h;rfl)
 rw [← aaX _ _ rfl h1 h2 h4]
 exact arA 12 _ (by decide) (by omega)
end Go.Proofs.YtapilmimgiaglaaGreatDoor.Num
