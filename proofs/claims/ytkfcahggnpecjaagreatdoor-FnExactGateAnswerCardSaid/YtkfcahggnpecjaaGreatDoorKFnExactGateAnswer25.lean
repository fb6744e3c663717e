-- Merged by a program of this session (wip/tool/pack.py) out of its own texts for this claim.
import Derived.Test.YtkfcahggnpecjaaGreatDoorKFnExactGateAnswer24
namespace Go.Proofs.YtkfcahggnpecjaaGreatDoor.QW
open Go.RowKit Go.Proofs.YtkfcahggnpecjaaGreatDoor Go.Proofs.YtkfcahggnpecjaaGreatDoorW.PrintWords Go.Proofs.YtkfcahggnpecjaaGreatDoor.Ev0
abbrev LnX:=S64
noncomputable def gJ (s:Int):LnX:=⟨s,mt (s+1),s+2,s+3,mt (s+4)⟩
noncomputable def marksJ (n:Nat) (c:Int):List LnX:=(List.range n).map fun (j:Nat)=>gJ (c+5 * (j:Int))
theorem markJ_ev (l:List LnX) (c:Int) (h0:0≤c) (hc:c+5 * (l.length:Int)≤1000000000000000000):Evt (fun k=>laws_markLineS.f k l c) (c+5 * l.length,marksJ l.length c):=by
 unfold laws_markLineS.f
 refine mark_loop l.length l rfl 5 c gJ (fun k acc s i=>laws_markLineS.l0 k acc s i) ?_ ?_
 ·intro acc i h1 hlt hl r hr
  have hw:wrap64 (i+1)=i+1:=w64 (by omega) (by omega)
  have w1:wrap64 (c+5 * i+1)=c+5 * i+1:=w64 (by omega) (by omega)
  have w2:wrap64 (c+5 * i+1+1)=c+5 * i+2:=by rw [w64 (by omega) (by omega)];omega
  have w3:wrap64 (c+5 * i+2+1)=c+5 * i+3:=by rw [w64 (by omega) (by omega)];omega
  have w4:wrap64 (c+5 * i+3+1)=c+5 * i+4:=by rw [w64 (by omega) (by omega)];omega
  have w5:wrap64 (c+5 * i+4+1)=c+5 * i+5:=by rw [w64 (by omega) (by omega)];omega
  simp only [laws_markLineS.l0,hw,w1,w2,w3,w4,w5]
  exact Evt.pos (by omega) (Evt.pos h1 (Evt.bind (mt_ev _ (by omega)) (Evt.bind (mt_ev _ (by omega)) hr)))
 ·intro acc s hl
  simp only [laws_markLineS.l0]
  exact Evt.neg (by omega) (Evt.pure _)
theorem heldJ_ev (n:Nat) (c:Int) (h0:0≤c) (hc:c+5 * (n:Int)≤1000000000000000000):Evt (fun k=>laws_heldLineS.f k (marksJ n c) c) (c+5 * n):=by
 unfold laws_heldLineS.f
 have hlen:(marksJ n c).length=n:=by simp [marksJ]
 refine held_loop n 5 c (fun k s i=>laws_heldLineS.l0 k (marksJ n c) s i) ?_ ?_
 ·intro i h1 hlt r hr
  have hw:wrap64 (i+1)=i+1:=w64 (by omega) (by omega)
  have w1:wrap64 (c+5 * i+1)=c+5 * i+1:=w64 (by omega) (by omega)
  have w2:wrap64 (c+5 * i+1+1)=c+5 * i+2:=by rw [w64 (by omega) (by omega)];omega
  have w3:wrap64 (c+5 * i+2+1)=c+5 * i+3:=by rw [w64 (by omega) (by omega)];omega
  have w4:wrap64 (c+5 * i+3+1)=c+5 * i+4:=by rw [w64 (by omega) (by omega)];omega
  have w5:wrap64 (c+5 * i+4+1)=c+5 * i+5:=by rw [w64 (by omega) (by omega)];omega
  have e:rd_T64 (marksJ n c) i=gJ (c+5 * i):=by
   unfold rd_T64 marksJ
   rw [at_map _ _ _ _ h1 hlt,show ((i.toNat:Nat):Int)=i by omega]
  simp only [laws_heldLineS.l0,hw,w1,w2,w3,w4,w5,e,gJ,hlen]
  exact Evt.pos hlt (Evt.pos h1 (Evt.pos (by simp) (Evt.bind (mt_ev _ (by omega)) (Evt.pos (by simp) (Evt.pos (by simp) (Evt.pos (by simp) (Evt.bind (mt_ev _ (by omega)) (Evt.pos (by simp) hr))))))))
 ·intro s
  simp only [laws_heldLineS.l0,hlen]
  exact Evt.neg (by omega) (Evt.pure _)
theorem eqJ_refl (l:List LnX) (hl:l.length≤9000000):Evt (fun k=>laws_eqLineS.f k l l) true:=by
 unfold laws_eqLineS.f
 refine Evt.pos rfl (all_loop (l.length:Int) (by omega) (fun k i=>laws_eqLineS.l0 k l l i) ?_ ?_)
 ·intro i h0 hlt ih
  have hw:wrap64 (i+1)=i+1:=w64 (by omega) (by omega)
  simp only [laws_eqLineS.l0,laws_eqLine.f,if_true,hw,Option.bind_some]
  exact Evt.pos hlt (Evt.pos h0 (Evt.pos hlt ih))
 ·simp only [laws_eqLineS.l0]
  exact Evt.neg (by omega) (Evt.pure _)
theorem eqPaper0 (kd:Int) (r o:ByteArray) (d:Int) (l:List LnX) (hl:l.length≤9000000):Evt (fun k=>laws_eqPaper.f k kd r o d [] l kd r o d [] l) true:=by
 unfold laws_eqPaper.f
 have e:Evt (fun k=>laws_eqStringS.f k [] []) true:=by
  unfold laws_eqStringS.f
  refine Evt.pos rfl (Evt.succ ?_)
  simp only [laws_eqStringS.l0]
  exact Evt.neg (by decide) (Evt.pure _)
 exact Evt.pos rfl (Evt.pos rfl (Evt.pos rfl (Evt.pos rfl (Evt.bind e (Evt.pos rfl (Evt.bind (eqJ_refl l hl) (Evt.pos rfl (Evt.pure true))))))))
theorem markPaper0 (kd:Int) (r o:ByteArray) (d:Int) (l:List LnX) (hl:l.length≤9000000):∃ (t:Int) (l':List LnX),0≤t∧Evt (fun k=>laws_markPaper.f k kd r o d [] l 1) (t,[],l')∧Evt (fun k=>laws_heldPaper.f k kd r o d [] l' 1) t:=by
 refine ⟨1+5 * (l.length:Int),marksJ l.length 1,by omega,?_,?_⟩
 ·unfold laws_markPaper.f
  have e:Evt (fun k=>laws_markStringS.f k [] 1) (1,[]):=by
   unfold laws_markStringS.f
   apply Evt.succ
   simp only [laws_markStringS.l0]
   exact Evt.neg (by decide) (Evt.pure _)
  exact Evt.bind e (Evt.bind (markJ_ev l 1 (by decide) (by omega)) (Evt.pure _))
 ·unfold laws_heldPaper.f
  have e:Evt (fun k=>laws_heldStringS.f k [] 1) 1:=by
   unfold laws_heldStringS.f
   apply Evt.succ
   simp only [laws_heldStringS.l0]
   exact Evt.neg (by decide) (Evt.pure _)
  exact Evt.bind e (Evt.neg (by decide) (Evt.bind (heldJ_ev l.length 1 (by decide) (by omega)) (Evt.neg (by omega) (Evt.pure _))))
theorem dec_ans (a:Int) (h0 : -9223372036854775808≤a) (h1:a≤9223372036854775807):impl_decimal.f a=some (bs8 (Lib.itoa a)):=by
 unfold impl_decimal.f strconv_FormatInt.f
 rw [if_pos rfl,if_pos h0,if_pos h1]
 rfl
def AnsP (g:Bool) (a1:ByteArray) (a2 a3 a4:Int):Prop:=¬ (a1.size:Int)>20000∧g=true∧nameB a1=true∧(1≤a2∧a2≤999999)∧(0≤a3∧a3≤13)∧(0≤a4∧a4≤1000000000)
noncomputable def ansR (g:Bool) (d:Int) (a1:ByteArray) (a2 a3 a4:Int):Int × ByteArray × ByteArray × Int × List ByteArray × List LnX :=
 if B (AnsP g a1 a2 a3 a4)=true then (7,(⟨#[65]⟩:ByteArray)++bs8 (Lib.itoa a2),⟨#[]⟩,d,[],[⟨a3,⟨#[]⟩,a2,a4,⟨#[]⟩⟩]) else (0,⟨#[]⟩,⟨#[]⟩,0,[],[])
theorem ansR_no {g:Bool} {a1:ByteArray} {a2 a3 a4:Int} (d:Int) (h:¬ AnsP g a1 a2 a3 a4):ansR g d a1 a2 a3 a4=(0,⟨#[]⟩,⟨#[]⟩,0,[],[]):=by
 unfold ansR
 rw [B_false h]
 rfl
theorem ansR_yes {g:Bool} {a1:ByteArray} {a2 a3 a4:Int} (d:Int) (h:AnsP g a1 a2 a3 a4):ansR g d a1 a2 a3 a4=(7,(⟨#[65]⟩:ByteArray)++bs8 (Lib.itoa a2),⟨#[]⟩,d,[],[⟨a3,⟨#[]⟩,a2,a4,⟨#[]⟩⟩]):=by
 unfold ansR
 rw [B_true h]
 rfl
theorem ansR_form (g:Bool) (d:Int) (a1:ByteArray) (a2 a3 a4:Int):∃ kd r o e l,ansR g d a1 a2 a3 a4=(kd,r,o,e,[],l)∧l.length≤1:=by
 by_cases h:AnsP g a1 a2 a3 a4
 ·exact ⟨_,_,_,_,_,ansR_yes d h,Nat.le_refl _⟩
 ·exact ⟨_,_,_,_,_,ansR_no d h,Nat.zero_le _⟩
theorem itoa_room (a:Int) (h0 : -9223372036854775808≤a) (h1:a≤9223372036854775807):1+(bs8 (Lib.itoa a)).size≤9223372036854775807:=by
 rw [bs8_size]
 have:=itoa_len a h0 h1
 omega
theorem specAns_ev (n:ByteArray) (d:Int) (p:List S108) (x:List S111) (s:List S141) (m:List S147) (f:List S115) (o:List S117) (h:okG n p x s m f o) (a1:ByteArray) (a2 a3 a4:Int) (h1:(a1.size:Int)≤9223372036854775807) :
  Evt (fun k=>spec_GateAnswer.f k n d p x s m f o a1 a2 a3 a4) (ansR (gateB n d p x s m f o) d a1 a2 a3 a4):=by
 unfold spec_GateAnswer.f
 refine Evt.ite (fun g=>(Evt.pure _).same (ansR_no d (fun q=>q.1 g)).symm) (fun g0=>?_)
 refine Evt.bind (specGate_ev n d p x s m f o h) (Evt.ite (fun g1=>?_) (fun g=>(Evt.pure _).same (ansR_no d (fun q=>g q.2.1)).symm))
 refine Evt.bind (specName_ev a1 h1) (Evt.ite (fun g2=>?_) (fun g=>(Evt.pure _).same (ansR_no d (fun q=>g q.2.2.1)).symm))
 refine Evt.bind (Evt.const (l01Control_ev a2)) (Evt.ite (fun g3=>?_) (fun g=>(Evt.pure _).same (ansR_no d (fun q=>g (B_true q.2.2.2.1))).symm))
 have g3:=B_iff.1 g3
 refine Evt.ite (fun g=>(Evt.pure _).same (ansR_no d (fun q=>by have:=q.2.2.2.2.1.1;omega)).symm) (fun g4=>?_)
 refine Evt.ite (fun g=>(Evt.pure _).same (ansR_no d (fun q=>by have:=q.2.2.2.2.1.2;omega)).symm) (fun g5=>?_)
 refine Evt.ite (fun g=>(Evt.pure _).same (ansR_no d (fun q=>by have:=q.2.2.2.2.2.1;omega)).symm) (fun g6=>?_)
 refine Evt.ite (fun g=>(Evt.pure _).same (ansR_no d (fun q=>by have:=q.2.2.2.2.2.2;omega)).symm) (fun g7=>?_)
 refine Evt.bind (l01Dec_ev a2 (by omega) (by omega)) (Evt.pos (itoa_room a2 (by omega) (by omega)) ?_)
 exact (Evt.pure _).same (ansR_yes d ⟨g0,g1,g2,g3,⟨by omega,by omega⟩,⟨by omega,by omega⟩⟩).symm
theorem implAns_ev (n:ByteArray) (d:Int) (p:List S108) (x:List S111) (s:List S141) (m:List S147) (f:List S115) (o:List S117) (h:okG n p x s m f o) (a1:ByteArray) (a2 a3 a4:Int) (h1:(a1.size:Int)≤9223372036854775807) :
  Evt (fun k=>impl_GateAnswer.f k n d p x s m f o a1 a2 a3 a4) (ansR (gateB n d p x s m f o) d a1 a2 a3 a4):=by
 unfold impl_GateAnswer.f
 refine Evt.bind (longText1_ev a1) (Evt.ite (fun g=>(Evt.pure _).same (ansR_no d (fun q=>q.1 (B_iff.1 g))).symm) (fun g0=>?_))
 refine Evt.bind (implGate_ev n d p x s m f o h) (Evt.ite (fun g1=>?_) (fun g=>(Evt.pure _).same (ansR_no d (fun q=>g q.2.1)).symm))
 refine Evt.bind (implName_ev a1 h1) (Evt.ite (fun g2=>?_) (fun g=>(Evt.pure _).same (ansR_no d (fun q=>g q.2.2.1)).symm))
 refine Evt.bind (Evt.const (isControl_ev a2)) (Evt.ite (fun g3=>?_) (fun g=>(Evt.pure _).same (ansR_no d (fun q=>g (B_true q.2.2.2.1))).symm))
 have g3:=B_iff.1 g3
 refine Evt.bind (Evt.const (isCode_ev a3)) (Evt.ite (fun g4=>?_) (fun g=>(Evt.pure _).same (ansR_no d (fun q=>g (B_true q.2.2.2.2.1))).symm))
 refine Evt.bind (Evt.const (within_ev a4 0 1000000000)) (Evt.ite (fun g5=>?_) (fun g=>(Evt.pure _).same (ansR_no d (fun q=>g (B_true q.2.2.2.2.2))).symm))
 have hA:impl_Gate_answer.f n d p x s m f o a2 a3 a4=some (7,(⟨#[65]⟩:ByteArray)++bs8 (Lib.itoa a2),⟨#[]⟩,d,[],[⟨a3,⟨#[]⟩,a2,a4,⟨#[]⟩⟩],n,d):=by
  unfold impl_Gate_answer.f
  rw [dec_ans a2 (by omega) (by omega)]
  simp only [Option.bind_some]
  rw [if_pos (itoa_room a2 (by omega) (by omega))]
 refine Evt.bind (Evt.const hA) ?_
 exact (Evt.pure _).same (ansR_yes d ⟨fun q=>g0 (B_true q),g1,g2,g3,B_iff.1 g4,B_iff.1 g5⟩).symm
end Go.Proofs.YtkfcahggnpecjaaGreatDoor.QW
namespace Go.Proofs.YtkfcahggnpecjaaGreatDoor.QW
open Go.RowKit Go.Proofs.YtkfcahggnpecjaaGreatDoorW.PrintWords Go.Proofs.YtkfcahggnpecjaaGreatDoor.Ev0
noncomputable def gK (s:Int):S141:=⟨mt s,s+1⟩
noncomputable def marksK (n:Nat) (c:Int):List S141:=(List.range n).map fun (j:Nat)=>gK (c+2 * (j:Int))
theorem rdK_set (l:List S141) (i:Int) (x:S141) (h0:0≤i) (h:i<(l.length:Int)):rd_T141 (l.set i.toNat x) i=x:=by
 unfold rd_T141
 rw [getD_at _ _ _ (by simp;omega)]
 simp
theorem markK_ev (l:List S141) (c:Int) (h0:0≤c) (hc:c+2 * (l.length:Int)≤1000000000000000000):Evt (fun k=>laws_markStockS.f k l c) (c+2 * l.length,marksK l.length c):=by
 unfold laws_markStockS.f
 refine mark_loop l.length l rfl 2 c gK (fun k acc s i=>laws_markStockS.l0 k acc s i) ?_ ?_
 ·intro acc i h1 hlt hl r hr
  have hw:wrap64 (i+1)=i+1:=w64 (by omega) (by omega)
  have w1:wrap64 (c+2 * i+1)=c+2 * i+1:=by rw [w64 (by omega) (by omega)]
  have w2:wrap64 (c+2 * i+1+1)=c+2 * i+2:=by rw [w64 (by omega) (by omega)];omega
  simp only [laws_markStockS.l0,hw,w1,w2]
  refine Evt.pos (by omega) (Evt.bind (mt_ev _ (by omega)) (Evt.pos h1 ?_))
  (try simp only [rdK_set _ i _ h1 (show i<(acc.length:Int) by omega),List.set_set])
  exact hr
 ·intro acc s hl
  simp only [laws_markStockS.l0]
  exact Evt.neg (by omega) (Evt.pure _)
noncomputable def gL (s:Int):S147:=⟨mt s,mt (s+1),s+2,mt (s+3),s+4,s+5,s+6,s+7⟩
noncomputable def marksL (n:Nat) (c:Int):List S147:=(List.range n).map fun (j:Nat)=>gL (c+8 * (j:Int))
theorem rdL_set (l:List S147) (i:Int) (x:S147) (h0:0≤i) (h:i<(l.length:Int)):rd_T147 (l.set i.toNat x) i=x:=by
 unfold rd_T147
 rw [getD_at _ _ _ (by simp;omega)]
 simp
theorem markL_ev (l:List S147) (c:Int) (h0:0≤c) (hc:c+8 * (l.length:Int)≤1000000000000000000):Evt (fun k=>laws_markOrderLineS.f k l c) (c+8 * l.length,marksL l.length c):=by
 unfold laws_markOrderLineS.f
 refine mark_loop l.length l rfl 8 c gL (fun k acc s i=>laws_markOrderLineS.l0 k acc s i) ?_ ?_
 ·intro acc i h1 hlt hl r hr
  have hw:wrap64 (i+1)=i+1:=w64 (by omega) (by omega)
  have w1:wrap64 (c+8 * i+1)=c+8 * i+1:=by rw [w64 (by omega) (by omega)]
  have w2:wrap64 (c+8 * i+1+1)=c+8 * i+2:=by rw [w64 (by omega) (by omega)];omega
  have w3:wrap64 (c+8 * i+2+1)=c+8 * i+3:=by rw [w64 (by omega) (by omega)];omega
  have w4:wrap64 (c+8 * i+3+1)=c+8 * i+4:=by rw [w64 (by omega) (by omega)];omega
  have w5:wrap64 (c+8 * i+4+1)=c+8 * i+5:=by rw [w64 (by omega) (by omega)];omega
  have w6:wrap64 (c+8 * i+5+1)=c+8 * i+6:=by rw [w64 (by omega) (by omega)];omega
  have w7:wrap64 (c+8 * i+6+1)=c+8 * i+7:=by rw [w64 (by omega) (by omega)];omega
  have w8:wrap64 (c+8 * i+7+1)=c+8 * i+8:=by rw [w64 (by omega) (by omega)];omega
  simp only [laws_markOrderLineS.l0,hw,w1,w2,w3,w4,w5,w6,w7,w8]
  refine Evt.pos (by omega) (Evt.bind (mt_ev _ (by omega)) (Evt.pos h1 (Evt.bind (mt_ev _ (by omega)) (Evt.bind (mt_ev _ (by omega)) ?_))))
  (try simp only [rdL_set _ i _ h1 (show i<(acc.length:Int) by omega),List.set_set])
  exact hr
 ·intro acc s hl
  simp only [laws_markOrderLineS.l0]
  exact Evt.neg (by omega) (Evt.pure _)
noncomputable def gO (s:Int):S117:=⟨mt s,s+1,mt (s+2),s+3,s+4⟩
noncomputable def marksO (n:Nat) (c:Int):List S117:=(List.range n).map fun (j:Nat)=>gO (c+5 * (j:Int))
theorem rdO_set (l:List S117) (i:Int) (x:S117) (h0:0≤i) (h:i<(l.length:Int)):rd_T117 (l.set i.toNat x) i=x:=by
 unfold rd_T117
 rw [getD_at _ _ _ (by simp;omega)]
 simp
theorem markO_ev (l:List S117) (c:Int) (h0:0≤c) (hc:c+5 * (l.length:Int)≤1000000000000000000):Evt (fun k=>laws_markOutS.f k l c) (c+5 * l.length,marksO l.length c):=by
 unfold laws_markOutS.f
 refine mark_loop l.length l rfl 5 c gO (fun k acc s i=>laws_markOutS.l0 k acc s i) ?_ ?_
 ·intro acc i h1 hlt hl r hr
  have hw:wrap64 (i+1)=i+1:=w64 (by omega) (by omega)
  have w1:wrap64 (c+5 * i+1)=c+5 * i+1:=w64 (by omega) (by omega)
  have w2:wrap64 (c+5 * i+1+1)=c+5 * i+2:=by rw [w64 (by omega) (by omega)];omega
  have w3:wrap64 (c+5 * i+2+1)=c+5 * i+3:=by rw [w64 (by omega) (by omega)];omega
  have w4:wrap64 (c+5 * i+3+1)=c+5 * i+4:=by rw [w64 (by omega) (by omega)];omega
  have w5:wrap64 (c+5 * i+4+1)=c+5 * i+5:=by rw [w64 (by omega) (by omega)];omega
  simp only [laws_markOutS.l0,hw,w1,w2,w3,w4,w5]
  refine Evt.pos (by omega) (Evt.bind (mt_ev _ (by omega)) (Evt.pos h1 (Evt.bind (mt_ev _ (by omega)) ?_)))
  (try simp only [rdO_set _ i _ h1 (show i<(acc.length:Int) by omega),List.set_set])
  exact hr
 ·intro acc s hl
  simp only [laws_markOutS.l0]
  exact Evt.neg (by omega) (Evt.pure _)
def gN (s:Int):S144:=⟨s,s+1,s+2⟩
def marksN (n:Nat) (c:Int):List S144:=(List.range n).map fun (j:Nat)=>gN (c+3 * (j:Int))
noncomputable def gX (s:Int):S111:=⟨mt s,mt (s+1),mt (s+2)⟩
noncomputable def marksX (n:Nat) (c:Int):List S111:=(List.range n).map fun (j:Nat)=>gX (c+3 * (j:Int))
noncomputable def gD (s:Int):S115:=⟨s,mt (s+1),mt (s+2),s+3,mt (s+4),s+5⟩
noncomputable def marksD (n:Nat) (c:Int):List S115:=(List.range n).map fun (j:Nat)=>gD (c+6 * (j:Int))
theorem rdN_set (l:List S144) (i:Int) (x:S144) (h0:0≤i) (h:i<(l.length:Int)):rd_T144 (l.set i.toNat x) i=x:=by
 unfold rd_T144
 rw [getD_at _ _ _ (by simp;omega)]
 simp
theorem rdX_set (l:List S111) (i:Int) (x:S111) (h0:0≤i) (h:i<(l.length:Int)):rd_T111 (l.set i.toNat x) i=x:=by
 unfold rd_T111
 rw [getD_at _ _ _ (by simp;omega)]
 simp
theorem rdD_set (l:List S115) (i:Int) (x:S115) (h0:0≤i) (h:i<(l.length:Int)):rd_T115 (l.set i.toNat x) i=x:=by
 unfold rd_T115
 rw [getD_at _ _ _ (by simp;omega)]
 simp
theorem markN_ev (l:List S144) (c:Int) (h0:0≤c) (hc:c+3 * (l.length:Int)≤1000000000000000000):Evt (fun k=>laws_markSeenS.f k l c) (c+3 * l.length,marksN l.length c):=by
 unfold laws_markSeenS.f
 refine mark_loop l.length l rfl 3 c gN (fun k acc s i=>laws_markSeenS.l0 k acc s i) ?_ ?_
 ·intro acc i h1 hlt hl r hr
  have hw:wrap64 (i+1)=i+1:=w64 (by omega) (by omega)
  have w1:wrap64 (c+3 * i+1)=c+3 * i+1:=by rw [w64 (by omega) (by omega)]
  have w2:wrap64 (c+3 * i+1+1)=c+3 * i+2:=by rw [w64 (by omega) (by omega)];omega
  have w3:wrap64 (c+3 * i+2+1)=c+3 * i+3:=by rw [w64 (by omega) (by omega)];omega
  simp only [laws_markSeenS.l0,hw,w1,w2,w3]
  refine Evt.pos (by omega) (Evt.pos h1 ?_)
  (try simp only [rdN_set _ i _ h1 (show i<(acc.length:Int) by omega),List.set_set])
  exact hr
 ·intro acc s hl
  simp only [laws_markSeenS.l0]
  exact Evt.neg (by omega) (Evt.pure _)
theorem markX_ev (l:List S111) (c:Int) (h0:0≤c) (hc:c+3 * (l.length:Int)≤1000000000000000000):Evt (fun k=>laws_markCrossS.f k l c) (c+3 * l.length,marksX l.length c):=by
 unfold laws_markCrossS.f
 refine mark_loop l.length l rfl 3 c gX (fun k acc s i=>laws_markCrossS.l0 k acc s i) ?_ ?_
 ·intro acc i h1 hlt hl r hr
  have hw:wrap64 (i+1)=i+1:=w64 (by omega) (by omega)
  have w1:wrap64 (c+3 * i+1)=c+3 * i+1:=by rw [w64 (by omega) (by omega)]
  have w2:wrap64 (c+3 * i+1+1)=c+3 * i+2:=by rw [w64 (by omega) (by omega)];omega
  have w3:wrap64 (c+3 * i+2+1)=c+3 * i+3:=by rw [w64 (by omega) (by omega)];omega
  simp only [laws_markCrossS.l0,hw,w1,w2,w3]
  refine Evt.pos (by omega) (Evt.bind (mt_ev _ (by omega)) (Evt.pos h1 (Evt.bind (mt_ev _ (by omega)) (Evt.bind (mt_ev _ (by omega)) ?_))))
  (try simp only [rdX_set _ i _ h1 (show i<(acc.length:Int) by omega),List.set_set])
  exact hr
 ·intro acc s hl
  simp only [laws_markCrossS.l0]
  exact Evt.neg (by omega) (Evt.pure _)
theorem markD_ev (l:List S115) (c:Int) (h0:0≤c) (hc:c+6 * (l.length:Int)≤1000000000000000000):Evt (fun k=>laws_markDiffS.f k l c) (c+6 * l.length,marksD l.length c):=by
 unfold laws_markDiffS.f
 refine mark_loop l.length l rfl 6 c gD (fun k acc s i=>laws_markDiffS.l0 k acc s i) ?_ ?_
 ·intro acc i h1 hlt hl r hr
  have hw:wrap64 (i+1)=i+1:=w64 (by omega) (by omega)
  have w1:wrap64 (c+6 * i+1)=c+6 * i+1:=by rw [w64 (by omega) (by omega)]
  have w2:wrap64 (c+6 * i+1+1)=c+6 * i+2:=by rw [w64 (by omega) (by omega)];omega
  have w3:wrap64 (c+6 * i+2+1)=c+6 * i+3:=by rw [w64 (by omega) (by omega)];omega
  have w4:wrap64 (c+6 * i+3+1)=c+6 * i+4:=by rw [w64 (by omega) (by omega)];omega
  have w5:wrap64 (c+6 * i+4+1)=c+6 * i+5:=by rw [w64 (by omega) (by omega)];omega
  have w6:wrap64 (c+6 * i+5+1)=c+6 * i+6:=by rw [w64 (by omega) (by omega)];omega
  simp only [laws_markDiffS.l0,hw,w1,w2,w3,w4,w5,w6]
  refine Evt.pos (by omega) (Evt.pos h1 (Evt.bind (mt_ev _ (by omega)) (Evt.bind (mt_ev _ (by omega)) (Evt.bind (mt_ev _ (by omega)) ?_))))
  (try simp only [rdD_set _ i _ h1 (show i<(acc.length:Int) by omega),List.set_set])
  exact hr
 ·intro acc s hl
  simp only [laws_markDiffS.l0]
  exact Evt.neg (by omega) (Evt.pure _)
def cP (l:List S108) (c:Int):Nat→Int
 | 0=>c
 | n+1=>cP l c n+3+3 * ((rd_T108 l (n:Int)).f3.length:Int)
noncomputable def gP (s:Int) (n:Nat):S108:=⟨mt s,s+1,s+2,marksN n (s+3)⟩
noncomputable def marksP (l:List S108) (c:Int):List S108:=(List.range l.length).map fun (j:Nat)=>gP (cP l c j) (rd_T108 l (j:Int)).f3.length
theorem cP_le (l:List S108) (c:Int) (hi:∀ i:Int,0≤i→i<(l.length:Int)→((rd_T108 l i).f3.length:Int)≤9000000) (n:Nat) (hn:n≤l.length):c≤cP l c n∧cP l c n≤c+27000003 * (n:Int):=by
 induction n with
 | zero=>simp [cP]
 | succ n ih =>
  have h1:=ih (by omega)
  have h2:=hi (n:Int) (by omega) (by omega)
  simp only [cP]
  omega
theorem markP_ev (l:List S108) (c:Int) (h0:0≤c) (hc:c≤1000000000) (hl:l.length≤1048576) (hi:∀ i:Int,0≤i→i<(l.length:Int)→((rd_T108 l i).f3.length:Int)≤9000000) :
  Evt (fun k=>laws_markPartnerS.f k l c) (cP l c l.length,marksP l c):=by
 unfold laws_markPartnerS.f
 have h:=up_loop (l.length:Int) (fun k (s:List S108 × Int) i=>laws_markPartnerS.l0 k s.1 s.2 i) (fun i=>((List.range i.toNat).map (fun (j:Nat)=>gP (cP l c j) (rd_T108 l (j:Int)).f3.length)++l.drop i.toNat,cP l c i.toNat)) (fun _=>(cP l c l.length,marksP l c)) ?_ ?_ 0 (Int.le_refl _) (by omega)
 ·simpa [cP] using h
 ·intro i h1 hlt ih
  have hin:i.toNat<l.length:=by omega
  have hcs:=cP_le l c hi i.toNat (by omega)
  have hib:=hi i h1 hlt
  have hw:wrap64 (i+1)=i+1:=w64 (by omega) (by omega)
  have hcons:=List.drop_eq_getElem_cons hin
  have e:rd_T108 ((List.range i.toNat).map (fun (j:Nat)=>gP (cP l c j) (rd_T108 l (j:Int)).f3.length)++l.drop i.toNat) i=rd_T108 l i:=by
   unfold rd_T108
   rw [getD_at _ _ _ (by simp;omega),getD_at l _ _ (by omega),List.getElem_append_right (by simp)]
   simp
  have e2:((List.range i.toNat).map (fun (j:Nat)=>gP (cP l c j) (rd_T108 l (j:Int)).f3.length)++l.drop i.toNat).set i.toNat (gP (cP l c i.toNat) (rd_T108 l i).f3.length)=(List.range (i+1).toNat).map (fun (j:Nat)=>gP (cP l c j) (rd_T108 l (j:Int)).f3.length)++l.drop (i+1).toNat:=by
   rw [List.set_append_right _ _ (by simp),List.length_map,List.length_range,Nat.sub_self,hcons,List.set_cons_zero,show (i+1).toNat=i.toNat+1 by omega]
   rw [List.range_succ,List.map_append,List.append_assoc]
   congr 1
   all_goals rw [List.map_singleton,List.singleton_append,show ((i.toNat:Nat):Int)=i by omega]
  have e3:cP l c (i+1).toNat=cP l c i.toNat+3+3 * ((rd_T108 l i).f3.length:Int):=by
   rw [show (i+1).toNat=i.toNat+1 by omega]
   simp only [cP]
   rw [show ((i.toNat:Nat):Int)=i by omega]
  have w1:wrap64 (cP l c i.toNat+1)=cP l c i.toNat+1:=by rw [w64 (by omega) (by omega)]
  have w2:wrap64 (cP l c i.toNat+1+1)=cP l c i.toNat+2:=by rw [w64 (by omega) (by omega)];omega
  have w3:wrap64 (cP l c i.toNat+2+1)=cP l c i.toNat+3:=by rw [w64 (by omega) (by omega)];omega
  have hlen:(((List.range i.toNat).map (fun (j:Nat)=>gP (cP l c j) (rd_T108 l (j:Int)).f3.length)++l.drop i.toNat).length:Int)=(l.length:Int):=by simp;omega
  rw [← e2,e3] at ih
  simp only [laws_markPartnerS.l0,hw,w1,w2,w3,e,hlen]
  exact Evt.pos hlt (Evt.bind (mt_ev _ (by omega)) (Evt.pos h1 (Evt.bind (markN_ev _ _ (by omega) (by omega)) ih)))
 ·simp only [laws_markPartnerS.l0]
  exact Evt.neg (by simp) ((Evt.pure _).same (by simp [marksP]))
theorem markG_ev (n:ByteArray) (d:Int) (p:List S108) (x:List S111) (s:List S141) (m:List S147) (f:List S115) (o:List S117)
  (hi:∀ i:Int,0≤i→i<(p.length:Int)→((rd_T108 p i).f3.length:Int)≤9000000) (lp:p.length≤1048576) (lx:x.length≤1048576) (ls:s.length≤1048576) (lm:m.length≤1048576) (lf:f.length≤1048576) (lo:o.length≤1048576) :
  ∃ t:Int,0≤t∧Evt (fun k=>laws_markGate.f k n d p x s m f o 1) t:=by
 have hc:=cP_le p 1 hi p.length (Nat.le_refl _)
 have hb (c:Int) (h0:0≤c) (h1:c+2 * (s.length:Int)+8 * (m.length:Int)≤1000000000000000000):Evt (fun k=>laws_markBook.f k s m c) (c+2 * (s.length:Int)+8 * (m.length:Int),marksK s.length c,marksL m.length (c+2 * (s.length:Int))):=by
  unfold laws_markBook.f
  exact Evt.bind (markK_ev s c h0 (by omega)) (Evt.bind (markL_ev m _ (by dsimp only;omega) (by dsimp only;omega)) (Evt.pure _))
 have hp:=markP_ev p 1 (by decide) (by decide) lp hi
 generalize cP p 1 p.length=c1 at hc hp
 refine ⟨c1+3 * (x.length:Int)+2 * (s.length:Int)+8 * (m.length:Int)+6 * (f.length:Int)+5 * (o.length:Int),by omega,?_⟩
 unfold laws_markGate.f
 exact Evt.bind hp (Evt.bind (markX_ev x c1 (by omega) (by omega)) (Evt.bind (hb _ (by dsimp only;omega) (by dsimp only;omega)) (Evt.bind (markD_ev f _ (by dsimp only;omega) (by dsimp only;omega)) (Evt.bind (markO_ev o _ (by dsimp only;omega) (by dsimp only;omega)) (Evt.pure _)))))
end Go.Proofs.YtkfcahggnpecjaaGreatDoor.QW
namespace Go.Proofs.YtkfcahggnpecjaaGreatDoor.Pure
open Go.RowKit Go.Proofs.YtkfcahggnpecjaaGreatDoor Go.Proofs.YtkfcahggnpecjaaGreatDoor.QW Go.Proofs.YtkfcahggnpecjaaGreatDoorW.PrintWords Go.Proofs.YtkfcahggnpecjaaGreatDoor.Ev0
theorem FnExactGateAnswer:laws_FnExactGateAnswer.Pure:=by
 intro n d p x s m f o a1 a2 a3 a4 wn wd wp wx ws wm wf wo w1 w2 w3 w4
 apply Evt.ex
 unfold laws_FnExactGateAnswer.f
 have hn:n.size≤2 ^ 63 - 1:=wn
 have h1:a1.size≤2 ^ 63 - 1:=w1
 have h:okLG n p x s m f o:=⟨by omega,fun y hy=>okLP_of (wp.2 y hy),fun y hy=>okLX_of (wx.2 y hy),fun y hy=>okLK_of (ws.2 y hy),fun y hy=>okL_of (wm.2 y hy),fun y hy=>okLD_of (wf.2 y hy),fun y hy=>okLO_of (wo.2 y hy),wp.1,wx.1,ws.1,wm.1,wf.1,wo.1⟩
 refine Evt.ite (fun _=>Evt.pure true) (fun _=>?_)
 obtain ⟨t,ht,hlen⟩:=szGate_ev n d p x s m f o h
 refine Evt.bind ht (Evt.ite (fun _=>Evt.pure true) (fun hn=>?_))
 have g:=hlen.resolve_left hn
 have hto:=toGate_ev n d p x s m f o g
 have hg:=okG_map n p x s m f o h g
 have hs:=specAns_ev _ d _ _ _ _ _ _ hg a1 a2 a3 a4 (by omega)
 have hi:=implAns_ev _ d _ _ _ _ _ _ hg a1 a2 a3 a4 (by omega)
 have he:=eqGate_refl n d _ _ _ _ _ _ hg
 obtain ⟨t2,t0,hG⟩:=markG_ev n d (p.map cvPart) (x.map cvCross) (s.map cvStock) (m.map cvLine) (f.map cvDiff) (o.map cvOut) (fun i h0 hlt=>(okP_at hg.qp i hlt h0).2) hg.lp hg.lx hg.ls hg.lm hg.lf hg.lo
 obtain ⟨kd,r,ot,e,l,hR,hl⟩:=ansR_form (gateB n d (p.map cvPart) (x.map cvCross) (s.map cvStock) (m.map cvLine) (f.map cvDiff) (o.map cvOut)) d a1 a2 a3 a4
 rw [hR] at hs hi
 have hq:=eqPaper0 kd r ot e l (by omega)
 obtain ⟨v,l',v0,hm,hh⟩:=markPaper0 kd r ot e l (by omega)
 refine Evt.bind hto (Evt.bind hs (Evt.bind hto (Evt.bind hi (Evt.bind hq (Evt.pos rfl (Evt.bind hto (Evt.bind he (Evt.pos rfl (Evt.bind hG (Evt.neg (by omega) (Evt.bind hq ?_)))))))))))
 apply Evt.succ
 simp only [laws_FnExactGateAnswer.j0,Bool.not_true,Bool.false_eq_true,if_false]
 refine Evt.bind hm (Evt.bind hh (Evt.neg (by omega) (Evt.pos rfl (Evt.bind hto (Evt.bind hi (Evt.bind hq (Evt.pos rfl (Evt.bind hh (Evt.neg (by omega) (Evt.pos rfl (Evt.pure true)))))))))))
end Go.Proofs.YtkfcahggnpecjaaGreatDoor.Pure
