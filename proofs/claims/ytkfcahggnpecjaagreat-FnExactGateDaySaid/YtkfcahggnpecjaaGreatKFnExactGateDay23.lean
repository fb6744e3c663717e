-- Merged by a program of this session (wip/tool/pack.py) out of its own texts for this claim.
import Derived.Test.YtkfcahggnpecjaaGreatKFnExactGateDay22
namespace Go.Proofs.YtkfcahggnpecjaaGreat.QG
open Go.RowKit Go.Proofs.YtkfcahggnpecjaaGreatW.PrintWords Go.Proofs.YtkfcahggnpecjaaGreat.Ev0
noncomputable def gO (s:Int):S102:=⟨mt s,s+1,mt (s+2),s+3,s+4⟩
noncomputable def gS (s:Int):S104:=⟨mt s,s+1,mt (s+2)⟩
noncomputable def marksO (n:Nat) (c:Int):List S102:=(List.range n).map fun (j:Nat)=>gO (c+5 * (j:Int))
noncomputable def marksS (n:Nat) (c:Int):List S104:=(List.range n).map fun (j:Nat)=>gS (c+3 * (j:Int))
theorem rdO_set (l:List S102) (i:Int) (x:S102) (h0:0≤i) (h:i<(l.length:Int)):rd_T102 (l.set i.toNat x) i=x:=by
 unfold rd_T102
 rw [getD_at _ _ _ (by simp;omega)]
 simp
theorem rdS_set (l:List S104) (i:Int) (x:S104) (h0:0≤i) (h:i<(l.length:Int)):rd_T104 (l.set i.toNat x) i=x:=by
 unfold rd_T104
 rw [getD_at _ _ _ (by simp;omega)]
 simp
theorem markO_ev (l:List S102) (c:Int) (h0:0≤c) (hc:c+5 * (l.length:Int)≤1000000000000000000):Evt (fun k=>laws_markOutS.f k l c) (c+5 * l.length,marksO l.length c):=by
 unfold laws_markOutS.f
 refine mark_loop l.length l rfl 5 c gO (fun k acc s i=>laws_markOutS.l0 k acc s i) ?_ ?_
 ·intro acc i h1 hlt hl r hr
  have hw:wrap64 (i+1)=i+1:=w64 (by omega) (by omega)
  have w1:wrap64 (c+5 * i+1)=c+5 * i+1:=w64 (by omega) (by omega)
  have w2:wrap64 (c+5 * i+1+1)=c+5 * i+2:=by rw [w64 (by omega) (by omega)];omega
  have w3:wrap64 (c+5 * i+2+1)=c+5 * i+3:=by rw [w64 (by omega) (by omega)];omega
  have w4:wrap64 (c+5 * i+3+1)=c+5 * i+4:=by rw [w64 (by omega) (by omega)];omega
  have w5:wrap64 (c+5 * i+4+1)=c+5 * i+5:=by rw [w64 (by omega) (by omega)];omega
  simp only [laws_markOutS.l0,hw,w1,w2,w3,w4,w5]
  refine Evt.pos (by omega) (Evt.bind (mt_ev _ (by omega)) (Evt.pos h1 (Evt.bind (mt_ev _ (by omega)) ?_)))
  (try simp only [rdO_set _ i _ h1 (show i<(acc.length:Int) by omega),List.set_set])
  exact hr
 ·intro acc s hl
  simp only [laws_markOutS.l0]
  exact Evt.neg (by omega) (Evt.pure _)
theorem heldO_ev (n:Nat) (c:Int) (h0:0≤c) (hc:c+5 * (n:Int)≤1000000000000000000):Evt (fun k=>laws_heldOutS.f k (marksO n c) c) (c+5 * n):=by
 unfold laws_heldOutS.f
 have hlen:(marksO n c).length=n:=by simp [marksO]
 refine held_loop n 5 c (fun k s i=>laws_heldOutS.l0 k (marksO n c) s i) ?_ ?_
 ·intro i h1 hlt r hr
  have hw:wrap64 (i+1)=i+1:=w64 (by omega) (by omega)
  have w1:wrap64 (c+5 * i+1)=c+5 * i+1:=w64 (by omega) (by omega)
  have w2:wrap64 (c+5 * i+1+1)=c+5 * i+2:=by rw [w64 (by omega) (by omega)];omega
  have w3:wrap64 (c+5 * i+2+1)=c+5 * i+3:=by rw [w64 (by omega) (by omega)];omega
  have w4:wrap64 (c+5 * i+3+1)=c+5 * i+4:=by rw [w64 (by omega) (by omega)];omega
  have w5:wrap64 (c+5 * i+4+1)=c+5 * i+5:=by rw [w64 (by omega) (by omega)];omega
  have e:rd_T102 (marksO n c) i=gO (c+5 * i):=by
   unfold rd_T102 marksO
   rw [at_map _ _ _ _ h1 hlt,show ((i.toNat:Nat):Int)=i by omega]
  simp only [laws_heldOutS.l0,hw,w1,w2,w3,w4,w5,e,gO,hlen]
  exact Evt.pos hlt (Evt.pos h1 (Evt.bind (mt_ev _ (by omega)) (Evt.pos (by simp) (Evt.pos (by simp) (Evt.bind (mt_ev _ (by omega)) (Evt.pos (by simp) (Evt.pos (by simp) (Evt.pos (by simp) hr))))))))
 ·intro s
  simp only [laws_heldOutS.l0,hlen]
  exact Evt.neg (by omega) (Evt.pure _)
theorem markS_ev (l:List S104) (c:Int) (h0:0≤c) (hc:c+3 * (l.length:Int)≤1000000000000000000):Evt (fun k=>laws_markSentS.f k l c) (c+3 * l.length,marksS l.length c):=by
 unfold laws_markSentS.f
 refine mark_loop l.length l rfl 3 c gS (fun k acc s i=>laws_markSentS.l0 k acc s i) ?_ ?_
 ·intro acc i h1 hlt hl r hr
  have hw:wrap64 (i+1)=i+1:=w64 (by omega) (by omega)
  have w1:wrap64 (c+3 * i+1)=c+3 * i+1:=w64 (by omega) (by omega)
  have w2:wrap64 (c+3 * i+1+1)=c+3 * i+2:=by rw [w64 (by omega) (by omega)];omega
  have w3:wrap64 (c+3 * i+2+1)=c+3 * i+3:=by rw [w64 (by omega) (by omega)];omega
  simp only [laws_markSentS.l0,hw,w1,w2,w3]
  refine Evt.pos (by omega) (Evt.bind (mt_ev _ (by omega)) (Evt.pos h1 (Evt.bind (mt_ev _ (by omega)) ?_)))
  (try simp only [rdS_set _ i _ h1 (show i<(acc.length:Int) by omega),List.set_set])
  exact hr
 ·intro acc s hl
  simp only [laws_markSentS.l0]
  exact Evt.neg (by omega) (Evt.pure _)
theorem heldS_ev (n:Nat) (c:Int) (h0:0≤c) (hc:c+3 * (n:Int)≤1000000000000000000):Evt (fun k=>laws_heldSentS.f k (marksS n c) c) (c+3 * n):=by
 unfold laws_heldSentS.f
 have hlen:(marksS n c).length=n:=by simp [marksS]
 refine held_loop n 3 c (fun k s i=>laws_heldSentS.l0 k (marksS n c) s i) ?_ ?_
 ·intro i h1 hlt r hr
  have hw:wrap64 (i+1)=i+1:=w64 (by omega) (by omega)
  have w1:wrap64 (c+3 * i+1)=c+3 * i+1:=w64 (by omega) (by omega)
  have w2:wrap64 (c+3 * i+1+1)=c+3 * i+2:=by rw [w64 (by omega) (by omega)];omega
  have w3:wrap64 (c+3 * i+2+1)=c+3 * i+3:=by rw [w64 (by omega) (by omega)];omega
  have e:rd_T104 (marksS n c) i=gS (c+3 * i):=by
   unfold rd_T104 marksS
   rw [at_map _ _ _ _ h1 hlt,show ((i.toNat:Nat):Int)=i by omega]
  simp only [laws_heldSentS.l0,hw,w1,w2,w3,e,gS,hlen]
  exact Evt.pos hlt (Evt.pos h1 (Evt.bind (mt_ev _ (by omega)) (Evt.pos (by simp) (Evt.pos (by simp) (Evt.bind (mt_ev _ (by omega)) (Evt.pos (by simp) hr))))))
 ·intro s
  simp only [laws_heldSentS.l0,hlen]
  exact Evt.neg (by omega) (Evt.pure _)
theorem eqSents_refl (l:List S104) (hl:l.length≤9000000):Evt (fun k=>laws_eqSentS.f k l l) true:=by
 unfold laws_eqSentS.f
 refine Evt.pos rfl (all_loop (l.length:Int) (by omega) (fun k i=>laws_eqSentS.l0 k l l i) ?_ ?_)
 ·intro i h0 hlt ih
  have hw:wrap64 (i+1)=i+1:=w64 (by omega) (by omega)
  simp only [laws_eqSentS.l0,laws_eqSent.f,if_true,hw,Option.bind_some]
  exact Evt.pos hlt (Evt.pos h0 (Evt.pos hlt ih))
 ·simp only [laws_eqSentS.l0]
  exact Evt.neg (by omega) (Evt.pure _)
theorem eqOuts_refl (l:List S102) (hl:l.length≤9000000):Evt (fun k=>laws_eqOutS.f k l l) true:=by
 unfold laws_eqOutS.f
 refine Evt.pos rfl (all_loop (l.length:Int) (by omega) (fun k i=>laws_eqOutS.l0 k l l i) ?_ ?_)
 ·intro i h0 hlt ih
  have hw:wrap64 (i+1)=i+1:=w64 (by omega) (by omega)
  simp only [laws_eqOutS.l0,laws_eqOut.f,if_true,hw,Option.bind_some]
  exact Evt.pos hlt (Evt.pos h0 (Evt.pos hlt ih))
 ·simp only [laws_eqOutS.l0]
  exact Evt.neg (by omega) (Evt.pure _)
theorem eqOO' (a:List S102) (b:List S104) (c:List S102) (e:Int) (ha:a.length≤400) (hb:b.length≤400) (hc:c.length≤400):Evt (fun k=>laws_eqOutboxOut.f k a b c e a b c e) true:=by
 unfold laws_eqOutboxOut.f
 exact Evt.bind (eqOuts_refl a (by omega)) (Evt.pos rfl (Evt.bind (eqSents_refl b (by omega)) (Evt.pos rfl (Evt.bind (eqOuts_refl c (by omega)) (Evt.pos rfl (Evt.pos rfl (Evt.pure true)))))))
theorem markOO' (a:List S102) (b:List S104) (c:List S102) (e:Int) (ha:a.length≤400) (hb:b.length≤400) (hc:c.length≤400):∃ (n:Int) (a':List S102) (b':List S104) (c':List S102),0≤n∧Evt (fun k=>laws_markOutboxOut.f k a b c e 1) (n,a',b',c')∧Evt (fun k=>laws_heldOutboxOut.f k a' b' c' e 1) n:=by
 refine ⟨1+5 * (a.length:Int)+3 * (b.length:Int)+5 * (c.length:Int),marksO a.length 1,marksS b.length (1+5 * (a.length:Int)),marksO c.length (1+5 * (a.length:Int)+3 * (b.length:Int)),by omega,?_,?_⟩
 ·unfold laws_markOutboxOut.f
  exact Evt.bind (markO_ev a 1 (by omega) (by omega)) (Evt.bind (markS_ev b _ (by dsimp only;omega) (by dsimp only;omega)) (Evt.bind (markO_ev c _ (by dsimp only;omega) (by dsimp only;omega)) (Evt.pure _)))
 ·unfold laws_heldOutboxOut.f
  exact Evt.bind (heldO_ev a.length 1 (by omega) (by omega)) (Evt.neg (by omega) (Evt.bind (heldS_ev b.length _ (by omega) (by omega)) (Evt.neg (by omega) (Evt.bind (heldO_ev c.length _ (by omega) (by omega)) (Evt.neg (by omega) (Evt.pure _))))))
end Go.Proofs.YtkfcahggnpecjaaGreat.QG
namespace Go.Proofs.YtkfcahggnpecjaaGreat.QG
open Go.RowKit Go.Proofs.YtkfcahggnpecjaaGreat Go.Proofs.YtkfcahggnpecjaaGreatW.PrintWords Go.Proofs.YtkfcahggnpecjaaGreat.Ev0
noncomputable def dayR (n:ByteArray) (d:Int) (p:List S101) (x:List S107) (s:List S134) (m:List S140) (f:List S111) (o:List S102):List OX × List SX × List OX × Int :=
 if gateB n d p x s m f o=true then tickR o d else ([],[],[],1)
theorem specDay_ev (n:ByteArray) (d:Int) (p:List S101) (x:List S107) (s:List S134) (m:List S140) (f:List S111) (o:List S102) (h:okG n p x s m f o) :
  Evt (fun k=>spec_GateDay.f k n d p x s m f o) (dayR n d p x s m f o):=by
 unfold spec_GateDay.f dayR
 refine Evt.bind (specGate_ev n d p x s m f o h) ?_
 by_cases g:gateB n d p x s m f o=true
 ·rw [if_pos g,g]
  exact Evt.pos rfl (Evt.bind (specTick_ev o d h.qo) (Evt.pure _))
 ·rw [if_neg g]
  simp only [spec_l12Wrong.f,Option.bind_some]
  exact Evt.neg g (Evt.pure _)
theorem implDay_ev (n:ByteArray) (d:Int) (p:List S101) (x:List S107) (s:List S134) (m:List S140) (f:List S111) (o:List S102) (h:okG n p x s m f o) :
  Evt (fun k=>impl_GateDay.f k n d p x s m f o) (dayR n d p x s m f o):=by
 unfold impl_GateDay.f dayR
 refine Evt.bind (implGate_ev n d p x s m f o h) ?_
 by_cases g:gateB n d p x s m f o=true
 ·rw [if_pos g,g]
  exact Evt.pos rfl (Evt.bind (implTick_ev o d h.qo) (Evt.pure _))
 ·rw [if_neg g]
  exact Evt.neg g (Evt.pure _)
theorem dayR_len (n:ByteArray) (d:Int) (p:List S101) (x:List S107) (s:List S134) (m:List S140) (f:List S111) (o:List S102) :
  (dayR n d p x s m f o).1.length≤400∧(dayR n d p x s m f o).2.1.length≤400∧(dayR n d p x s m f o).2.2.1.length≤400:=by
 have h:=tall_len d o
 unfold dayR tickR
 split
 ·split
  ·simp
  ·split
   ·refine ⟨?_,?_,?_⟩
    all_goals dsimp only
    all_goals omega
   ·simp
 ·simp
end Go.Proofs.YtkfcahggnpecjaaGreat.QG
namespace Go.Proofs.YtkfcahggnpecjaaGreat.QG
open Go.RowKit Go.Proofs.YtkfcahggnpecjaaGreatW.PrintWords Go.Proofs.YtkfcahggnpecjaaGreat.Ev0
noncomputable def gK (s:Int):S134:=⟨mt s,s+1⟩
noncomputable def marksK (n:Nat) (c:Int):List S134:=(List.range n).map fun (j:Nat)=>gK (c+2 * (j:Int))
theorem rdK_set (l:List S134) (i:Int) (x:S134) (h0:0≤i) (h:i<(l.length:Int)):rd_T134 (l.set i.toNat x) i=x:=by
 unfold rd_T134
 rw [getD_at _ _ _ (by simp;omega)]
 simp
theorem markK_ev (l:List S134) (c:Int) (h0:0≤c) (hc:c+2 * (l.length:Int)≤1000000000000000000):Evt (fun k=>laws_markStockS.f k l c) (c+2 * l.length,marksK l.length c):=by
 unfold laws_markStockS.f
 refine mark_loop l.length l rfl 2 c gK (fun k acc s i=>laws_markStockS.l0 k acc s i) ?_ ?_
 ·intro acc i h1 hlt hl r hr
  have hw:wrap64 (i+1)=i+1:=w64 (by omega) (by omega)
  have w1:wrap64 (c+2 * i+1)=c+2 * i+1:=by rw [w64 (by omega) (by omega)]
  have w2:wrap64 (c+2 * i+1+1)=c+2 * i+2:=by rw [w64 (by omega) (by omega)];omega
  simp only [laws_markStockS.l0,hw,w1,w2]
  refine Evt.pos (by omega) (Evt.bind (mt_ev _ (by omega)) (Evt.pos h1 ?_))
  (try simp only [rdK_set _ i _ h1 (show i<(acc.length:Int) by omega),List.set_set])
  exact hr
 ·intro acc s hl
  simp only [laws_markStockS.l0]
  exact Evt.neg (by omega) (Evt.pure _)
noncomputable def gL (s:Int):S140:=⟨mt s,mt (s+1),s+2,mt (s+3),s+4,s+5,s+6,s+7⟩
noncomputable def marksL (n:Nat) (c:Int):List S140:=(List.range n).map fun (j:Nat)=>gL (c+8 * (j:Int))
theorem rdL_set (l:List S140) (i:Int) (x:S140) (h0:0≤i) (h:i<(l.length:Int)):rd_T140 (l.set i.toNat x) i=x:=by
 unfold rd_T140
 rw [getD_at _ _ _ (by simp;omega)]
 simp
theorem markL_ev (l:List S140) (c:Int) (h0:0≤c) (hc:c+8 * (l.length:Int)≤1000000000000000000):Evt (fun k=>laws_markOrderLineS.f k l c) (c+8 * l.length,marksL l.length c):=by
 unfold laws_markOrderLineS.f
 refine mark_loop l.length l rfl 8 c gL (fun k acc s i=>laws_markOrderLineS.l0 k acc s i) ?_ ?_
 ·intro acc i h1 hlt hl r hr
  have hw:wrap64 (i+1)=i+1:=w64 (by omega) (by omega)
  have w1:wrap64 (c+8 * i+1)=c+8 * i+1:=by rw [w64 (by omega) (by omega)]
  have w2:wrap64 (c+8 * i+1+1)=c+8 * i+2:=by rw [w64 (by omega) (by omega)];omega
  have w3:wrap64 (c+8 * i+2+1)=c+8 * i+3:=by rw [w64 (by omega) (by omega)];omega
  have w4:wrap64 (c+8 * i+3+1)=c+8 * i+4:=by rw [w64 (by omega) (by omega)];omega
  have w5:wrap64 (c+8 * i+4+1)=c+8 * i+5:=by rw [w64 (by omega) (by omega)];omega
  have w6:wrap64 (c+8 * i+5+1)=c+8 * i+6:=by rw [w64 (by omega) (by omega)];omega
  have w7:wrap64 (c+8 * i+6+1)=c+8 * i+7:=by rw [w64 (by omega) (by omega)];omega
  have w8:wrap64 (c+8 * i+7+1)=c+8 * i+8:=by rw [w64 (by omega) (by omega)];omega
  simp only [laws_markOrderLineS.l0,hw,w1,w2,w3,w4,w5,w6,w7,w8]
  refine Evt.pos (by omega) (Evt.bind (mt_ev _ (by omega)) (Evt.pos h1 (Evt.bind (mt_ev _ (by omega)) (Evt.bind (mt_ev _ (by omega)) ?_))))
  (try simp only [rdL_set _ i _ h1 (show i<(acc.length:Int) by omega),List.set_set])
  exact hr
 ·intro acc s hl
  simp only [laws_markOrderLineS.l0]
  exact Evt.neg (by omega) (Evt.pure _)
def gN (s:Int):S137:=⟨s,s+1,s+2⟩
def marksN (n:Nat) (c:Int):List S137:=(List.range n).map fun (j:Nat)=>gN (c+3 * (j:Int))
noncomputable def gX (s:Int):S107:=⟨mt s,mt (s+1),mt (s+2)⟩
noncomputable def marksX (n:Nat) (c:Int):List S107:=(List.range n).map fun (j:Nat)=>gX (c+3 * (j:Int))
noncomputable def gD (s:Int):S111:=⟨s,mt (s+1),mt (s+2),s+3,mt (s+4),s+5⟩
noncomputable def marksD (n:Nat) (c:Int):List S111:=(List.range n).map fun (j:Nat)=>gD (c+6 * (j:Int))
theorem rdN_set (l:List S137) (i:Int) (x:S137) (h0:0≤i) (h:i<(l.length:Int)):rd_T137 (l.set i.toNat x) i=x:=by
 unfold rd_T137
 rw [getD_at _ _ _ (by simp;omega)]
 simp
theorem rdX_set (l:List S107) (i:Int) (x:S107) (h0:0≤i) (h:i<(l.length:Int)):rd_T107 (l.set i.toNat x) i=x:=by
 unfold rd_T107
 rw [getD_at _ _ _ (by simp;omega)]
 simp
theorem rdD_set (l:List S111) (i:Int) (x:S111) (h0:0≤i) (h:i<(l.length:Int)):rd_T111 (l.set i.toNat x) i=x:=by
 unfold rd_T111
 rw [getD_at _ _ _ (by simp;omega)]
 simp
theorem markN_ev (l:List S137) (c:Int) (h0:0≤c) (hc:c+3 * (l.length:Int)≤1000000000000000000):Evt (fun k=>laws_markSeenS.f k l c) (c+3 * l.length,marksN l.length c):=by
 unfold laws_markSeenS.f
 refine mark_loop l.length l rfl 3 c gN (fun k acc s i=>laws_markSeenS.l0 k acc s i) ?_ ?_
 ·intro acc i h1 hlt hl r hr
  have hw:wrap64 (i+1)=i+1:=w64 (by omega) (by omega)
  have w1:wrap64 (c+3 * i+1)=c+3 * i+1:=by rw [w64 (by omega) (by omega)]
  have w2:wrap64 (c+3 * i+1+1)=c+3 * i+2:=by rw [w64 (by omega) (by omega)];omega
  have w3:wrap64 (c+3 * i+2+1)=c+3 * i+3:=by rw [w64 (by omega) (by omega)];omega
  simp only [laws_markSeenS.l0,hw,w1,w2,w3]
  refine Evt.pos (by omega) (Evt.pos h1 ?_)
  (try simp only [rdN_set _ i _ h1 (show i<(acc.length:Int) by omega),List.set_set])
  exact hr
 ·intro acc s hl
  simp only [laws_markSeenS.l0]
  exact Evt.neg (by omega) (Evt.pure _)
theorem markX_ev (l:List S107) (c:Int) (h0:0≤c) (hc:c+3 * (l.length:Int)≤1000000000000000000):Evt (fun k=>laws_markCrossS.f k l c) (c+3 * l.length,marksX l.length c):=by
 unfold laws_markCrossS.f
 refine mark_loop l.length l rfl 3 c gX (fun k acc s i=>laws_markCrossS.l0 k acc s i) ?_ ?_
 ·intro acc i h1 hlt hl r hr
  have hw:wrap64 (i+1)=i+1:=w64 (by omega) (by omega)
  have w1:wrap64 (c+3 * i+1)=c+3 * i+1:=by rw [w64 (by omega) (by omega)]
  have w2:wrap64 (c+3 * i+1+1)=c+3 * i+2:=by rw [w64 (by omega) (by omega)];omega
  have w3:wrap64 (c+3 * i+2+1)=c+3 * i+3:=by rw [w64 (by omega) (by omega)];omega
  simp only [laws_markCrossS.l0,hw,w1,w2,w3]
  refine Evt.pos (by omega) (Evt.bind (mt_ev _ (by omega)) (Evt.pos h1 (Evt.bind (mt_ev _ (by omega)) (Evt.bind (mt_ev _ (by omega)) ?_))))
  (try simp only [rdX_set _ i _ h1 (show i<(acc.length:Int) by omega),List.set_set])
  exact hr
 ·intro acc s hl
  simp only [laws_markCrossS.l0]
  exact Evt.neg (by omega) (Evt.pure _)
theorem markD_ev (l:List S111) (c:Int) (h0:0≤c) (hc:c+6 * (l.length:Int)≤1000000000000000000):Evt (fun k=>laws_markDiffS.f k l c) (c+6 * l.length,marksD l.length c):=by
 unfold laws_markDiffS.f
 refine mark_loop l.length l rfl 6 c gD (fun k acc s i=>laws_markDiffS.l0 k acc s i) ?_ ?_
 ·intro acc i h1 hlt hl r hr
  have hw:wrap64 (i+1)=i+1:=w64 (by omega) (by omega)
  have w1:wrap64 (c+6 * i+1)=c+6 * i+1:=by rw [w64 (by omega) (by omega)]
  have w2:wrap64 (c+6 * i+1+1)=c+6 * i+2:=by rw [w64 (by omega) (by omega)];omega
  have w3:wrap64 (c+6 * i+2+1)=c+6 * i+3:=by rw [w64 (by omega) (by omega)];omega
  have w4:wrap64 (c+6 * i+3+1)=c+6 * i+4:=by rw [w64 (by omega) (by omega)];omega
  have w5:wrap64 (c+6 * i+4+1)=c+6 * i+5:=by rw [w64 (by omega) (by omega)];omega
  have w6:wrap64 (c+6 * i+5+1)=c+6 * i+6:=by rw [w64 (by omega) (by omega)];omega
  simp only [laws_markDiffS.l0,hw,w1,w2,w3,w4,w5,w6]
  refine Evt.pos (by omega) (Evt.pos h1 (Evt.bind (mt_ev _ (by omega)) (Evt.bind (mt_ev _ (by omega)) (Evt.bind (mt_ev _ (by omega)) ?_))))
  (try simp only [rdD_set _ i _ h1 (show i<(acc.length:Int) by omega),List.set_set])
  exact hr
 ·intro acc s hl
  simp only [laws_markDiffS.l0]
  exact Evt.neg (by omega) (Evt.pure _)
def cP (l:List S101) (c:Int):Nat→Int
 | 0=>c
 | n+1=>cP l c n+3+3 * ((rd_T101 l (n:Int)).f3.length:Int)
noncomputable def gP (s:Int) (n:Nat):S101:=⟨mt s,s+1,s+2,marksN n (s+3)⟩
noncomputable def marksP (l:List S101) (c:Int):List S101:=(List.range l.length).map fun (j:Nat)=>gP (cP l c j) (rd_T101 l (j:Int)).f3.length
theorem cP_le (l:List S101) (c:Int) (hi:∀ i:Int,0≤i→i<(l.length:Int)→((rd_T101 l i).f3.length:Int)≤9000000) (n:Nat) (hn:n≤l.length):c≤cP l c n∧cP l c n≤c+27000003 * (n:Int):=by
 induction n with
 | zero=>simp [cP]
 | succ n ih =>
  have h1:=ih (by omega)
  have h2:=hi (n:Int) (by omega) (by omega)
  simp only [cP]
  omega
theorem markP_ev (l:List S101) (c:Int) (h0:0≤c) (hc:c≤1000000000) (hl:l.length≤1048576) (hi:∀ i:Int,0≤i→i<(l.length:Int)→((rd_T101 l i).f3.length:Int)≤9000000) :
  Evt (fun k=>laws_markPartnerS.f k l c) (cP l c l.length,marksP l c):=by
 unfold laws_markPartnerS.f
 have h:=up_loop (l.length:Int) (fun k (s:List S101 × Int) i=>laws_markPartnerS.l0 k s.1 s.2 i) (fun i=>((List.range i.toNat).map (fun (j:Nat)=>gP (cP l c j) (rd_T101 l (j:Int)).f3.length)++l.drop i.toNat,cP l c i.toNat)) (fun _=>(cP l c l.length,marksP l c)) ?_ ?_ 0 (Int.le_refl _) (by omega)
 ·simpa [cP] using h
 ·intro i h1 hlt ih
  have hin:i.toNat<l.length:=by omega
  have hcs:=cP_le l c hi i.toNat (by omega)
  have hib:=hi i h1 hlt
  have hw:wrap64 (i+1)=i+1:=w64 (by omega) (by omega)
  have hcons:=List.drop_eq_getElem_cons hin
  have e:rd_T101 ((List.range i.toNat).map (fun (j:Nat)=>gP (cP l c j) (rd_T101 l (j:Int)).f3.length)++l.drop i.toNat) i=rd_T101 l i:=by
   unfold rd_T101
   rw [getD_at _ _ _ (by simp;omega),getD_at l _ _ (by omega),List.getElem_append_right (by simp)]
   simp
  have e2:((List.range i.toNat).map (fun (j:Nat)=>gP (cP l c j) (rd_T101 l (j:Int)).f3.length)++l.drop i.toNat).set i.toNat (gP (cP l c i.toNat) (rd_T101 l i).f3.length)=(List.range (i+1).toNat).map (fun (j:Nat)=>gP (cP l c j) (rd_T101 l (j:Int)).f3.length)++l.drop (i+1).toNat:=by
   rw [List.set_append_right _ _ (by simp),List.length_map,List.length_range,Nat.sub_self,hcons,List.set_cons_zero,show (i+1).toNat=i.toNat+1 by omega]
   rw [List.range_succ,List.map_append,List.append_assoc]
   congr 1
   all_goals rw [List.map_singleton,List.singleton_append,show ((i.toNat:Nat):Int)=i by omega]
  have e3:cP l c (i+1).toNat=cP l c i.toNat+3+3 * ((rd_T101 l i).f3.length:Int):=by
   rw [show (i+1).toNat=i.toNat+1 by omega]
   simp only [cP]
   rw [show ((i.toNat:Nat):Int)=i by omega]
  have w1:wrap64 (cP l c i.toNat+1)=cP l c i.toNat+1:=by rw [w64 (by omega) (by omega)]
  have w2:wrap64 (cP l c i.toNat+1+1)=cP l c i.toNat+2:=by rw [w64 (by omega) (by omega)];omega
  have w3:wrap64 (cP l c i.toNat+2+1)=cP l c i.toNat+3:=by rw [w64 (by omega) (by omega)];omega
  have hlen:(((List.range i.toNat).map (fun (j:Nat)=>gP (cP l c j) (rd_T101 l (j:Int)).f3.length)++l.drop i.toNat).length:Int)=(l.length:Int):=by simp;omega
  rw [← e2,e3] at ih
  simp only [laws_markPartnerS.l0,hw,w1,w2,w3,e,hlen]
  exact Evt.pos hlt (Evt.bind (mt_ev _ (by omega)) (Evt.pos h1 (Evt.bind (markN_ev _ _ (by omega) (by omega)) ih)))
 ·simp only [laws_markPartnerS.l0]
  exact Evt.neg (by simp) ((Evt.pure _).same (by simp [marksP]))
theorem markG_ev (n:ByteArray) (d:Int) (p:List S101) (x:List S107) (s:List S134) (m:List S140) (f:List S111) (o:List S102)
  (hi:∀ i:Int,0≤i→i<(p.length:Int)→((rd_T101 p i).f3.length:Int)≤9000000) (lp:p.length≤1048576) (lx:x.length≤1048576) (ls:s.length≤1048576) (lm:m.length≤1048576) (lf:f.length≤1048576) (lo:o.length≤1048576) :
  ∃ t:Int,0≤t∧Evt (fun k=>laws_markGate.f k n d p x s m f o 1) t:=by
 have hc:=cP_le p 1 hi p.length (Nat.le_refl _)
 have hb (c:Int) (h0:0≤c) (h1:c+2 * (s.length:Int)+8 * (m.length:Int)≤1000000000000000000):Evt (fun k=>laws_markBook.f k s m c) (c+2 * (s.length:Int)+8 * (m.length:Int),marksK s.length c,marksL m.length (c+2 * (s.length:Int))):=by
  unfold laws_markBook.f
  exact Evt.bind (markK_ev s c h0 (by omega)) (Evt.bind (markL_ev m _ (by dsimp only;omega) (by dsimp only;omega)) (Evt.pure _))
 have hp:=markP_ev p 1 (by decide) (by decide) lp hi
 generalize cP p 1 p.length=c1 at hc hp
 refine ⟨c1+3 * (x.length:Int)+2 * (s.length:Int)+8 * (m.length:Int)+6 * (f.length:Int)+5 * (o.length:Int),by omega,?_⟩
 unfold laws_markGate.f
 exact Evt.bind hp (Evt.bind (markX_ev x c1 (by omega) (by omega)) (Evt.bind (hb _ (by dsimp only;omega) (by dsimp only;omega)) (Evt.bind (markD_ev f _ (by dsimp only;omega) (by dsimp only;omega)) (Evt.bind (markO_ev o _ (by dsimp only;omega) (by dsimp only;omega)) (Evt.pure _)))))
end Go.Proofs.YtkfcahggnpecjaaGreat.QG
namespace Go.Proofs.YtkfcahggnpecjaaGreat.Pure
open Go.RowKit Go.Proofs.YtkfcahggnpecjaaGreat Go.Proofs.YtkfcahggnpecjaaGreat.QG Go.Proofs.YtkfcahggnpecjaaGreatW.PrintWords Go.Proofs.YtkfcahggnpecjaaGreat.Ev0
theorem FnExactGateDay:laws_FnExactGateDay.Pure:=by
 intro n d p x s m f o wn wd wp wx ws wm wf wo
 apply Evt.ex
 unfold laws_FnExactGateDay.f
 have hn:n.size≤2 ^ 63 - 1:=wn
 have h:okLG n p x s m f o:=⟨by omega,fun y hy=>okLP_of (wp.2 y hy),fun y hy=>okLX_of (wx.2 y hy),fun y hy=>okLK_of (ws.2 y hy),fun y hy=>okL_of (wm.2 y hy),fun y hy=>okLD_of (wf.2 y hy),fun y hy=>okLO_of (wo.2 y hy),wp.1,wx.1,ws.1,wm.1,wf.1,wo.1⟩
 obtain ⟨t,ht,hlen⟩:=szGate_ev n d p x s m f o h
 refine Evt.bind ht (Evt.ite (fun _=>Evt.pure true) (fun hn=>?_))
 have g:=hlen.resolve_left hn
 have hto:=toGate_ev n d p x s m f o g
 have hg:=okG_map n p x s m f o h g
 have h1:=specDay_ev _ d _ _ _ _ _ _ hg
 have h2:=implDay_ev _ d _ _ _ _ _ _ hg
 have hR:=dayR_len n d (p.map cvPart) (x.map cvCross) (s.map cvStock) (m.map cvLine) (f.map cvDiff) (o.map cvOut)
 have he:=eqGate_refl n d _ _ _ _ _ _ hg
 obtain ⟨t2,t0,hG⟩:=markG_ev n d (p.map cvPart) (x.map cvCross) (s.map cvStock) (m.map cvLine) (f.map cvDiff) (o.map cvOut) (fun i h0 hlt=>(okP_at hg.qp i hlt h0).2) hg.lp hg.lx hg.ls hg.lm hg.lf hg.lo
 generalize dayR n d (p.map cvPart) (x.map cvCross) (s.map cvStock) (m.map cvLine) (f.map cvDiff) (o.map cvOut)=R at hR h1 h2
 obtain ⟨a,b,c,e⟩:=R
 obtain ⟨ra,rb,rc⟩:=hR
 have hq:=eqOO' a b c e ra rb rc
 obtain ⟨v,a',b',c',v0,hm,hh⟩:=markOO' a b c e ra rb rc
 refine Evt.bind hto (Evt.bind h1 (Evt.bind hto (Evt.bind h2 (Evt.bind hq (Evt.pos rfl (Evt.bind hto (Evt.bind he (Evt.pos rfl (Evt.bind hG (Evt.neg (by omega) (Evt.bind hq ?_)))))))))))
 apply Evt.succ
 simp only [laws_FnExactGateDay.j0,Bool.not_true,Bool.false_eq_true,if_false]
 refine Evt.bind hm (Evt.bind hh (Evt.neg (by omega) (Evt.pos rfl (Evt.bind hto (Evt.bind h2 (Evt.bind hq (Evt.pos rfl (Evt.bind hh (Evt.neg (by omega) (Evt.pos rfl (Evt.pure true)))))))))))
end Go.Proofs.YtkfcahggnpecjaaGreat.Pure
