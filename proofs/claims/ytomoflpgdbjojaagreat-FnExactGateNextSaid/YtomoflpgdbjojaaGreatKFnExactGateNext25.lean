-- Merged by a program of this session (wip/tool/pack.py) out of its own texts for this claim.
import Derived.Test.YtomoflpgdbjojaaGreatKFnExactGateNext24
namespace Go.Proofs.YtomoflpgdbjojaaGreat.QN
open Go.RowKit Go.Proofs.YtomoflpgdbjojaaGreatW.PrintWords Go.Proofs.YtomoflpgdbjojaaGreat.Ev0
noncomputable def gO (s:Int):S120:=⟨mt s,s+1,mt (s+2),s+3,s+4⟩
noncomputable def marksO (n:Nat) (c:Int):List S120:=(List.range n).map fun (j:Nat)=>gO (c+5 * (j:Int))
theorem rdO_set (l:List S120) (i:Int) (x:S120) (h0:0≤i) (h:i<(l.length:Int)):rd_T120 (l.set i.toNat x) i=x:=by
 unfold rd_T120
 rw [getD_at _ _ _ (by simp;omega)]
 simp
theorem markO_ev (l:List S120) (c:Int) (h0:0≤c) (hc:c+5 * (l.length:Int)≤1000000000000000000):Evt (fun k=>laws_markOutS.f k l c) (c+5 * l.length,marksO l.length c):=by
 unfold laws_markOutS.f
 refine mark_loop l.length l rfl 5 c gO (fun k acc s i=>laws_markOutS.l0 k acc s i) ?_ ?_
 ·intro acc i h1 hlt hl r hr
  have hw:wrap64 (i+1)=i+1:=w64 (by omega) (by omega)
  have w1:wrap64 (c+5 * i+1)=c+5 * i+1:=w64 (by omega) (by omega)
  have w2:wrap64 (c+5 * i+1+1)=c+5 * i+2:=by rw [w64 (by omega) (by omega)];omega
  have w3:wrap64 (c+5 * i+2+1)=c+5 * i+3:=by rw [w64 (by omega) (by omega)];omega
  have w4:wrap64 (c+5 * i+3+1)=c+5 * i+4:=by rw [w64 (by omega) (by omega)];omega
  have w5:wrap64 (c+5 * i+4+1)=c+5 * i+5:=by rw [w64 (by omega) (by omega)];omega
  simp only [laws_markOutS.l0,hw,w1,w2,w3,w4,w5]
  refine Evt.pos (by omega) (Evt.bind (mt_ev _ (by omega)) (Evt.pos h1 (Evt.bind (mt_ev _ (by omega)) ?_)))
  (try simp only [rdO_set _ i _ h1 (show i<(acc.length:Int) by omega),List.set_set])
  exact hr
 ·intro acc s hl
  simp only [laws_markOutS.l0]
  exact Evt.neg (by omega) (Evt.pure _)
theorem heldO_ev (n:Nat) (c:Int) (h0:0≤c) (hc:c+5 * (n:Int)≤1000000000000000000):Evt (fun k=>laws_heldOutS.f k (marksO n c) c) (c+5 * n):=by
 unfold laws_heldOutS.f
 have hlen:(marksO n c).length=n:=by simp [marksO]
 refine held_loop n 5 c (fun k s i=>laws_heldOutS.l0 k (marksO n c) s i) ?_ ?_
 ·intro i h1 hlt r hr
  have hw:wrap64 (i+1)=i+1:=w64 (by omega) (by omega)
  have w1:wrap64 (c+5 * i+1)=c+5 * i+1:=w64 (by omega) (by omega)
  have w2:wrap64 (c+5 * i+1+1)=c+5 * i+2:=by rw [w64 (by omega) (by omega)];omega
  have w3:wrap64 (c+5 * i+2+1)=c+5 * i+3:=by rw [w64 (by omega) (by omega)];omega
  have w4:wrap64 (c+5 * i+3+1)=c+5 * i+4:=by rw [w64 (by omega) (by omega)];omega
  have w5:wrap64 (c+5 * i+4+1)=c+5 * i+5:=by rw [w64 (by omega) (by omega)];omega
  have e:rd_T120 (marksO n c) i=gO (c+5 * i):=by
   unfold rd_T120 marksO
   rw [at_map _ _ _ _ h1 hlt,show ((i.toNat:Nat):Int)=i by omega]
  simp only [laws_heldOutS.l0,hw,w1,w2,w3,w4,w5,e,gO,hlen]
  exact Evt.pos hlt (Evt.pos h1 (Evt.bind (mt_ev _ (by omega)) (Evt.pos (by simp) (Evt.pos (by simp) (Evt.bind (mt_ev _ (by omega)) (Evt.pos (by simp) (Evt.pos (by simp) (Evt.pos (by simp) hr))))))))
 ·intro s
  simp only [laws_heldOutS.l0,hlen]
  exact Evt.neg (by omega) (Evt.pure _)
end Go.Proofs.YtomoflpgdbjojaaGreat.QN
namespace Go.Proofs.YtomoflpgdbjojaaGreat.QN
open Go.RowKit Go.Proofs.YtomoflpgdbjojaaGreat Go.Proofs.YtomoflpgdbjojaaGreatW.PrintWords Go.Proofs.YtomoflpgdbjojaaGreat.Ev0
noncomputable def dayR (n:ByteArray) (d:Int) (p:List S83) (x:List S114) (s:List S152) (m:List S161) (f:List S118) (o:List S120):List OX × List SX × List OX × Int :=
 if gateB n d p x s m f o=true then tickR o d else ([],[],[],1)
theorem specDay_ev (n:ByteArray) (d:Int) (p:List S83) (x:List S114) (s:List S152) (m:List S161) (f:List S118) (o:List S120) (h:okG n p x s m f o) :
  Evt (fun k=>spec_GateDay.f k n d p x s m f o) (dayR n d p x s m f o):=by
 unfold spec_GateDay.f dayR
 refine Evt.bind (specGate_ev n d p x s m f o h) ?_
 by_cases g:gateB n d p x s m f o=true
 ·rw [if_pos g,g]
  exact Evt.pos rfl (Evt.bind (specTick_ev o d h.qo) (Evt.pure _))
 ·rw [if_neg g]
  simp only [spec_l12Wrong.f,Option.bind_some]
  exact Evt.neg g (Evt.pure _)
theorem implDay_ev (n:ByteArray) (d:Int) (p:List S83) (x:List S114) (s:List S152) (m:List S161) (f:List S118) (o:List S120) (h:okG n p x s m f o) :
  Evt (fun k=>impl_GateDay.f k n d p x s m f o) (dayR n d p x s m f o):=by
 unfold impl_GateDay.f dayR
 refine Evt.bind (implGate_ev n d p x s m f o h) ?_
 by_cases g:gateB n d p x s m f o=true
 ·rw [if_pos g,g]
  exact Evt.pos rfl (Evt.bind (implTick_ev o d h.qo) (Evt.pure _))
 ·rw [if_neg g]
  exact Evt.neg g (Evt.pure _)
theorem take_next (p:List S83) (i:Int) (h0:0≤i) (h1:i<(p.length:Int)):p.take i.toNat++[rd_T83 p i]=p.take (i+1).toNat:=by
 have hi:i.toNat<p.length:=by omega
 rw [show (i+1).toNat=i.toNat+1 by omega,List.take_succ_eq_append_getElem hi]
 unfold rd_T83
 rw [getD_at p _ _ hi]
theorem specCopy_ev (n:ByteArray) (d:Int) (p:List S83) (x:List S114) (s:List S152) (m:List S161) (f:List S118) (o:List S120) (h:okG n p x s m f o) (hf:f.length≤1048576) :
  Evt (fun k=>spec_l13Copy.f k n d p x s m f o) (n,d,p,x,s,m,f,o):=by
 have:=h.lp;have:=h.lx;have:=h.ls;have:=h.lm;have:=h.lo
 unfold spec_l13Copy.f
 have q:=up_loop (p.length:Int) (fun k (a:List S83) i=>spec_l13Copy.l0 k i n d p x s m f o n d a x s m f o) (fun i=>p.take i.toNat) (fun _=>(n,d,p,x,s,m,f,o)) ?_ ?_ 0 (Int.le_refl _) (by omega)
 ·simpa using q
 ·intro i h0 hlt ih
  have hk:=okP_at h.qp i hlt h0
  have hw:wrap64 (i+1)=i+1:=w64 (by omega) (by omega)
  have hl:(p.take i.toNat).length≤1048576:=by simp;omega
  rw [← take_next p i h0 hlt] at ih
  simp only [spec_l13Copy.l0,spec_l07Copy.f,Option.bind_some,List.length_nil,Nat.zero_add,List.nil_append,hw]
  exact Evt.pos hlt (Evt.pos h0 (Evt.bind (Evt.pos (by have:=hk.2;omega) (Evt.pure _)) (Evt.pos (by omega) ih)))
 ·simp only [spec_l13Copy.l0,spec_l10Copy.f,Option.bind_some,List.length_nil,Nat.zero_add,List.nil_append]
  exact Evt.neg (by omega) (Evt.pos (by omega) (Evt.bind (Evt.pos (by omega) (Evt.pos (by omega) (Evt.pure _))) (Evt.pos (by omega) (Evt.pos (by omega) ((Evt.pure _).same (by simp))))))
theorem implCopy_ev (n:ByteArray) (d:Int) (p:List S83) (x:List S114) (s:List S152) (m:List S161) (f:List S118) (o:List S120) (h:okG n p x s m f o) (hf:f.length≤1048576) :
  Evt (fun k=>impl_ownGate.f k n d p x s m f o) (n,d,p,x,s,m,f,o):=by
 have:=h.lp;have:=h.lx;have:=h.ls;have:=h.lm;have:=h.lo
 unfold impl_ownGate.f
 have q:=up_loop (p.length:Int) (fun k (a:List S83) i=>impl_ownGate.l0 k a p (p.length:Int) i n d p x s m f o) (fun i=>p.take i.toNat) (fun _=>(n,d,p,x,s,m,f,o)) ?_ ?_ 0 (Int.le_refl _) (by omega)
 ·simpa using q
 ·intro i h0 hlt ih
  have hk:=okP_at h.qp i hlt h0
  have hw:wrap64 (i+1)=i+1:=w64 (by omega) (by omega)
  have hl:(p.take i.toNat).length≤1048576:=by simp;omega
  rw [← take_next p i h0 hlt] at ih
  simp only [impl_ownGate.l0,impl_ownPartner.f,slices_Clone_implSeen.f,hw]
  exact Evt.pos hlt (Evt.pos h0 (Evt.pos hlt (Evt.bind (Evt.bind (Evt.pos (by have:=hk.2;omega) (Evt.pure _)) (Evt.pure _)) (Evt.pos (by omega) ih))))
 ·simp only [impl_ownGate.l0,impl_ownBook.f,slices_Clone_implCross.f,slices_Clone_implStock.f,slices_Clone_implOrderLine.f,slices_Clone_implDiff.f,slices_Clone_implOut.f]
  exact Evt.neg (by omega) (Evt.bind (Evt.pos (by omega) (Evt.pure _)) (Evt.bind (Evt.bind (Evt.pos (by omega) (Evt.pure _)) (Evt.bind (Evt.pos (by omega) (Evt.pure _)) (Evt.pure _))) (Evt.bind (Evt.pos (by omega) (Evt.pure _)) (Evt.bind (Evt.pos (by omega) (Evt.pure _)) ((Evt.pure _).same (by simp))))))
noncomputable def nextDO (g:Bool) (d:Int) (o:List S120):Int × List S120:=if g=true∧d<100000 then (d+1,(tickR o d).1) else (d,o)
theorem gateB_day {n:ByteArray} {d:Int} {p:List S83} {x:List S114} {s:List S152} {m:List S161} {f:List S118} {o:List S120} (h:gateB n d p x s m f o=true):0≤d∧d≤100000:=(B_iff.1 h).1.2.1
theorem specNext_ev (n:ByteArray) (d:Int) (p:List S83) (x:List S114) (s:List S152) (m:List S161) (f:List S118) (o:List S120) (h:okG n p x s m f o) (hf:f.length≤1048576) :
  Evt (fun k=>spec_GateNext.f k n d p x s m f o) (n,(nextDO (gateB n d p x s m f o) d o).1,p,x,s,m,f,(nextDO (gateB n d p x s m f o) d o).2):=by
 unfold spec_GateNext.f nextDO
 refine Evt.bind (specCopy_ev n d p x s m f o h hf) (Evt.bind (specGate_ev n d p x s m f o h) ?_)
 by_cases g:gateB n d p x s m f o=true
 ·have hd:=gateB_day g
  rw [g]
  refine Evt.pos rfl ?_
  by_cases e:d=100000
  ·rw [if_neg (fun q=>by have:=q.2;omega)]
   exact Evt.pos e (Evt.pure _)
  ·rw [if_pos ⟨rfl,by omega⟩]
   refine Evt.neg e (Evt.bind (specDay_ev n d p x s m f o h) ?_)
   rw [w64 (by omega) (by omega)]
   unfold dayR
   rw [if_pos g]
   exact Evt.pure _
 ·rw [if_neg (fun q=>g q.1)]
  exact Evt.neg g (Evt.pure _)
theorem implNext_ev (n:ByteArray) (d:Int) (p:List S83) (x:List S114) (s:List S152) (m:List S161) (f:List S118) (o:List S120) (h:okG n p x s m f o) (hf:f.length≤1048576) :
  Evt (fun k=>impl_GateNext.f k n d p x s m f o) (n,(nextDO (gateB n d p x s m f o) d o).1,p,x,s,m,f,(nextDO (gateB n d p x s m f o) d o).2):=by
 unfold impl_GateNext.f nextDO
 refine Evt.bind (implCopy_ev n d p x s m f o h hf) (Evt.bind (implGate_ev n d p x s m f o h) ?_)
 by_cases g:gateB n d p x s m f o=true
 ·have hd:=gateB_day g
  rw [g]
  refine Evt.pos rfl ?_
  by_cases e:d<100000
  ·rw [if_pos ⟨rfl,e⟩]
   refine Evt.pos e (Evt.bind (implDay_ev n d p x s m f o h) ?_)
   dsimp only
   rw [w64 (by omega) (by omega)]
   unfold dayR
   rw [if_pos g]
   exact Evt.pure _
  ·rw [if_neg (fun q=>e q.2)]
   exact Evt.neg e (Evt.pure _)
 ·rw [if_neg (fun q=>g q.1)]
  exact Evt.neg g (Evt.pure _)
theorem nextDO_ok (g:Bool) (d:Int) (o:List S120) (h:∀ y ∈ o,okO y) (hl:o.length≤1048576):(∀ y ∈ (nextDO g d o).2,okO y)∧(nextDO g d o).2.length≤1048576:=by
 unfold nextDO
 split
 ·refine ⟨tickR_ok o d h,?_⟩
  have ht:=tall_len d o
  show (tickR o d).1.length≤1048576
  unfold tickR
  split
  ·simp
  ·split
   ·dsimp only;omega
   ·simp
 ·exact ⟨h,hl⟩
end Go.Proofs.YtomoflpgdbjojaaGreat.QN
namespace Go.Proofs.YtomoflpgdbjojaaGreat.QN
open Go.RowKit Go.Proofs.YtomoflpgdbjojaaGreatW.PrintWords Go.Proofs.YtomoflpgdbjojaaGreat.Ev0
noncomputable def gK (s:Int):S152:=⟨mt s,s+1⟩
noncomputable def marksK (n:Nat) (c:Int):List S152:=(List.range n).map fun (j:Nat)=>gK (c+2 * (j:Int))
theorem rdK_set (l:List S152) (i:Int) (x:S152) (h0:0≤i) (h:i<(l.length:Int)):rd_T152 (l.set i.toNat x) i=x:=by
 unfold rd_T152
 rw [getD_at _ _ _ (by simp;omega)]
 simp
theorem markK_ev (l:List S152) (c:Int) (h0:0≤c) (hc:c+2 * (l.length:Int)≤1000000000000000000):Evt (fun k=>laws_markStockS.f k l c) (c+2 * l.length,marksK l.length c):=by
 unfold laws_markStockS.f
 refine mark_loop l.length l rfl 2 c gK (fun k acc s i=>laws_markStockS.l0 k acc s i) ?_ ?_
 ·intro acc i h1 hlt hl r hr
  have hw:wrap64 (i+1)=i+1:=w64 (by omega) (by omega)
  have w1:wrap64 (c+2 * i+1)=c+2 * i+1:=by rw [w64 (by omega) (by omega)]
  have w2:wrap64 (c+2 * i+1+1)=c+2 * i+2:=by rw [w64 (by omega) (by omega)];omega
  simp only [laws_markStockS.l0,hw,w1,w2]
  refine Evt.pos (by omega) (Evt.bind (mt_ev _ (by omega)) (Evt.pos h1 ?_))
  (try simp only [rdK_set _ i _ h1 (show i<(acc.length:Int) by omega),List.set_set])
  exact hr
 ·intro acc s hl
  simp only [laws_markStockS.l0]
  exact Evt.neg (by omega) (Evt.pure _)
theorem heldK_ev (n:Nat) (c:Int) (h0:0≤c) (hc:c+2 * (n:Int)≤1000000000000000000):Evt (fun k=>laws_heldStockS.f k (marksK n c) c) (c+2 * n):=by
 unfold laws_heldStockS.f
 have hlen:(marksK n c).length=n:=by simp [marksK]
 refine held_loop n 2 c (fun k s i=>laws_heldStockS.l0 k (marksK n c) s i) ?_ ?_
 ·intro i h1 hlt r hr
  have hw:wrap64 (i+1)=i+1:=w64 (by omega) (by omega)
  have w1:wrap64 (c+2 * i+1)=c+2 * i+1:=by rw [w64 (by omega) (by omega)]
  have w2:wrap64 (c+2 * i+1+1)=c+2 * i+2:=by rw [w64 (by omega) (by omega)];omega
  have e:rd_T152 (marksK n c) i=gK (c+2 * i):=by
   unfold rd_T152 marksK
   rw [at_map _ _ _ _ h1 hlt,show ((i.toNat:Nat):Int)=i by omega]
  simp only [laws_heldStockS.l0,hw,w1,w2,e,gK,hlen]
  exact Evt.pos hlt (Evt.pos h1 (Evt.bind (mt_ev _ (by omega)) (Evt.pos (by simp) (Evt.pos (by simp) hr))))
 ·intro s
  simp only [laws_heldStockS.l0,hlen]
  exact Evt.neg (by omega) (Evt.pure _)
noncomputable def gL (s:Int):S161:=⟨mt s,mt (s+1),s+2,mt (s+3),s+4,s+5,s+6,s+7⟩
noncomputable def marksL (n:Nat) (c:Int):List S161:=(List.range n).map fun (j:Nat)=>gL (c+8 * (j:Int))
theorem rdL_set (l:List S161) (i:Int) (x:S161) (h0:0≤i) (h:i<(l.length:Int)):rd_T161 (l.set i.toNat x) i=x:=by
 unfold rd_T161
 rw [getD_at _ _ _ (by simp;omega)]
 simp
theorem markL_ev (l:List S161) (c:Int) (h0:0≤c) (hc:c+8 * (l.length:Int)≤1000000000000000000):Evt (fun k=>laws_markOrderLineS.f k l c) (c+8 * l.length,marksL l.length c):=by
 unfold laws_markOrderLineS.f
 refine mark_loop l.length l rfl 8 c gL (fun k acc s i=>laws_markOrderLineS.l0 k acc s i) ?_ ?_
 ·intro acc i h1 hlt hl r hr
  have hw:wrap64 (i+1)=i+1:=w64 (by omega) (by omega)
  have w1:wrap64 (c+8 * i+1)=c+8 * i+1:=by rw [w64 (by omega) (by omega)]
  have w2:wrap64 (c+8 * i+1+1)=c+8 * i+2:=by rw [w64 (by omega) (by omega)];omega
  have w3:wrap64 (c+8 * i+2+1)=c+8 * i+3:=by rw [w64 (by omega) (by omega)];omega
  have w4:wrap64 (c+8 * i+3+1)=c+8 * i+4:=by rw [w64 (by omega) (by omega)];omega
  have w5:wrap64 (c+8 * i+4+1)=c+8 * i+5:=by rw [w64 (by omega) (by omega)];omega
  have w6:wrap64 (c+8 * i+5+1)=c+8 * i+6:=by rw [w64 (by omega) (by omega)];omega
  have w7:wrap64 (c+8 * i+6+1)=c+8 * i+7:=by rw [w64 (by omega) (by omega)];omega
  have w8:wrap64 (c+8 * i+7+1)=c+8 * i+8:=by rw [w64 (by omega) (by omega)];omega
  simp only [laws_markOrderLineS.l0,hw,w1,w2,w3,w4,w5,w6,w7,w8]
  refine Evt.pos (by omega) (Evt.bind (mt_ev _ (by omega)) (Evt.pos h1 (Evt.bind (mt_ev _ (by omega)) (Evt.bind (mt_ev _ (by omega)) ?_))))
  (try simp only [rdL_set _ i _ h1 (show i<(acc.length:Int) by omega),List.set_set])
  exact hr
 ·intro acc s hl
  simp only [laws_markOrderLineS.l0]
  exact Evt.neg (by omega) (Evt.pure _)
theorem heldL_ev (n:Nat) (c:Int) (h0:0≤c) (hc:c+8 * (n:Int)≤1000000000000000000):Evt (fun k=>laws_heldOrderLineS.f k (marksL n c) c) (c+8 * n):=by
 unfold laws_heldOrderLineS.f
 have hlen:(marksL n c).length=n:=by simp [marksL]
 refine held_loop n 8 c (fun k s i=>laws_heldOrderLineS.l0 k (marksL n c) s i) ?_ ?_
 ·intro i h1 hlt r hr
  have hw:wrap64 (i+1)=i+1:=w64 (by omega) (by omega)
  have w1:wrap64 (c+8 * i+1)=c+8 * i+1:=by rw [w64 (by omega) (by omega)]
  have w2:wrap64 (c+8 * i+1+1)=c+8 * i+2:=by rw [w64 (by omega) (by omega)];omega
  have w3:wrap64 (c+8 * i+2+1)=c+8 * i+3:=by rw [w64 (by omega) (by omega)];omega
  have w4:wrap64 (c+8 * i+3+1)=c+8 * i+4:=by rw [w64 (by omega) (by omega)];omega
  have w5:wrap64 (c+8 * i+4+1)=c+8 * i+5:=by rw [w64 (by omega) (by omega)];omega
  have w6:wrap64 (c+8 * i+5+1)=c+8 * i+6:=by rw [w64 (by omega) (by omega)];omega
  have w7:wrap64 (c+8 * i+6+1)=c+8 * i+7:=by rw [w64 (by omega) (by omega)];omega
  have w8:wrap64 (c+8 * i+7+1)=c+8 * i+8:=by rw [w64 (by omega) (by omega)];omega
  have e:rd_T161 (marksL n c) i=gL (c+8 * i):=by
   unfold rd_T161 marksL
   rw [at_map _ _ _ _ h1 hlt,show ((i.toNat:Nat):Int)=i by omega]
  simp only [laws_heldOrderLineS.l0,hw,w1,w2,w3,w4,w5,w6,w7,w8,e,gL,hlen]
  exact Evt.pos hlt (Evt.pos h1 (Evt.bind (mt_ev _ (by omega)) (Evt.pos (by simp) (Evt.bind (mt_ev _ (by omega)) (Evt.pos (by simp) (Evt.pos (by simp) (Evt.bind (mt_ev _ (by omega)) (Evt.pos (by simp) (Evt.pos (by simp) (Evt.pos (by simp) (Evt.pos (by simp) (Evt.pos (by simp) hr))))))))))))
 ·intro s
  simp only [laws_heldOrderLineS.l0,hlen]
  exact Evt.neg (by omega) (Evt.pure _)
def gN (s:Int):S155:=⟨s,s+1,s+2⟩
def marksN (n:Nat) (c:Int):List S155:=(List.range n).map fun (j:Nat)=>gN (c+3 * (j:Int))
noncomputable def gX (s:Int):S114:=⟨mt s,mt (s+1),mt (s+2)⟩
noncomputable def marksX (n:Nat) (c:Int):List S114:=(List.range n).map fun (j:Nat)=>gX (c+3 * (j:Int))
noncomputable def gD (s:Int):S118:=⟨s,mt (s+1),mt (s+2),s+3,mt (s+4),s+5⟩
noncomputable def marksD (n:Nat) (c:Int):List S118:=(List.range n).map fun (j:Nat)=>gD (c+6 * (j:Int))
theorem rdN_set (l:List S155) (i:Int) (x:S155) (h0:0≤i) (h:i<(l.length:Int)):rd_T155 (l.set i.toNat x) i=x:=by
 unfold rd_T155
 rw [getD_at _ _ _ (by simp;omega)]
 simp
theorem rdX_set (l:List S114) (i:Int) (x:S114) (h0:0≤i) (h:i<(l.length:Int)):rd_T114 (l.set i.toNat x) i=x:=by
 unfold rd_T114
 rw [getD_at _ _ _ (by simp;omega)]
 simp
theorem rdD_set (l:List S118) (i:Int) (x:S118) (h0:0≤i) (h:i<(l.length:Int)):rd_T118 (l.set i.toNat x) i=x:=by
 unfold rd_T118
 rw [getD_at _ _ _ (by simp;omega)]
 simp
theorem markN_ev (l:List S155) (c:Int) (h0:0≤c) (hc:c+3 * (l.length:Int)≤1000000000000000000):Evt (fun k=>laws_markSeenS.f k l c) (c+3 * l.length,marksN l.length c):=by
 unfold laws_markSeenS.f
 refine mark_loop l.length l rfl 3 c gN (fun k acc s i=>laws_markSeenS.l0 k acc s i) ?_ ?_
 ·intro acc i h1 hlt hl r hr
  have hw:wrap64 (i+1)=i+1:=w64 (by omega) (by omega)
  have w1:wrap64 (c+3 * i+1)=c+3 * i+1:=by rw [w64 (by omega) (by omega)]
  have w2:wrap64 (c+3 * i+1+1)=c+3 * i+2:=by rw [w64 (by omega) (by omega)];omega
  have w3:wrap64 (c+3 * i+2+1)=c+3 * i+3:=by rw [w64 (by omega) (by omega)];omega
  simp only [laws_markSeenS.l0,hw,w1,w2,w3]
  refine Evt.pos (by omega) (Evt.pos h1 ?_)
  (try simp only [rdN_set _ i _ h1 (show i<(acc.length:Int) by omega),List.set_set])
  exact hr
 ·intro acc s hl
  simp only [laws_markSeenS.l0]
  exact Evt.neg (by omega) (Evt.pure _)
theorem markX_ev (l:List S114) (c:Int) (h0:0≤c) (hc:c+3 * (l.length:Int)≤1000000000000000000):Evt (fun k=>laws_markCrossS.f k l c) (c+3 * l.length,marksX l.length c):=by
 unfold laws_markCrossS.f
 refine mark_loop l.length l rfl 3 c gX (fun k acc s i=>laws_markCrossS.l0 k acc s i) ?_ ?_
 ·intro acc i h1 hlt hl r hr
  have hw:wrap64 (i+1)=i+1:=w64 (by omega) (by omega)
  have w1:wrap64 (c+3 * i+1)=c+3 * i+1:=by rw [w64 (by omega) (by omega)]
  have w2:wrap64 (c+3 * i+1+1)=c+3 * i+2:=by rw [w64 (by omega) (by omega)];omega
  have w3:wrap64 (c+3 * i+2+1)=c+3 * i+3:=by rw [w64 (by omega) (by omega)];omega
  simp only [laws_markCrossS.l0,hw,w1,w2,w3]
  refine Evt.pos (by omega) (Evt.bind (mt_ev _ (by omega)) (Evt.pos h1 (Evt.bind (mt_ev _ (by omega)) (Evt.bind (mt_ev _ (by omega)) ?_))))
  (try simp only [rdX_set _ i _ h1 (show i<(acc.length:Int) by omega),List.set_set])
  exact hr
 ·intro acc s hl
  simp only [laws_markCrossS.l0]
  exact Evt.neg (by omega) (Evt.pure _)
theorem markD_ev (l:List S118) (c:Int) (h0:0≤c) (hc:c+6 * (l.length:Int)≤1000000000000000000):Evt (fun k=>laws_markDiffS.f k l c) (c+6 * l.length,marksD l.length c):=by
 unfold laws_markDiffS.f
 refine mark_loop l.length l rfl 6 c gD (fun k acc s i=>laws_markDiffS.l0 k acc s i) ?_ ?_
 ·intro acc i h1 hlt hl r hr
  have hw:wrap64 (i+1)=i+1:=w64 (by omega) (by omega)
  have w1:wrap64 (c+6 * i+1)=c+6 * i+1:=by rw [w64 (by omega) (by omega)]
  have w2:wrap64 (c+6 * i+1+1)=c+6 * i+2:=by rw [w64 (by omega) (by omega)];omega
  have w3:wrap64 (c+6 * i+2+1)=c+6 * i+3:=by rw [w64 (by omega) (by omega)];omega
  have w4:wrap64 (c+6 * i+3+1)=c+6 * i+4:=by rw [w64 (by omega) (by omega)];omega
  have w5:wrap64 (c+6 * i+4+1)=c+6 * i+5:=by rw [w64 (by omega) (by omega)];omega
  have w6:wrap64 (c+6 * i+5+1)=c+6 * i+6:=by rw [w64 (by omega) (by omega)];omega
  simp only [laws_markDiffS.l0,hw,w1,w2,w3,w4,w5,w6]
  refine Evt.pos (by omega) (Evt.pos h1 (Evt.bind (mt_ev _ (by omega)) (Evt.bind (mt_ev _ (by omega)) (Evt.bind (mt_ev _ (by omega)) ?_))))
  (try simp only [rdD_set _ i _ h1 (show i<(acc.length:Int) by omega),List.set_set])
  exact hr
 ·intro acc s hl
  simp only [laws_markDiffS.l0]
  exact Evt.neg (by omega) (Evt.pure _)
def cP (l:List S83) (c:Int):Nat→Int
 | 0=>c
 | n+1=>cP l c n+3+3 * ((rd_T83 l (n:Int)).f3.length:Int)
noncomputable def gP (s:Int) (n:Nat):S83:=⟨mt s,s+1,s+2,marksN n (s+3)⟩
noncomputable def marksP (l:List S83) (c:Int):List S83:=(List.range l.length).map fun (j:Nat)=>gP (cP l c j) (rd_T83 l (j:Int)).f3.length
theorem cP_le (l:List S83) (c:Int) (hi:∀ i:Int,0≤i→i<(l.length:Int)→((rd_T83 l i).f3.length:Int)≤9000000) (n:Nat) (hn:n≤l.length):c≤cP l c n∧cP l c n≤c+27000003 * (n:Int):=by
 induction n with
 | zero=>simp [cP]
 | succ n ih =>
  have h1:=ih (by omega)
  have h2:=hi (n:Int) (by omega) (by omega)
  simp only [cP]
  omega
theorem markP_ev (l:List S83) (c:Int) (h0:0≤c) (hc:c≤1000000000) (hl:l.length≤1048576) (hi:∀ i:Int,0≤i→i<(l.length:Int)→((rd_T83 l i).f3.length:Int)≤9000000) :
  Evt (fun k=>laws_markPartnerS.f k l c) (cP l c l.length,marksP l c):=by
 unfold laws_markPartnerS.f
 have h:=up_loop (l.length:Int) (fun k (s:List S83 × Int) i=>laws_markPartnerS.l0 k s.1 s.2 i) (fun i=>((List.range i.toNat).map (fun (j:Nat)=>gP (cP l c j) (rd_T83 l (j:Int)).f3.length)++l.drop i.toNat,cP l c i.toNat)) (fun _=>(cP l c l.length,marksP l c)) ?_ ?_ 0 (Int.le_refl _) (by omega)
 ·simpa [cP] using h
 ·intro i h1 hlt ih
  have hin:i.toNat<l.length:=by omega
  have hcs:=cP_le l c hi i.toNat (by omega)
  have hib:=hi i h1 hlt
  have hw:wrap64 (i+1)=i+1:=w64 (by omega) (by omega)
  have hcons:=List.drop_eq_getElem_cons hin
  have e:rd_T83 ((List.range i.toNat).map (fun (j:Nat)=>gP (cP l c j) (rd_T83 l (j:Int)).f3.length)++l.drop i.toNat) i=rd_T83 l i:=by
   unfold rd_T83
   rw [getD_at _ _ _ (by simp;omega),getD_at l _ _ (by omega),List.getElem_append_right (by simp)]
   simp
  have e2:((List.range i.toNat).map (fun (j:Nat)=>gP (cP l c j) (rd_T83 l (j:Int)).f3.length)++l.drop i.toNat).set i.toNat (gP (cP l c i.toNat) (rd_T83 l i).f3.length)=(List.range (i+1).toNat).map (fun (j:Nat)=>gP (cP l c j) (rd_T83 l (j:Int)).f3.length)++l.drop (i+1).toNat:=by
   rw [List.set_append_right _ _ (by simp),List.length_map,List.length_range,Nat.sub_self,hcons,List.set_cons_zero,show (i+1).toNat=i.toNat+1 by omega]
   rw [List.range_succ,List.map_append,List.append_assoc]
   congr 1
   all_goals rw [List.map_singleton,List.singleton_append,show ((i.toNat:Nat):Int)=i by omega]
  have e3:cP l c (i+1).toNat=cP l c i.toNat+3+3 * ((rd_T83 l i).f3.length:Int):=by
   rw [show (i+1).toNat=i.toNat+1 by omega]
   simp only [cP]
   rw [show ((i.toNat:Nat):Int)=i by omega]
  have w1:wrap64 (cP l c i.toNat+1)=cP l c i.toNat+1:=by rw [w64 (by omega) (by omega)]
  have w2:wrap64 (cP l c i.toNat+1+1)=cP l c i.toNat+2:=by rw [w64 (by omega) (by omega)];omega
  have w3:wrap64 (cP l c i.toNat+2+1)=cP l c i.toNat+3:=by rw [w64 (by omega) (by omega)];omega
  have hlen:(((List.range i.toNat).map (fun (j:Nat)=>gP (cP l c j) (rd_T83 l (j:Int)).f3.length)++l.drop i.toNat).length:Int)=(l.length:Int):=by simp;omega
  rw [← e2,e3] at ih
  simp only [laws_markPartnerS.l0,hw,w1,w2,w3,e,hlen]
  exact Evt.pos hlt (Evt.bind (mt_ev _ (by omega)) (Evt.pos h1 (Evt.bind (markN_ev _ _ (by omega) (by omega)) ih)))
 ·simp only [laws_markPartnerS.l0]
  exact Evt.neg (by simp) ((Evt.pure _).same (by simp [marksP]))
theorem heldN_ev (n:Nat) (c:Int) (h0:0≤c) (hc:c+3 * (n:Int)≤1000000000000000000):Evt (fun k=>laws_heldSeenS.f k (marksN n c) c) (c+3 * n):=by
 unfold laws_heldSeenS.f
 have hlen:(marksN n c).length=n:=by simp [marksN]
 refine held_loop n 3 c (fun k s i=>laws_heldSeenS.l0 k (marksN n c) s i) ?_ ?_
 ·intro i h1 hlt r hr
  have hw:wrap64 (i+1)=i+1:=w64 (by omega) (by omega)
  have w1:wrap64 (c+3 * i+1)=c+3 * i+1:=by rw [w64 (by omega) (by omega)]
  have w2:wrap64 (c+3 * i+1+1)=c+3 * i+2:=by rw [w64 (by omega) (by omega)];omega
  have w3:wrap64 (c+3 * i+2+1)=c+3 * i+3:=by rw [w64 (by omega) (by omega)];omega
  have e:rd_T155 (marksN n c) i=gN (c+3 * i):=by
   unfold rd_T155 marksN
   rw [at_map _ _ _ _ h1 hlt,show ((i.toNat:Nat):Int)=i by omega]
  simp only [laws_heldSeenS.l0,hw,w1,w2,w3,e,gN,hlen]
  exact Evt.pos hlt (Evt.pos h1 (Evt.pos (by simp) (Evt.pos (by simp) (Evt.pos (by simp) hr))))
 ·intro s
  simp only [laws_heldSeenS.l0,hlen]
  exact Evt.neg (by omega) (Evt.pure _)
theorem heldX_ev (n:Nat) (c:Int) (h0:0≤c) (hc:c+3 * (n:Int)≤1000000000000000000):Evt (fun k=>laws_heldCrossS.f k (marksX n c) c) (c+3 * n):=by
 unfold laws_heldCrossS.f
 have hlen:(marksX n c).length=n:=by simp [marksX]
 refine held_loop n 3 c (fun k s i=>laws_heldCrossS.l0 k (marksX n c) s i) ?_ ?_
 ·intro i h1 hlt r hr
  have hw:wrap64 (i+1)=i+1:=w64 (by omega) (by omega)
  have w1:wrap64 (c+3 * i+1)=c+3 * i+1:=by rw [w64 (by omega) (by omega)]
  have w2:wrap64 (c+3 * i+1+1)=c+3 * i+2:=by rw [w64 (by omega) (by omega)];omega
  have w3:wrap64 (c+3 * i+2+1)=c+3 * i+3:=by rw [w64 (by omega) (by omega)];omega
  have e:rd_T114 (marksX n c) i=gX (c+3 * i):=by
   unfold rd_T114 marksX
   rw [at_map _ _ _ _ h1 hlt,show ((i.toNat:Nat):Int)=i by omega]
  simp only [laws_heldCrossS.l0,hw,w1,w2,w3,e,gX,hlen]
  exact Evt.pos hlt (Evt.pos h1 (Evt.bind (mt_ev _ (by omega)) (Evt.pos (by simp) (Evt.bind (mt_ev _ (by omega)) (Evt.pos (by simp) (Evt.bind (mt_ev _ (by omega)) (Evt.pos (by simp) hr)))))))
 ·intro s
  simp only [laws_heldCrossS.l0,hlen]
  exact Evt.neg (by omega) (Evt.pure _)
theorem heldD_ev (n:Nat) (c:Int) (h0:0≤c) (hc:c+6 * (n:Int)≤1000000000000000000):Evt (fun k=>laws_heldDiffS.f k (marksD n c) c) (c+6 * n):=by
 unfold laws_heldDiffS.f
 have hlen:(marksD n c).length=n:=by simp [marksD]
 refine held_loop n 6 c (fun k s i=>laws_heldDiffS.l0 k (marksD n c) s i) ?_ ?_
 ·intro i h1 hlt r hr
  have hw:wrap64 (i+1)=i+1:=w64 (by omega) (by omega)
  have w1:wrap64 (c+6 * i+1)=c+6 * i+1:=by rw [w64 (by omega) (by omega)]
  have w2:wrap64 (c+6 * i+1+1)=c+6 * i+2:=by rw [w64 (by omega) (by omega)];omega
  have w3:wrap64 (c+6 * i+2+1)=c+6 * i+3:=by rw [w64 (by omega) (by omega)];omega
  have w4:wrap64 (c+6 * i+3+1)=c+6 * i+4:=by rw [w64 (by omega) (by omega)];omega
  have w5:wrap64 (c+6 * i+4+1)=c+6 * i+5:=by rw [w64 (by omega) (by omega)];omega
  have w6:wrap64 (c+6 * i+5+1)=c+6 * i+6:=by rw [w64 (by omega) (by omega)];omega
  have e:rd_T118 (marksD n c) i=gD (c+6 * i):=by
   unfold rd_T118 marksD
   rw [at_map _ _ _ _ h1 hlt,show ((i.toNat:Nat):Int)=i by omega]
  simp only [laws_heldDiffS.l0,hw,w1,w2,w3,w4,w5,w6,e,gD,hlen]
  exact Evt.pos hlt (Evt.pos h1 (Evt.pos (by simp) (Evt.bind (mt_ev _ (by omega)) (Evt.pos (by simp) (Evt.bind (mt_ev _ (by omega)) (Evt.pos (by simp) (Evt.pos (by simp) (Evt.bind (mt_ev _ (by omega)) (Evt.pos (by simp) (Evt.pos (by simp) hr))))))))))
 ·intro s
  simp only [laws_heldDiffS.l0,hlen]
  exact Evt.neg (by omega) (Evt.pure _)
theorem marksP_at (l:List S83) (c:Int) (i:Int) (h1:0≤i) (hlt:i<(l.length:Int)):rd_T83 (marksP l c) i=gP (cP l c i.toNat) (rd_T83 l i).f3.length:=by
 refine (show rd_T83 (marksP l c) i=((List.range l.length).map (fun (j:Nat)=>gP (cP l c j) (rd_T83 l (j:Int)).f3.length)).getD i.toNat z83 from rfl).trans ?_
 refine (at_map l.length (fun (j:Nat)=>gP (cP l c j) (rd_T83 l (j:Int)).f3.length) _ i h1 hlt).trans ?_
 show gP (cP l c i.toNat) (rd_T83 l ((i.toNat:Nat):Int)).f3.length=_
 rw [show ((i.toNat:Nat):Int)=i by omega]
theorem heldP_ev (l:List S83) (c:Int) (h0:0≤c) (hc:c≤1000000000) (hl:l.length≤1048576) (hi:∀ i:Int,0≤i→i<(l.length:Int)→((rd_T83 l i).f3.length:Int)≤9000000) :
  Evt (fun k=>laws_heldPartnerS.f k (marksP l c) c) (cP l c l.length):=by
 unfold laws_heldPartnerS.f
 have hlen:(marksP l c).length=l.length:=by simp [marksP]
 have h:=up_loop (l.length:Int) (fun k (s:Int) i=>laws_heldPartnerS.l0 k (marksP l c) s i) (fun i=>cP l c i.toNat) (fun _=>cP l c l.length) ?_ ?_ 0 (Int.le_refl _) (by omega)
 ·simpa [cP] using h
 ·intro i h1 hlt ih
  have hcs:=cP_le l c hi i.toNat (by omega)
  have hib:=hi i h1 hlt
  have hw:wrap64 (i+1)=i+1:=w64 (by omega) (by omega)
  have e3:cP l c (i+1).toNat=cP l c i.toNat+3+3 * ((rd_T83 l i).f3.length:Int):=by
   rw [show (i+1).toNat=i.toNat+1 by omega]
   simp only [cP]
   rw [show ((i.toNat:Nat):Int)=i by omega]
  have w1:wrap64 (cP l c i.toNat+1)=cP l c i.toNat+1:=by rw [w64 (by omega) (by omega)]
  have w2:wrap64 (cP l c i.toNat+1+1)=cP l c i.toNat+2:=by rw [w64 (by omega) (by omega)];omega
  have w3:wrap64 (cP l c i.toNat+2+1)=cP l c i.toNat+3:=by rw [w64 (by omega) (by omega)];omega
  rw [e3] at ih
  simp only [laws_heldPartnerS.l0,hw,w1,w2,w3,marksP_at l c i h1 hlt,gP,hlen]
  exact Evt.pos hlt (Evt.pos h1 (Evt.bind (mt_ev _ (by omega)) (Evt.pos (by simp) (Evt.pos (by simp) (Evt.pos (by simp) (Evt.bind (heldN_ev _ _ (by omega) (by omega)) (Evt.neg (by omega) ih)))))))
 ·simp only [laws_heldPartnerS.l0,hlen]
  exact Evt.neg (by omega) ((Evt.pure _).same (by simp))
theorem markH_ev (n:ByteArray) (d:Int) (p:List S83) (x:List S114) (s:List S152) (m:List S161) (f:List S118) (o:List S120)
  (hi:∀ i:Int,0≤i→i<(p.length:Int)→((rd_T83 p i).f3.length:Int)≤9000000) (lp:p.length≤1048576) (lx:x.length≤1048576) (ls:s.length≤1048576) (lm:m.length≤1048576) (lf:f.length≤1048576) (lo:o.length≤1048576) :
  ∃ (t:Int) (p':List S83) (x':List S114) (s':List S152) (m':List S161) (f':List S118) (o':List S120),0≤t∧Evt (fun k=>laws_markGate.f k n d p x s m f o 1) (t,p',x',s',m',f',o')∧Evt (fun k=>laws_heldGate.f k n d p' x' s' m' f' o' 1) t:=by
 have hc:=cP_le p 1 hi p.length (Nat.le_refl _)
 have hb (c:Int) (h0:0≤c) (h1:c+2 * (s.length:Int)+8 * (m.length:Int)≤1000000000000000000):Evt (fun k=>laws_markBook.f k s m c) (c+2 * (s.length:Int)+8 * (m.length:Int),marksK s.length c,marksL m.length (c+2 * (s.length:Int))):=by
  unfold laws_markBook.f
  exact Evt.bind (markK_ev s c h0 (by omega)) (Evt.bind (markL_ev m _ (by dsimp only;omega) (by dsimp only;omega)) (Evt.pure _))
 have hB (c:Int) (h0:0≤c) (h1:c+2 * (s.length:Int)+8 * (m.length:Int)≤1000000000000000000):Evt (fun k=>laws_heldBook.f k (marksK s.length c) (marksL m.length (c+2 * (s.length:Int))) c) (c+2 * (s.length:Int)+8 * (m.length:Int)):=by
  unfold laws_heldBook.f
  exact Evt.bind (heldK_ev s.length c h0 (by omega)) (Evt.neg (by omega) (Evt.bind (heldL_ev m.length _ (by omega) (by omega)) (Evt.neg (by omega) (Evt.pure _))))
 have hp:=markP_ev p 1 (by decide) (by decide) lp hi
 have hP:=heldP_ev p 1 (by decide) (by decide) lp hi
 generalize cP p 1 p.length=c1 at hc hp hP
 refine ⟨c1+3 * (x.length:Int)+2 * (s.length:Int)+8 * (m.length:Int)+6 * (f.length:Int)+5 * (o.length:Int),marksP p 1,marksX x.length c1,marksK s.length (c1+3 * (x.length:Int)),marksL m.length (c1+3 * (x.length:Int)+2 * (s.length:Int)),marksD f.length (c1+3 * (x.length:Int)+2 * (s.length:Int)+8 * (m.length:Int)),marksO o.length (c1+3 * (x.length:Int)+2 * (s.length:Int)+8 * (m.length:Int)+6 * (f.length:Int)),by omega,?_,?_⟩
 ·unfold laws_markGate.f
  exact Evt.bind hp (Evt.bind (markX_ev x c1 (by omega) (by omega)) (Evt.bind (hb _ (by dsimp only;omega) (by dsimp only;omega)) (Evt.bind (markD_ev f _ (by dsimp only;omega) (by dsimp only;omega)) (Evt.bind (markO_ev o _ (by dsimp only;omega) (by dsimp only;omega)) (Evt.pure _)))))
 ·unfold laws_heldGate.f
  exact Evt.bind hP (Evt.neg (by omega) (Evt.bind (heldX_ev x.length c1 (by omega) (by omega)) (Evt.neg (by omega) (Evt.bind (hB _ (by omega) (by omega)) (Evt.neg (by omega) (Evt.bind (heldD_ev f.length _ (by omega) (by omega)) (Evt.neg (by omega) (Evt.bind (heldO_ev o.length _ (by omega) (by omega)) (Evt.neg (by omega) (Evt.pure _))))))))))
end Go.Proofs.YtomoflpgdbjojaaGreat.QN
namespace Go.Proofs.YtomoflpgdbjojaaGreat.Pure
open Go.RowKit Go.Proofs.YtomoflpgdbjojaaGreat Go.Proofs.YtomoflpgdbjojaaGreat.QN Go.Proofs.YtomoflpgdbjojaaGreatW.PrintWords Go.Proofs.YtomoflpgdbjojaaGreat.Ev0
theorem FnExactGateNext:laws_FnExactGateNext.Pure:=by
 intro n d p x s m f o wn wd wp wx ws wm wf wo
 apply Evt.ex
 unfold laws_FnExactGateNext.f
 have hn:n.size≤2 ^ 63 - 1:=wn
 have h:okLG n p x s m f o:=⟨by omega,fun y hy=>okLP_of (wp.2 y hy),fun y hy=>okLX_of (wx.2 y hy),fun y hy=>okLK_of (ws.2 y hy),fun y hy=>okL_of (wm.2 y hy),fun y hy=>okLD_of (wf.2 y hy),fun y hy=>okLO_of (wo.2 y hy),wp.1,wx.1,ws.1,wm.1,wf.1,wo.1⟩
 obtain ⟨t,ht,hlen⟩:=szGate_ev n d p x s m f o h
 refine Evt.bind ht (Evt.ite (fun _=>Evt.pure true) (fun hn=>?_))
 have g:=hlen.resolve_left hn
 have hto:=toGate_ev n d p x s m f o g
 have hg:=okG_map n p x s m f o h g
 have hs:=specNext_ev _ d _ _ _ _ _ _ hg hg.lf
 have hi:=implNext_ev _ d _ _ _ _ _ _ hg hg.lf
 have he:=eqGate_refl n d _ _ _ _ _ _ hg
 obtain ⟨t2,p2,x2,s2,m2,f2,o2,t0,hG,_⟩:=markH_ev n d (p.map cvPart) (x.map cvCross) (s.map cvStock) (m.map cvLine) (f.map cvDiff) (o.map cvOut) (fun i h0 hlt=>(okP_at hg.qp i hlt h0).2) hg.lp hg.lx hg.ls hg.lm hg.lf hg.lo
 have hok:=nextDO_ok (gateB n d (p.map cvPart) (x.map cvCross) (s.map cvStock) (m.map cvLine) (f.map cvDiff) (o.map cvOut)) d (o.map cvOut) hg.qo hg.lo
 generalize nextDO (gateB n d (p.map cvPart) (x.map cvCross) (s.map cvStock) (m.map cvLine) (f.map cvDiff) (o.map cvOut)) d (o.map cvOut)=R at hs hi hok
 obtain ⟨d',o'⟩:=R
 have hg':okG n (p.map cvPart) (x.map cvCross) (s.map cvStock) (m.map cvLine) (f.map cvDiff) o':=⟨hg.qn,hg.qp,hg.qx,hg.qs,hg.qm,hok.1,hg.lp,hg.lx,hg.ls,hg.lm,hg.lf,hok.2⟩
 have hq:=eqGate_refl n d' _ _ _ _ _ _ hg'
 obtain ⟨v,p3,x3,s3,m3,f3,o3,v0,hm,hh⟩:=markH_ev n d' (p.map cvPart) (x.map cvCross) (s.map cvStock) (m.map cvLine) (f.map cvDiff) o' (fun i h0 hlt=>(okP_at hg.qp i hlt h0).2) hg.lp hg.lx hg.ls hg.lm hg.lf hok.2
 exact Evt.bind hto (Evt.bind hs (Evt.bind hto (Evt.bind hi (Evt.bind hq (Evt.pos rfl (Evt.bind hto (Evt.bind he (Evt.pos rfl (Evt.bind hG (Evt.neg (by dsimp only;omega) (Evt.bind hq (Evt.pos rfl (Evt.bind hm (Evt.bind hh (Evt.neg (by omega) (Evt.pos rfl (Evt.bind hto (Evt.bind hi (Evt.bind hq (Evt.pos rfl (Evt.bind hh (Evt.neg (by omega) (Evt.pos rfl (Evt.pure true))))))))))))))))))))))))
end Go.Proofs.YtomoflpgdbjojaaGreat.Pure
