-- Merged by a program of this session (wip/tool/pack.py) out of its own texts for this claim.
import Derived.Test.YtomoflpgdbjojaaGreatKFnExactGatePartner25
namespace Go.Proofs.YtomoflpgdbjojaaGreat.QO
open Go.RowKit Go.Proofs.YtomoflpgdbjojaaGreatW.PrintWords Go.Proofs.YtomoflpgdbjojaaGreat.Ev0
def gN (s:Int):S155:=⟨s,s+1,s+2⟩
def marksN (n:Nat) (c:Int):List S155:=(List.range n).map fun (j:Nat)=>gN (c+3 * (j:Int))
noncomputable def gX (s:Int):S114:=⟨mt s,mt (s+1),mt (s+2)⟩
noncomputable def marksX (n:Nat) (c:Int):List S114:=(List.range n).map fun (j:Nat)=>gX (c+3 * (j:Int))
noncomputable def gD (s:Int):S118:=⟨s,mt (s+1),mt (s+2),s+3,mt (s+4),s+5⟩
noncomputable def marksD (n:Nat) (c:Int):List S118:=(List.range n).map fun (j:Nat)=>gD (c+6 * (j:Int))
theorem rdN_set (l:List S155) (i:Int) (x:S155) (h0:0≤i) (h:i<(l.length:Int)):rd_T155 (l.set i.toNat x) i=x:=by
 unfold rd_T155
 rw [getD_at _ _ _ (by simp;omega)]
 simp
theorem rdX_set (l:List S114) (i:Int) (x:S114) (h0:0≤i) (h:i<(l.length:Int)):rd_T114 (l.set i.toNat x) i=x:=by
 unfold rd_T114
 rw [getD_at _ _ _ (by simp;omega)]
 simp
theorem rdD_set (l:List S118) (i:Int) (x:S118) (h0:0≤i) (h:i<(l.length:Int)):rd_T118 (l.set i.toNat x) i=x:=by
 unfold rd_T118
 rw [getD_at _ _ _ (by simp;omega)]
 simp
theorem markN_ev (l:List S155) (c:Int) (h0:0≤c) (hc:c+3 * (l.length:Int)≤1000000000000000000):Evt (fun k=>laws_markSeenS.f k l c) (c+3 * l.length,marksN l.length c):=by
 unfold laws_markSeenS.f
 refine mark_loop l.length l rfl 3 c gN (fun k acc s i=>laws_markSeenS.l0 k acc s i) ?_ ?_
 ·intro acc i h1 hlt hl r hr
  have hw:wrap64 (i+1)=i+1:=w64 (by omega) (by omega)
  have w1:wrap64 (c+3 * i+1)=c+3 * i+1:=by rw [w64 (by omega) (by omega)]
  have w2:wrap64 (c+3 * i+1+1)=c+3 * i+2:=by rw [w64 (by omega) (by omega)];omega
  have w3:wrap64 (c+3 * i+2+1)=c+3 * i+3:=by rw [w64 (by omega) (by omega)];omega
  simp only [laws_markSeenS.l0,hw,w1,w2,w3]
  refine Evt.pos (by omega) (Evt.pos h1 ?_)
  (try simp only [rdN_set _ i _ h1 (show i<(acc.length:Int) by omega),List.set_set])
  exact hr
 ·intro acc s hl
  simp only [laws_markSeenS.l0]
  exact Evt.neg (by omega) (Evt.pure _)
theorem markX_ev (l:List S114) (c:Int) (h0:0≤c) (hc:c+3 * (l.length:Int)≤1000000000000000000):Evt (fun k=>laws_markCrossS.f k l c) (c+3 * l.length,marksX l.length c):=by
 unfold laws_markCrossS.f
 refine mark_loop l.length l rfl 3 c gX (fun k acc s i=>laws_markCrossS.l0 k acc s i) ?_ ?_
 ·intro acc i h1 hlt hl r hr
  have hw:wrap64 (i+1)=i+1:=w64 (by omega) (by omega)
  have w1:wrap64 (c+3 * i+1)=c+3 * i+1:=by rw [w64 (by omega) (by omega)]
  have w2:wrap64 (c+3 * i+1+1)=c+3 * i+2:=by rw [w64 (by omega) (by omega)];omega
  have w3:wrap64 (c+3 * i+2+1)=c+3 * i+3:=by rw [w64 (by omega) (by omega)];omega
  simp only [laws_markCrossS.l0,hw,w1,w2,w3]
  refine Evt.pos (by omega) (Evt.bind (mt_ev _ (by omega)) (Evt.pos h1 (Evt.bind (mt_ev _ (by omega)) (Evt.bind (mt_ev _ (by omega)) ?_))))
  (try simp only [rdX_set _ i _ h1 (show i<(acc.length:Int) by omega),List.set_set])
  exact hr
 ·intro acc s hl
  simp only [laws_markCrossS.l0]
  exact Evt.neg (by omega) (Evt.pure _)
theorem markD_ev (l:List S118) (c:Int) (h0:0≤c) (hc:c+6 * (l.length:Int)≤1000000000000000000):Evt (fun k=>laws_markDiffS.f k l c) (c+6 * l.length,marksD l.length c):=by
 unfold laws_markDiffS.f
 refine mark_loop l.length l rfl 6 c gD (fun k acc s i=>laws_markDiffS.l0 k acc s i) ?_ ?_
 ·intro acc i h1 hlt hl r hr
  have hw:wrap64 (i+1)=i+1:=w64 (by omega) (by omega)
  have w1:wrap64 (c+6 * i+1)=c+6 * i+1:=by rw [w64 (by omega) (by omega)]
  have w2:wrap64 (c+6 * i+1+1)=c+6 * i+2:=by rw [w64 (by omega) (by omega)];omega
  have w3:wrap64 (c+6 * i+2+1)=c+6 * i+3:=by rw [w64 (by omega) (by omega)];omega
  have w4:wrap64 (c+6 * i+3+1)=c+6 * i+4:=by rw [w64 (by omega) (by omega)];omega
  have w5:wrap64 (c+6 * i+4+1)=c+6 * i+5:=by rw [w64 (by omega) (by omega)];omega
  have w6:wrap64 (c+6 * i+5+1)=c+6 * i+6:=by rw [w64 (by omega) (by omega)];omega
  simp only [laws_markDiffS.l0,hw,w1,w2,w3,w4,w5,w6]
  refine Evt.pos (by omega) (Evt.pos h1 (Evt.bind (mt_ev _ (by omega)) (Evt.bind (mt_ev _ (by omega)) (Evt.bind (mt_ev _ (by omega)) ?_))))
  (try simp only [rdD_set _ i _ h1 (show i<(acc.length:Int) by omega),List.set_set])
  exact hr
 ·intro acc s hl
  simp only [laws_markDiffS.l0]
  exact Evt.neg (by omega) (Evt.pure _)
def cP (l:List S83) (c:Int):Nat→Int
 | 0=>c
 | n+1=>cP l c n+3+3 * ((rd_T83 l (n:Int)).f3.length:Int)
noncomputable def gP (s:Int) (n:Nat):S83:=⟨mt s,s+1,s+2,marksN n (s+3)⟩
noncomputable def marksP (l:List S83) (c:Int):List S83:=(List.range l.length).map fun (j:Nat)=>gP (cP l c j) (rd_T83 l (j:Int)).f3.length
theorem cP_le (l:List S83) (c:Int) (hi:∀ i:Int,0≤i→i<(l.length:Int)→((rd_T83 l i).f3.length:Int)≤9000000) (n:Nat) (hn:n≤l.length):c≤cP l c n∧cP l c n≤c+27000003 * (n:Int):=by
 induction n with
 | zero=>simp [cP]
 | succ n ih =>
  have h1:=ih (by omega)
  have h2:=hi (n:Int) (by omega) (by omega)
  simp only [cP]
  omega
theorem markP_ev (l:List S83) (c:Int) (h0:0≤c) (hc:c≤1000000000) (hl:l.length≤1048576) (hi:∀ i:Int,0≤i→i<(l.length:Int)→((rd_T83 l i).f3.length:Int)≤9000000) :
  Evt (fun k=>laws_markPartnerS.f k l c) (cP l c l.length,marksP l c):=by
 unfold laws_markPartnerS.f
 have h:=up_loop (l.length:Int) (fun k (s:List S83 × Int) i=>laws_markPartnerS.l0 k s.1 s.2 i) (fun i=>((List.range i.toNat).map (fun (j:Nat)=>gP (cP l c j) (rd_T83 l (j:Int)).f3.length)++l.drop i.toNat,cP l c i.toNat)) (fun _=>(cP l c l.length,marksP l c)) ?_ ?_ 0 (Int.le_refl _) (by omega)
 ·simpa [cP] using h
 ·intro i h1 hlt ih
  have hin:i.toNat<l.length:=by omega
  have hcs:=cP_le l c hi i.toNat (by omega)
  have hib:=hi i h1 hlt
  have hw:wrap64 (i+1)=i+1:=w64 (by omega) (by omega)
  have hcons:=List.drop_eq_getElem_cons hin
  have e:rd_T83 ((List.range i.toNat).map (fun (j:Nat)=>gP (cP l c j) (rd_T83 l (j:Int)).f3.length)++l.drop i.toNat) i=rd_T83 l i:=by
   unfold rd_T83
   rw [getD_at _ _ _ (by simp;omega),getD_at l _ _ (by omega),List.getElem_append_right (by simp)]
   simp
  have e2:((List.range i.toNat).map (fun (j:Nat)=>gP (cP l c j) (rd_T83 l (j:Int)).f3.length)++l.drop i.toNat).set i.toNat (gP (cP l c i.toNat) (rd_T83 l i).f3.length)=(List.range (i+1).toNat).map (fun (j:Nat)=>gP (cP l c j) (rd_T83 l (j:Int)).f3.length)++l.drop (i+1).toNat:=by
   rw [List.set_append_right _ _ (by simp),List.length_map,List.length_range,Nat.sub_self,hcons,List.set_cons_zero,show (i+1).toNat=i.toNat+1 by omega]
   rw [List.range_succ,List.map_append,List.append_assoc]
   congr 1
   all_goals rw [List.map_singleton,List.singleton_append,show ((i.toNat:Nat):Int)=i by omega]
  have e3:cP l c (i+1).toNat=cP l c i.toNat+3+3 * ((rd_T83 l i).f3.length:Int):=by
   rw [show (i+1).toNat=i.toNat+1 by omega]
   simp only [cP]
   rw [show ((i.toNat:Nat):Int)=i by omega]
  have w1:wrap64 (cP l c i.toNat+1)=cP l c i.toNat+1:=by rw [w64 (by omega) (by omega)]
  have w2:wrap64 (cP l c i.toNat+1+1)=cP l c i.toNat+2:=by rw [w64 (by omega) (by omega)];omega
  have w3:wrap64 (cP l c i.toNat+2+1)=cP l c i.toNat+3:=by rw [w64 (by omega) (by omega)];omega
  have hlen:(((List.range i.toNat).map (fun (j:Nat)=>gP (cP l c j) (rd_T83 l (j:Int)).f3.length)++l.drop i.toNat).length:Int)=(l.length:Int):=by simp;omega
  rw [← e2,e3] at ih
  simp only [laws_markPartnerS.l0,hw,w1,w2,w3,e,hlen]
  exact Evt.pos hlt (Evt.bind (mt_ev _ (by omega)) (Evt.pos h1 (Evt.bind (markN_ev _ _ (by omega) (by omega)) ih)))
 ·simp only [laws_markPartnerS.l0]
  exact Evt.neg (by simp) ((Evt.pure _).same (by simp [marksP]))
theorem heldN_ev (n:Nat) (c:Int) (h0:0≤c) (hc:c+3 * (n:Int)≤1000000000000000000):Evt (fun k=>laws_heldSeenS.f k (marksN n c) c) (c+3 * n):=by
 unfold laws_heldSeenS.f
 have hlen:(marksN n c).length=n:=by simp [marksN]
 refine held_loop n 3 c (fun k s i=>laws_heldSeenS.l0 k (marksN n c) s i) ?_ ?_
 ·intro i h1 hlt r hr
  have hw:wrap64 (i+1)=i+1:=w64 (by omega) (by omega)
  have w1:wrap64 (c+3 * i+1)=c+3 * i+1:=by rw [w64 (by omega) (by omega)]
  have w2:wrap64 (c+3 * i+1+1)=c+3 * i+2:=by rw [w64 (by omega) (by omega)];omega
  have w3:wrap64 (c+3 * i+2+1)=c+3 * i+3:=by rw [w64 (by omega) (by omega)];omega
  have e:rd_T155 (marksN n c) i=gN (c+3 * i):=by
   unfold rd_T155 marksN
   rw [at_map _ _ _ _ h1 hlt,show ((i.toNat:Nat):Int)=i by omega]
  simp only [laws_heldSeenS.l0,hw,w1,w2,w3,e,gN,hlen]
  exact Evt.pos hlt (Evt.pos h1 (Evt.pos (by simp) (Evt.pos (by simp) (Evt.pos (by simp) hr))))
 ·intro s
  simp only [laws_heldSeenS.l0,hlen]
  exact Evt.neg (by omega) (Evt.pure _)
theorem heldX_ev (n:Nat) (c:Int) (h0:0≤c) (hc:c+3 * (n:Int)≤1000000000000000000):Evt (fun k=>laws_heldCrossS.f k (marksX n c) c) (c+3 * n):=by
 unfold laws_heldCrossS.f
 have hlen:(marksX n c).length=n:=by simp [marksX]
 refine held_loop n 3 c (fun k s i=>laws_heldCrossS.l0 k (marksX n c) s i) ?_ ?_
 ·intro i h1 hlt r hr
  have hw:wrap64 (i+1)=i+1:=w64 (by omega) (by omega)
  have w1:wrap64 (c+3 * i+1)=c+3 * i+1:=by rw [w64 (by omega) (by omega)]
  have w2:wrap64 (c+3 * i+1+1)=c+3 * i+2:=by rw [w64 (by omega) (by omega)];omega
  have w3:wrap64 (c+3 * i+2+1)=c+3 * i+3:=by rw [w64 (by omega) (by omega)];omega
  have e:rd_T114 (marksX n c) i=gX (c+3 * i):=by
   unfold rd_T114 marksX
   rw [at_map _ _ _ _ h1 hlt,show ((i.toNat:Nat):Int)=i by omega]
  simp only [laws_heldCrossS.l0,hw,w1,w2,w3,e,gX,hlen]
  exact Evt.pos hlt (Evt.pos h1 (Evt.bind (mt_ev _ (by omega)) (Evt.pos (by simp) (Evt.bind (mt_ev _ (by omega)) (Evt.pos (by simp) (Evt.bind (mt_ev _ (by omega)) (Evt.pos (by simp) hr)))))))
 ·intro s
  simp only [laws_heldCrossS.l0,hlen]
  exact Evt.neg (by omega) (Evt.pure _)
theorem heldD_ev (n:Nat) (c:Int) (h0:0≤c) (hc:c+6 * (n:Int)≤1000000000000000000):Evt (fun k=>laws_heldDiffS.f k (marksD n c) c) (c+6 * n):=by
 unfold laws_heldDiffS.f
 have hlen:(marksD n c).length=n:=by simp [marksD]
 refine held_loop n 6 c (fun k s i=>laws_heldDiffS.l0 k (marksD n c) s i) ?_ ?_
 ·intro i h1 hlt r hr
  have hw:wrap64 (i+1)=i+1:=w64 (by omega) (by omega)
  have w1:wrap64 (c+6 * i+1)=c+6 * i+1:=by rw [w64 (by omega) (by omega)]
  have w2:wrap64 (c+6 * i+1+1)=c+6 * i+2:=by rw [w64 (by omega) (by omega)];omega
  have w3:wrap64 (c+6 * i+2+1)=c+6 * i+3:=by rw [w64 (by omega) (by omega)];omega
  have w4:wrap64 (c+6 * i+3+1)=c+6 * i+4:=by rw [w64 (by omega) (by omega)];omega
  have w5:wrap64 (c+6 * i+4+1)=c+6 * i+5:=by rw [w64 (by omega) (by omega)];omega
  have w6:wrap64 (c+6 * i+5+1)=c+6 * i+6:=by rw [w64 (by omega) (by omega)];omega
  have e:rd_T118 (marksD n c) i=gD (c+6 * i):=by
   unfold rd_T118 marksD
   rw [at_map _ _ _ _ h1 hlt,show ((i.toNat:Nat):Int)=i by omega]
  simp only [laws_heldDiffS.l0,hw,w1,w2,w3,w4,w5,w6,e,gD,hlen]
  exact Evt.pos hlt (Evt.pos h1 (Evt.pos (by simp) (Evt.bind (mt_ev _ (by omega)) (Evt.pos (by simp) (Evt.bind (mt_ev _ (by omega)) (Evt.pos (by simp) (Evt.pos (by simp) (Evt.bind (mt_ev _ (by omega)) (Evt.pos (by simp) (Evt.pos (by simp) hr))))))))))
 ·intro s
  simp only [laws_heldDiffS.l0,hlen]
  exact Evt.neg (by omega) (Evt.pure _)
theorem marksP_at (l:List S83) (c:Int) (i:Int) (h1:0≤i) (hlt:i<(l.length:Int)):rd_T83 (marksP l c) i=gP (cP l c i.toNat) (rd_T83 l i).f3.length:=by
 refine (show rd_T83 (marksP l c) i=((List.range l.length).map (fun (j:Nat)=>gP (cP l c j) (rd_T83 l (j:Int)).f3.length)).getD i.toNat z83 from rfl).trans ?_
 refine (at_map l.length (fun (j:Nat)=>gP (cP l c j) (rd_T83 l (j:Int)).f3.length) _ i h1 hlt).trans ?_
 show gP (cP l c i.toNat) (rd_T83 l ((i.toNat:Nat):Int)).f3.length=_
 rw [show ((i.toNat:Nat):Int)=i by omega]
theorem heldP_ev (l:List S83) (c:Int) (h0:0≤c) (hc:c≤1000000000) (hl:l.length≤1048576) (hi:∀ i:Int,0≤i→i<(l.length:Int)→((rd_T83 l i).f3.length:Int)≤9000000) :
  Evt (fun k=>laws_heldPartnerS.f k (marksP l c) c) (cP l c l.length):=by
 unfold laws_heldPartnerS.f
 have hlen:(marksP l c).length=l.length:=by simp [marksP]
 have h:=up_loop (l.length:Int) (fun k (s:Int) i=>laws_heldPartnerS.l0 k (marksP l c) s i) (fun i=>cP l c i.toNat) (fun _=>cP l c l.length) ?_ ?_ 0 (Int.le_refl _) (by omega)
 ·simpa [cP] using h
 ·intro i h1 hlt ih
  have hcs:=cP_le l c hi i.toNat (by omega)
  have hib:=hi i h1 hlt
  have hw:wrap64 (i+1)=i+1:=w64 (by omega) (by omega)
  have e3:cP l c (i+1).toNat=cP l c i.toNat+3+3 * ((rd_T83 l i).f3.length:Int):=by
   rw [show (i+1).toNat=i.toNat+1 by omega]
   simp only [cP]
   rw [show ((i.toNat:Nat):Int)=i by omega]
  have w1:wrap64 (cP l c i.toNat+1)=cP l c i.toNat+1:=by rw [w64 (by omega) (by omega)]
  have w2:wrap64 (cP l c i.toNat+1+1)=cP l c i.toNat+2:=by rw [w64 (by omega) (by omega)];omega
  have w3:wrap64 (cP l c i.toNat+2+1)=cP l c i.toNat+3:=by rw [w64 (by omega) (by omega)];omega
  rw [e3] at ih
  simp only [laws_heldPartnerS.l0,hw,w1,w2,w3,marksP_at l c i h1 hlt,gP,hlen]
  exact Evt.pos hlt (Evt.pos h1 (Evt.bind (mt_ev _ (by omega)) (Evt.pos (by simp) (Evt.pos (by simp) (Evt.pos (by simp) (Evt.bind (heldN_ev _ _ (by omega) (by omega)) (Evt.neg (by omega) ih)))))))
 ·simp only [laws_heldPartnerS.l0,hlen]
  exact Evt.neg (by omega) ((Evt.pure _).same (by simp))
theorem markH_ev (n:ByteArray) (d:Int) (p:List S83) (x:List S114) (s:List S152) (m:List S161) (f:List S118) (o:List S120)
  (hi:∀ i:Int,0≤i→i<(p.length:Int)→((rd_T83 p i).f3.length:Int)≤9000000) (lp:p.length≤1048576) (lx:x.length≤1048576) (ls:s.length≤1048576) (lm:m.length≤1048576) (lf:f.length≤1048576) (lo:o.length≤1048576) :
  ∃ (t:Int) (p':List S83) (x':List S114) (s':List S152) (m':List S161) (f':List S118) (o':List S120),0≤t∧Evt (fun k=>laws_markGate.f k n d p x s m f o 1) (t,p',x',s',m',f',o')∧Evt (fun k=>laws_heldGate.f k n d p' x' s' m' f' o' 1) t:=by
 have hc:=cP_le p 1 hi p.length (Nat.le_refl _)
 have hb (c:Int) (h0:0≤c) (h1:c+2 * (s.length:Int)+8 * (m.length:Int)≤1000000000000000000):Evt (fun k=>laws_markBook.f k s m c) (c+2 * (s.length:Int)+8 * (m.length:Int),marksK s.length c,marksL m.length (c+2 * (s.length:Int))):=by
  unfold laws_markBook.f
  exact Evt.bind (markK_ev s c h0 (by omega)) (Evt.bind (markL_ev m _ (by dsimp only;omega) (by dsimp only;omega)) (Evt.pure _))
 have hB (c:Int) (h0:0≤c) (h1:c+2 * (s.length:Int)+8 * (m.length:Int)≤1000000000000000000):Evt (fun k=>laws_heldBook.f k (marksK s.length c) (marksL m.length (c+2 * (s.length:Int))) c) (c+2 * (s.length:Int)+8 * (m.length:Int)):=by
  unfold laws_heldBook.f
  exact Evt.bind (heldK_ev s.length c h0 (by omega)) (Evt.neg (by omega) (Evt.bind (heldL_ev m.length _ (by omega) (by omega)) (Evt.neg (by omega) (Evt.pure _))))
 have hp:=markP_ev p 1 (by decide) (by decide) lp hi
 have hP:=heldP_ev p 1 (by decide) (by decide) lp hi
 generalize cP p 1 p.length=c1 at hc hp hP
 refine ⟨c1+3 * (x.length:Int)+2 * (s.length:Int)+8 * (m.length:Int)+6 * (f.length:Int)+5 * (o.length:Int),marksP p 1,marksX x.length c1,marksK s.length (c1+3 * (x.length:Int)),marksL m.length (c1+3 * (x.length:Int)+2 * (s.length:Int)),marksD f.length (c1+3 * (x.length:Int)+2 * (s.length:Int)+8 * (m.length:Int)),marksO o.length (c1+3 * (x.length:Int)+2 * (s.length:Int)+8 * (m.length:Int)+6 * (f.length:Int)),by omega,?_,?_⟩
 ·unfold laws_markGate.f
  exact Evt.bind hp (Evt.bind (markX_ev x c1 (by omega) (by omega)) (Evt.bind (hb _ (by dsimp only;omega) (by dsimp only;omega)) (Evt.bind (markD_ev f _ (by dsimp only;omega) (by dsimp only;omega)) (Evt.bind (markO_ev o _ (by dsimp only;omega) (by dsimp only;omega)) (Evt.pure _)))))
 ·unfold laws_heldGate.f
  exact Evt.bind hP (Evt.neg (by omega) (Evt.bind (heldX_ev x.length c1 (by omega) (by omega)) (Evt.neg (by omega) (Evt.bind (hB _ (by omega) (by omega)) (Evt.neg (by omega) (Evt.bind (heldD_ev f.length _ (by omega) (by omega)) (Evt.neg (by omega) (Evt.bind (heldO_ev o.length _ (by omega) (by omega)) (Evt.neg (by omega) (Evt.pure _))))))))))
end Go.Proofs.YtomoflpgdbjojaaGreat.QO
namespace Go.Proofs.YtomoflpgdbjojaaGreat.Pure
open Go.RowKit Go.Proofs.YtomoflpgdbjojaaGreat Go.Proofs.YtomoflpgdbjojaaGreat.QO Go.Proofs.YtomoflpgdbjojaaGreatW.PrintWords Go.Proofs.YtomoflpgdbjojaaGreat.Ev0
theorem FnExactGatePartner:laws_FnExactGatePartner.Pure:=by
 intro n d p x s m f o a wn wd wp wx ws wm wf wo wa
 apply Evt.ex
 unfold laws_FnExactGatePartner.f
 have hn:n.size≤2 ^ 63 - 1:=wn
 have ha:a.size≤2 ^ 63 - 1:=wa
 have h:okLG n p x s m f o:=⟨by omega,fun y hy=>okLP_of (wp.2 y hy),fun y hy=>okLX_of (wx.2 y hy),fun y hy=>okLK_of (ws.2 y hy),fun y hy=>okL_of (wm.2 y hy),fun y hy=>okLD_of (wf.2 y hy),fun y hy=>okLO_of (wo.2 y hy),wp.1,wx.1,ws.1,wm.1,wf.1,wo.1⟩
 obtain ⟨t,ht,hlen⟩:=szGate_ev n d p x s m f o h
 refine Evt.ite (fun _=>Evt.pure true) (fun _=>Evt.bind ht (Evt.ite (fun _=>Evt.pure true) (fun hn=>?_)))
 have g:=hlen.resolve_left hn
 have hto:=toGate_ev n d p x s m f o g
 have hg:=okG_map n p x s m f o h g
 have he:=eqGate_refl n d _ _ _ _ _ _ hg
 obtain ⟨t2,p2,x2,s2,m2,f2,o2,t0,hG,_⟩:=markH_ev n d (p.map cvPart) (x.map cvCross) (s.map cvStock) (m.map cvLine) (f.map cvDiff) (o.map cvOut) (fun i h0 hlt=>(okP_at hg.qp i hlt h0).2) hg.lp hg.lx hg.ls hg.lm hg.lf hg.lo
 obtain ⟨n',d',p',x',s',m',f',o',b,c1,c2,c3,c4,c5,hg',hs,hi⟩:=partner_both n d _ _ _ _ _ _ a hg (by omega)
 have hq:Evt (fun k=>laws_eqGateOut.f k n' d' p' x' s' m' f' o' b c1 c2 c3 c4 c5 n' d' p' x' s' m' f' o' b c1 c2 c3 c4 c5) true:=by
  unfold laws_eqGateOut.f
  exact Evt.bind (eqGate_refl n' d' _ _ _ _ _ _ hg') (Evt.pos rfl (Evt.pos rfl (Evt.pos rfl (Evt.pos rfl (Evt.pos rfl (Evt.pos rfl (Evt.pos rfl (Evt.pure _))))))))
 obtain ⟨v,p3,x3,s3,m3,f3,o3,v0,hm,hh'⟩:=markH_ev n' d' p' x' s' m' f' o' (fun i h0 hlt=>(okP_at hg'.qp i hlt h0).2) hg'.lp hg'.lx hg'.ls hg'.lm hg'.lf hg'.lo
 have hm':Evt (fun k=>laws_markGateOut.f k n' d' p' x' s' m' f' o' b c1 c2 c3 c4 c5 1) (v,p3,x3,s3,m3,f3,o3):=hm
 have hh:Evt (fun k=>laws_heldGateOut.f k n' d' p3 x3 s3 m3 f3 o3 b c1 c2 c3 c4 c5 1) v:=by
  unfold laws_heldGateOut.f
  exact Evt.bind hh' (Evt.neg (by omega) (Evt.pure _))
 exact Evt.bind hto (Evt.bind hs (Evt.bind hto (Evt.bind hi (Evt.bind hq (Evt.pos rfl (Evt.bind hto (Evt.bind he (Evt.pos rfl (Evt.bind hG (Evt.neg (by dsimp only;omega) (Evt.bind hq (Evt.pos rfl (Evt.bind hm' (Evt.bind hh (Evt.neg (by omega) (Evt.pos rfl (Evt.bind hto (Evt.bind hi (Evt.bind hq (Evt.pos rfl (Evt.bind hh (Evt.neg (by omega) (Evt.pos rfl (Evt.pure true))))))))))))))))))))))))
end Go.Proofs.YtomoflpgdbjojaaGreat.Pure
