import Derived.Test.YtapilmimgiaglaaGreatDoorKFnExactParcelIx28
set_option linter.unusedSimpArgs false
set_option linter.unusedVariables false
namespace Go.Proofs.YtapilmimgiaglaaGreatDoor.QX
open Go.RowKit Go.Proofs.bB.eH Go.Proofs.YtapilmimgiaglaaGreatDoor.Ev0
theorem WU {α:Type}(n:Nat)(l:List α)(hl:l.length=n)(c:Nat→Int)(g:Nat→α)(F:Nat→List α→Int→Int→Option (Int × List α))
  (step:∀ acc (j:Nat),j<n→acc.length=n→acc[j]? = l[j]? → ∀ r,aa (fun k=>F k (acc.set j (g j)) (c (j+1)) ((j:Int)+1)) r→aa (fun k=>F (k+1) acc (c j) (j:Int)) r)
  (stop:∀ acc s,acc.length=n→aa (fun k=>F (k+1) acc s (n:Int)) (s,acc)):aa (fun k=>F k l (c 0) 0) (c n,(List.range n).map g):=by
 have h:=qR (n:Int) (fun k (s:List α × Int) i=>F k s.1 s.2 i) (fun i=>((List.range i.toNat).map g++l.drop i.toNat,c i.toNat)) (fun _=>(c n,(List.range n).map g)) ?_ ?_ 0 (Int.le_refl _) om
 ·simpa using h
 ·intro i h0 hlt ih
  obtain ⟨j,rfl⟩:=Int.eq_ofNat_of_zero_le h0
  have hj:j<l.length:=by omega
  have e:(((List.range j).map g++l.drop j)).set j (g j)=(List.range (j+1)).map g++l.drop (j+1):=by
   rw [List.set_append_right _ _ (by simp),List.length_map,List.length_range,Nat.sub_self,List.drop_eq_getElem_cons hj,List.set_cons_zero,List.range_succ,List.map_append,List.append_assoc]
   rfl
  have ih':aa (fun k=>F k ((List.range (j+1)).map g++l.drop (j+1)) (c (j+1)) ((j:Int)+1)) (c n,(List.range n).map g):=ih
  rw [← e] at ih'
  refine step ((List.range j).map g++l.drop j) j om (by simp;omega) ?_ _ ih'
  rw [List.getElem?_append_right (by simp),List.length_map,List.length_range,Nat.sub_self,List.getElem?_drop,Nat.add_zero]
 ·refine (stop _ _ (by simp;omega)).same ?_
  have:l.drop n=[]:=by rw [← hl];exact List.drop_length
  simp [this]
theorem aa8 (n:Nat)(c:Nat→Int)(F:Nat→Int→Int→Option Int)
  (step:∀ j:Nat,j<n→∀ r,aa (fun k=>F k (c (j+1)) ((j:Int)+1)) r→aa (fun k=>F (k+1) (c j) (j:Int)) r)
  (stop:∀ s,aa (fun k=>F (k+1) s (n:Int)) s):aa (fun k=>F k (c 0) 0) (c n):=by
 have h:=qR (n:Int) (fun k (s:Int) i=>F k s i) (fun i=>c i.toNat) (fun _=>c n) ?_ ?_ 0 (Int.le_refl _) om
 ·exact h
 ·intro i h0 hlt ih
  obtain ⟨j,rfl⟩:=Int.eq_ofNat_of_zero_le h0
  exact step j om _ ih
 ·exact stop _
theorem Tp {α:Type}{l l':List α}{j:Nat}(z:α)(h:l[j]? = l'[j]?):l.getD j z=l'.getD j z:=by
 rw [List.getD_eq_getElem?_getD,List.getD_eq_getElem?_getD,h]
noncomputable def FQ (n:Nat)(c:Int):List ByteArray:=(List.range n).map fun (j:Nat)=>mt (c+1 * (j:Int))
theorem ayQ (n:Nat)(c:Int):(FQ n c).length=n:=by simp [FQ]
theorem ano (l:List ByteArray)(c:Int)(h0:0≤c)(hc:c+1 * (l.length:Int)≤1000000000000000000):aa (fun k=>tY.f k l c) (c+1 * l.length,FQ l.length c):=by
 unfold tY.f
 refine anq l.length l rfl 1 c mt (fun k acc s i=>tY.l0 k acc s i) ?_ ?_
 ·intro acc i h1 hlt hl r hr
  have hw:wrap64 (i+1)=i+1:=bP om om
  have w1:wrap64 (c+1 * i+1)=c+1 * i+1:=by rw [bP om om]
  simp only [tY.l0,hw,w1]
  exact aa.pos om (aa.bind (IQ _ om) (aa.pos h1 hr))
 ·intro acc s hl
  simp only [tY.l0]
  exact aa.neg om (aa.pure _)
theorem awm (n:Nat)(c:Int)(h0:0≤c)(hc:c+1 * (n:Int)≤1000000000000000000):aa (fun k=>wI.f k (FQ n c) c) (c+1 * n):=by
 unfold wI.f
 have hlen:=ayQ n c
 refine awn n 1 c (fun k s i=>wI.l0 k (FQ n c) s i) ?_ ?_
 ·intro i h1 hlt r hr
  have hw:wrap64 (i+1)=i+1:=bP om om
  have w1:wrap64 (c+1 * i+1)=c+1 * i+1:=by rw [bP om om]
  have e:bA ByteArray.empty (FQ n c) i=mt (c+1 * i):=by
   unfold bA FQ
   rw [atc _ _ _ _ h1 hlt,show ((i.toNat:Nat):Int)=i by omega]
  simp only [wI.l0,hw,w1,e,hlen]
  exact aa.pos hlt (aa.pos h1 (aa.bind (IQ _ om) (aa.pos (by simp) hr)))
 ·intro s
  simp only [wI.l0,hlen]
  exact aa.neg om (aa.pure _)
abbrev Bh:=bN
abbrev Bw:=bn
def cE (l:List Bh)(c:Int):Nat→Int
 | 0=>c
 | n+1=>cE l c n+1 * ((aK l (n:Int)).f0.length:Int)
noncomputable def gE (l:List Bh)(c:Int)(j:Nat):Bh:=⟨FQ (aK l (j:Int)).f0.length (cE l c j)⟩
noncomputable def IL (l:List Bh)(c:Int):List Bh:=(List.range l.length).map (gE l c)
def WA (l:List Bh):Prop:=l.length≤1000∧∀ j:Nat,j<l.length→(aK l (j:Int)).f0.length≤1000
theorem Zh (l:List Bh)(c:Int)(h:WA l)(n:Nat)(hn:n≤l.length):c≤cE l c n∧cE l c n≤c+1000 * (n:Int):=by
 induction n with
 | zero=>simp [cE]
 | succ n ih =>
  have h1:=ih om
  have h2:=h.2 n om
  simp only [cE]
  omega
theorem azF {l l':List Bh}{j:Nat}(h:l[j]? = l'[j]?):aK l (j:Int)=aK l' (j:Int):=Tp _ h
theorem azI {l l':List Bw}{j:Nat}(h:l[j]? = l'[j]?):av l (j:Int)=av l' (j:Int):=Tp _ h
theorem ayG (l:List Bh)(c:Int)(h:WA l)(h0:0≤c)(hc:c≤100000000000000000):aa (fun k=>wJ.f k l c) (cE l c l.length,IL l c):=by
 unfold wJ.f
 refine WU l.length l rfl (cE l c) (gE l c) (fun k acc s i=>wJ.l0 k acc s i) ?_ ?_
 ·intro acc j hj hl he r hr
  have b:=Zh l c h j om
  have h2:=h.2 j hj
  have h1:=h.1
  have hw:wrap64 ((j:Int)+1)=(j:Int)+1:=bP om om
  simp only [wJ.l0,hw,azF he,Int.toNat_natCast]
  exact aa.pos om (aa.pos om (aa.bind (ano _ (cE l c j) om om) hr))
 ·intro acc s hl
  simp only [wJ.l0]
  exact aa.neg om (aa.pure _)
def cG (l:List Bw)(c:Int):Nat→Int
 | 0=>c
 | n+1=>cE (av l (n:Int)).f1 (cG l c n+1) (av l (n:Int)).f1.length
noncomputable def gG (l:List Bw)(c:Int)(j:Nat):Bw:=⟨mt (cG l c j),IL (av l (j:Int)).f1 (cG l c j+1)⟩
noncomputable def IM (l:List Bw)(c:Int):List Bw:=(List.range l.length).map (gG l c)
def PT (l:List Bw):Prop:=l.length≤1000∧∀ j:Nat,j<l.length→WA (av l (j:Int)).f1
theorem Zi (l:List Bw)(c:Int)(h:PT l)(n:Nat)(hn:n≤l.length):c≤cG l c n∧cG l c n≤c+1000001 * (n:Int):=by
 induction n with
 | zero=>simp [cG]
 | succ n ih =>
  have h1:=ih om
  have h2:=h.2 n om
  have h3:=Zh (av l (n:Int)).f1 (cG l c n+1) h2 _ (Nat.le_refl _)
  have h4:=h2.1
  simp only [cG]
  omega
theorem ayH (l:List Bw)(c:Int)(h:PT l)(h0:0≤c)(hc:c≤10000000000000000):aa (fun k=>wM.f k l c) (cG l c l.length,IM l c):=by
 unfold wM.f
 refine WU l.length l rfl (cG l c) (gG l c) (fun k acc s i=>wM.l0 k acc s i) ?_ ?_
 ·intro acc j hj hl he r hr
  have b:=Zi l c h j om
  have h1:=h.1
  have hw:wrap64 ((j:Int)+1)=(j:Int)+1:=bP om om
  have hw2:wrap64 (cG l c j+1)=cG l c j+1:=bP om om
  simp only [wM.l0,hw,hw2,azI he,Int.toNat_natCast]
  exact aa.pos om (aa.bind (IQ _ om) (aa.pos om (aa.bind (ayG _ (cG l c j+1) (h.2 j hj) om om) hr)))
 ·intro acc s hl
  simp only [wM.l0]
  exact aa.neg om (aa.pure _)
theorem ayN (l:List Bh)(c:Int)(j:Nat)(hj:j<l.length):aK (IL l c) (j:Int)=gE l c j:=by
 unfold aK IL
 rw [Int.toNat_natCast,getD_at _ _ _ (by simp;omega)]
 simp
theorem ayO (l:List Bw)(c:Int)(j:Nat)(hj:j<l.length):av (IM l c) (j:Int)=gG l c j:=by
 unfold av IM
 rw [Int.toNat_natCast,getD_at _ _ _ (by simp;omega)]
 simp
theorem awj (l:List Bh)(c:Int)(h:WA l)(h0:0≤c)(hc:c≤100000000000000000):aa (fun k=>wG.f k (IL l c) c) (cE l c l.length):=by
 unfold wG.f
 have hlen:(IL l c).length=l.length:=by simp [IL]
 refine aa8 l.length (cE l c) (fun k s i=>wG.l0 k (IL l c) s i) ?_ ?_
 ·intro j hj r hr
  have b:=Zh l c h j om
  have h2:=h.2 j hj
  have h1:=h.1
  have hw:wrap64 ((j:Int)+1)=(j:Int)+1:=bP om om
  simp only [wG.l0,hw,ayN l c j hj,gE,hlen]
  exact aa.pos om (aa.pos om (aa.bind (awm _ (cE l c j) om om) (aa.neg om hr)))
 ·intro s
  simp only [wG.l0,hlen]
  exact aa.neg om (aa.pure _)
theorem awk (l:List Bw)(c:Int)(h:PT l)(h0:0≤c)(hc:c≤10000000000000000):aa (fun k=>nV.f k (IM l c) c) (cG l c l.length):=by
 unfold nV.f
 have hlen:(IM l c).length=l.length:=by simp [IM]
 refine aa8 l.length (cG l c) (fun k s i=>nV.l0 k (IM l c) s i) ?_ ?_
 ·intro j hj r hr
  have b:=Zi l c h j om
  have h1:=h.1
  have h3:=Zh (av l (j:Int)).f1 (cG l c j+1) (h.2 j hj) _ (Nat.le_refl _)
  have hw:wrap64 ((j:Int)+1)=(j:Int)+1:=bP om om
  have hw2:wrap64 (cG l c j+1)=cG l c j+1:=bP om om
  simp only [nV.l0,hw,hw2,ayO l c j hj,gG,hlen]
  exact aa.pos om (aa.pos om (aa.bind (IQ _ om) (aa.pos rfl (aa.bind (awj _ (cG l c j+1) (h.2 j hj) om om) (aa.neg om hr)))))
 ·intro s
  simp only [nV.l0,hlen]
  exact aa.neg om (aa.pure _)
end Go.Proofs.YtapilmimgiaglaaGreatDoor.QX
namespace Go.Proofs.YtapilmimgiaglaaGreatDoor.QX
open Go.RowKit Go.Proofs.YtapilmimgiaglaaGreatDoor Go.Proofs.bB.eH Go.Proofs.YtapilmimgiaglaaGreatDoor.Ev0
abbrev LnX:=aZ
noncomputable def gJ (s:Int):LnX:=⟨s,mt (s+1),s+2,s+3,mt (s+4)⟩
noncomputable def anr (n:Nat)(c:Int):List LnX:=(List.range n).map fun (j:Nat)=>gJ (c+5 * (j:Int))
theorem ayI (l:List LnX)(c:Int)(h0:0≤c)(hc:c+5 * (l.length:Int)≤1000000000000000000):aa (fun k=>wK.f k l c) (c+5 * l.length,anr l.length c):=by
 unfold wK.f
 refine anq l.length l rfl 5 c gJ (fun k acc s i=>wK.l0 k acc s i) ?_ ?_
 ·intro acc i h1 hlt hl r hr
  have hw:wrap64 (i+1)=i+1:=bP om om
  have w1:wrap64 (c+5 * i+1)=c+5 * i+1:=bP om om
  have w2:wrap64 (c+5 * i+1+1)=c+5 * i+2:=by rw [bP om om];omega
  have w3:wrap64 (c+5 * i+2+1)=c+5 * i+3:=by rw [bP om om];omega
  have w4:wrap64 (c+5 * i+3+1)=c+5 * i+4:=by rw [bP om om];omega
  have w5:wrap64 (c+5 * i+4+1)=c+5 * i+5:=by rw [bP om om];omega
  simp only [wK.l0,hw,w1,w2,w3,w4,w5]
  exact aa.pos om (aa.pos h1 (aa.bind (IQ _ om) (aa.bind (IQ _ om) hr)))
 ·intro acc s hl
  simp only [wK.l0]
  exact aa.neg om (aa.pure _)
end Go.Proofs.YtapilmimgiaglaaGreatDoor.QX
namespace Go.Proofs.YtapilmimgiaglaaGreatDoor.QX
open Go.RowKit Go.Proofs.bB.eH Go.Proofs.YtapilmimgiaglaaGreatDoor.Ev0
abbrev Br:=iG
abbrev Bg:=dR
abbrev RI:=eT
def cM (l:List Br)(c:Int):Nat→Int
 | 0=>c
 | n+1=>cG (fJ l (n:Int)).f1 (cM l c n+1) (fJ l (n:Int)).f1.length
noncomputable def gM (l:List Br)(c:Int)(j:Nat):Br:=⟨cM l c j,IM (fJ l (j:Int)).f1 (cM l c j+1)⟩
noncomputable def IP (l:List Br)(c:Int):List Br:=(List.range l.length).map (gM l c)
def WB (l:List Br):Prop:=l.length≤1000∧∀ j:Nat,j<l.length→PT (fJ l (j:Int)).f1
theorem Zj (l:List Br)(c:Int)(h:WB l)(n:Nat)(hn:n≤l.length):c≤cM l c n∧cM l c n≤c+1000001001 * (n:Int):=by
 induction n with
 | zero=>simp [cM]
 | succ n ih =>
  have h1:=ih om
  have h2:=h.2 n om
  have h3:=Zi (fJ l (n:Int)).f1 (cM l c n+1) h2 _ (Nat.le_refl _)
  have h4:=h2.1
  simp only [cM]
  omega
theorem azG {l l':List Br}{j:Nat}(h:l[j]? = l'[j]?):fJ l (j:Int)=fJ l' (j:Int):=Tp _ h
theorem azE {l l':List Bg}{j:Nat}(h:l[j]? = l'[j]?):bf l (j:Int)=bf l' (j:Int):=Tp _ h
theorem azH {l l':List RI}{j:Nat}(h:l[j]? = l'[j]?):aG l (j:Int)=aG l' (j:Int):=Tp _ h
theorem ayJ (l:List Br)(c:Int)(h:WB l)(h0:0≤c)(hc:c≤5000000000000000):aa (fun k=>wL.f k l c) (cM l c l.length,IP l c):=by
 unfold wL.f
 refine WU l.length l rfl (cM l c) (gM l c) (fun k acc s i=>wL.l0 k acc s i) ?_ ?_
 ·intro acc j hj hl he r hr
  have b:=Zj l c h j om
  have h1:=h.1
  have hw:wrap64 ((j:Int)+1)=(j:Int)+1:=bP om om
  have hw2:wrap64 (cM l c j+1)=cM l c j+1:=bP om om
  simp only [wL.l0,hw,hw2,azG he,Int.toNat_natCast]
  exact aa.pos om (aa.pos om (aa.bind (ayH _ (cM l c j+1) (h.2 j hj) om om) hr))
 ·intro acc s hl
  simp only [wL.l0]
  exact aa.neg om (aa.pure _)
def cB (l:List Bg)(c:Int):Nat→Int
 | 0=>c
 | n+1=>cM (bf l (n:Int)).f2 (cB l c n+2) (bf l (n:Int)).f2.length
noncomputable def gB (l:List Bg)(c:Int)(j:Nat):Bg:=⟨cB l c j,cB l c j+1,IP (bf l (j:Int)).f2 (cB l c j+2)⟩
noncomputable def IK (l:List Bg)(c:Int):List Bg:=(List.range l.length).map (gB l c)
def smB (l:List Bg):Prop:=l.length≤1000∧∀ j:Nat,j<l.length→WB (bf l (j:Int)).f2
theorem adE (l:List Bg)(c:Int)(h:smB l)(n:Nat)(hn:n≤l.length):c≤cB l c n∧cB l c n≤c+1000001001002 * (n:Int):=by
 induction n with
 | zero=>simp [cB]
 | succ n ih =>
  have h1:=ih om
  have h2:=h.2 n om
  have h3:=Zj (bf l (n:Int)).f2 (cB l c n+2) h2 _ (Nat.le_refl _)
  have h4:=h2.1
  simp only [cB]
  omega
theorem ayF (l:List Bg)(h:smB l):aa (fun k=>vI.f k l 1) (cB l 1 l.length,IK l 1):=by
 unfold vI.f
 refine WU l.length l rfl (cB l 1) (gB l 1) (fun k acc s i=>vI.l0 k acc s i) ?_ ?_
 ·intro acc j hj hl he r hr
  have b:=adE l 1 h j om
  have h1:=h.1
  have hw:wrap64 ((j:Int)+1)=(j:Int)+1:=bP om om
  have hw2:wrap64 (cB l 1 j+1)=cB l 1 j+1:=bP om om
  have hw3:wrap64 (cB l 1 j+1+1)=cB l 1 j+2:=by rw [bP om om];omega
  simp only [vI.l0,hw,hw2,hw3,azE he,Int.toNat_natCast]
  exact aa.pos om (aa.pos om (aa.bind (ayJ _ (cB l 1 j+2) (h.2 j hj) om om) hr))
 ·intro acc s hl
  simp only [vI.l0]
  exact aa.neg om (aa.pure _)
theorem ayP (l:List Br)(c:Int)(j:Nat)(hj:j<l.length):fJ (IP l c) (j:Int)=gM l c j:=by
 unfold fJ IP
 rw [Int.toNat_natCast,getD_at _ _ _ (by simp;omega)]
 simp
theorem ayM (l:List Bg)(c:Int)(j:Nat)(hj:j<l.length):bf (IK l c) (j:Int)=gB l c j:=by
 unfold bf IK
 rw [Int.toNat_natCast,getD_at _ _ _ (by simp;omega)]
 simp
theorem awl (l:List Br)(c:Int)(h:WB l)(h0:0≤c)(hc:c≤5000000000000000):aa (fun k=>wH.f k (IP l c) c) (cM l c l.length):=by
 unfold wH.f
 have hlen:(IP l c).length=l.length:=by simp [IP]
 refine aa8 l.length (cM l c) (fun k s i=>wH.l0 k (IP l c) s i) ?_ ?_
 ·intro j hj r hr
  have b:=Zj l c h j om
  have h1:=h.1
  have h3:=Zi (fJ l (j:Int)).f1 (cM l c j+1) (h.2 j hj) _ (Nat.le_refl _)
  have hw:wrap64 ((j:Int)+1)=(j:Int)+1:=bP om om
  have hw2:wrap64 (cM l c j+1)=cM l c j+1:=bP om om
  simp only [wH.l0,hw,hw2,ayP l c j hj,gM,hlen]
  exact aa.pos om (aa.pos om (aa.pos trivial (aa.bind (awk _ (cM l c j+1) (h.2 j hj) om om) (aa.neg om hr))))
 ·intro s
  simp only [wH.l0,hlen]
  exact aa.neg om (aa.pure _)
theorem awi (l:List Bg)(h:smB l):aa (fun k=>wF.f k (IK l 1) 1) (cB l 1 l.length):=by
 unfold wF.f
 have hlen:(IK l 1).length=l.length:=by simp [IK]
 refine aa8 l.length (cB l 1) (fun k s i=>wF.l0 k (IK l 1) s i) ?_ ?_
 ·intro j hj r hr
  have b:=adE l 1 h j om
  have h1:=h.1
  have h3:=Zj (bf l (j:Int)).f2 (cB l 1 j+2) (h.2 j hj) _ (Nat.le_refl _)
  have hw:wrap64 ((j:Int)+1)=(j:Int)+1:=bP om om
  have hw2:wrap64 (cB l 1 j+1)=cB l 1 j+1:=bP om om
  have hw3:wrap64 (cB l 1 j+1+1)=cB l 1 j+2:=by rw [bP om om];omega
  simp only [wF.l0,hw,hw2,hw3,ayM l 1 j hj,gB,hlen]
  exact aa.pos om (aa.pos om (aa.pos trivial (aa.pos trivial (aa.bind (awl _ (cB l 1 j+2) (h.2 j hj) om om) (aa.neg om hr)))))
 ·intro s
  simp only [wF.l0,hlen]
  exact aa.neg om (aa.pure _)
def cP (l:List RI)(c:Int):Nat→Int
 | 0=>c
 | n+1=>cP l c n+4+1 * ((aG l (n:Int)).f4.length:Int)+5 * ((aG l (n:Int)).f5.length:Int)
theorem ayK (l:List RI)(hl:l.length≤1048576)(h:∀ j:Nat,j<l.length→(aG l (j:Int)).f4.length≤1048576∧(aG l (j:Int)).f5.length≤1048576):∃ (t:Int) (r:List RI),0≤t∧aa (fun k=>vJ.f k l 1) (t,r):=by
 have cle:∀ n:Nat,n≤l.length→1≤cP l 1 n∧cP l 1 n≤1+10000000 * (n:Int):=fun n hn=>by
  induction n with
  | zero=>simp [cP]
  | succ n ih =>
   have h1:=ih om
   have h2:=h n om
   simp only [cP]
   omega
 unfold vJ.f
 refine ⟨_,_,?_,WU l.length l rfl (cP l 1) (fun j=>(⟨cP l 1 j,mt (cP l 1 j+1),mt (cP l 1 j+2),cP l 1 j+3,FQ (aG l (j:Int)).f4.length (cP l 1 j+4),anr (aG l (j:Int)).f5.length (cP l 1 j+4+1 * ((aG l (j:Int)).f4.length:Int))⟩:RI)) (fun k acc s i=>vJ.l0 k acc s i) ?_ ?_⟩
 ·have:=cle l.length (Nat.le_refl _)
  omega
 ·intro acc j hj hla he r hr
  have b:=cle j om
  have h1:=h j hj
  have hw:wrap64 ((j:Int)+1)=(j:Int)+1:=bP om om
  have w1:wrap64 (cP l 1 j+1)=cP l 1 j+1:=bP om om
  have w2:wrap64 (cP l 1 j+1+1)=cP l 1 j+2:=by rw [bP om om];omega
  have w3:wrap64 (cP l 1 j+2+1)=cP l 1 j+3:=by rw [bP om om];omega
  have w4:wrap64 (cP l 1 j+3+1)=cP l 1 j+4:=by rw [bP om om];omega
  simp only [vJ.l0,hw,w1,w2,w3,w4,azH he,Int.toNat_natCast]
  exact aa.pos om (aa.pos om (aa.bind (IQ _ om) (aa.bind (IQ _ om) (aa.bind (ano _ (cP l 1 j+4) om om) (aa.bind (ayI _ (cP l 1 j+4+1 * ((aG l (j:Int)).f4.length:Int)) om om) hr)))))
 ·intro acc s hla
  simp only [vJ.l0]
  exact aa.neg om (aa.pure _)
end Go.Proofs.YtapilmimgiaglaaGreatDoor.QX
namespace Go.Proofs.YtapilmimgiaglaaGreatDoor.QX
open Go.RowKit Go.Proofs.bB.eH Go.Proofs.YtapilmimgiaglaaGreatDoor.Ev0 Go.Proofs.YtapilmimgiaglaaGreatDoor.Num
theorem Ww {α:Type}{l:List α}{z:α}{p:α→Prop}(h:∀ x ∈ l,p x)(j:Nat)(hj:j<l.length):p (l.getD ((j:Int)).toNat z):=by
 rw [Int.toNat_natCast,getD_at l _ _ hj]
 exact h _ (List.getElem_mem _)
theorem azZ {l:List bn}(h:l.length≤40)(hs:∀ s ∈ l,RS s):PT l:=⟨by omega,fun j hj=>Ww (p:=fun x=>WA x.f1) (fun x hx=>by
 obtain ⟨tag,ps,rfl,_,hl,_⟩:=hs x hx
 refine ⟨by simp [sg];omega,fun i hi=>Ww (p:=fun y=>y.f0.length≤1000) (fun y hy=>?_) i hi⟩
 obtain ⟨t,_,rfl⟩:=List.mem_map.1 hy
 simp [jL]) j hj⟩
theorem avE {l:List bn}(h:l.length≤40)(hs:∀ s ∈ l,RS s):EZ l:=⟨by omega,fun x hx=>by
 obtain ⟨tag,ps,rfl,_,hl,hg⟩:=hs x hx
 exact aaP _ _ om (fun t ht=>by have:=adZ (hg t ht);omega)⟩
theorem azY {l:List nk}(hl:l.length≤50)(h:∀ b ∈ l,mZ 50 b):smB l:=⟨by omega,fun j hj=>Ww (p:=fun x=>WB x.f2) (fun b hb=>by
 obtain ⟨_,_,_,h1,h2⟩:=h b hb
 exact ⟨by omega,fun i hi=>Ww (p:=fun y=>PT y.f1) (fun m hm=>azZ (h2 m hm).2.1 (h2 m hm).2.2) i hi⟩) j hj⟩
theorem avw (l:List NK)(hl:l.length≤50)(h:∀ m ∈ l,Ru m):aa (fun k=>nS.f k l l) true:=by
 unfold nS.f
 refine aa.pos rfl (BA (l.length:Int) om (fun k i=>nS.l0 k l l i) ?_ ?_)
 ·intro i h0 hlt ih
  have hw:wrap64 (i+1)=i+1:=bP om om
  have hm:Ru (fJ l i):=by
   unfold fJ
   rw [getD_at l _ _ om]
   exact h _ (List.getElem_mem _)
  simp only [nS.l0,Lx.f,hw]
  exact aa.pos hlt (aa.pos h0 (aa.pos hlt (aa.bind (a:=true) (aa.pos trivial (aa.bind (avr _ (avE hm.2.1 hm.2.2)) (aa.pos rfl (aa.pure _)))) (aa.pos rfl ih))))
 ·simp only [nS.l0]
  exact aa.neg om (aa.pure _)
theorem avt (s q:ByteArray)(n:Int)(l:List nk)(hl:l.length≤50)(h:∀ b ∈ l,mZ 50 b):aa (fun k=>Cx.f k s q n l s q n l) true:=by
 unfold Cx.f
 refine aa.pos rfl (aa.pos rfl (aa.pos rfl (aa.bind (a:=true) ?_ (aa.pos rfl (aa.pure _)))))
 unfold oD.f
 refine aa.pos rfl (BA (l.length:Int) om (fun k i=>oD.l0 k l l i) ?_ ?_)
 ·intro i h0 hlt ih
  have hw:wrap64 (i+1)=i+1:=bP om om
  have hm:mZ 50 (bf l i):=by
   unfold bf
   rw [getD_at l _ _ om]
   exact h _ (List.getElem_mem _)
  simp only [oD.l0,Lt.f,hw]
  exact aa.pos hlt (aa.pos h0 (aa.pos hlt (aa.bind (a:=true) (aa.pos trivial (aa.pos trivial (aa.bind (avw _ hm.2.2.2.1 hm.2.2.2.2) (aa.pos rfl (aa.pure _))))) (aa.pos rfl ih))))
 ·simp only [oD.l0]
  exact aa.neg om (aa.pure _)
theorem axY (s q:ByteArray)(n:Int)(P:List Bu)(hs:s.size≤1048576)(hq:q.size≤1048576)(hl:P.length≤1048576)(h:∀ x ∈ P,wT (pp x)):∃ (s' q':ByteArray) (n':Int) (l:List nk),aa (fun k=>FI.f k s q n P) (s',q',n',l)∧aa (fun k=>Ma.f k s q n P) (s',q',n',l)∧l.length≤50∧∀ b ∈ l,mZ 50 b:=by
 obtain ⟨b,hI,hS,hb⟩:=azj s q n P hs hq hl h
 unfold FI.f Ma.f
 cases b
 ·exact ⟨_,_,_,[],aa.bind hI (aa.neg (by simp) (aa.pure _)),aa.bind hS (aa.neg (by simp) (aa.pure _)),by simp,fun x hx=>by cases hx⟩
 ·obtain ⟨l,l1,l2,l3,l4⟩:=hb rfl
  unfold jm.f jq.f
  exact ⟨_,_,_,l,aa.bind hI (aa.pos rfl (aa.bind (aa.bind l1 (aa.pure _)) (aa.pure _))),aa.bind hS (aa.pos rfl (aa.bind (aa.bind l2 (aa.pure _)) (aa.pure _))),l3,l4⟩
end Go.Proofs.YtapilmimgiaglaaGreatDoor.QX
namespace Go.Proofs.YtapilmimgiaglaaGreatDoor.Pure
open Go.RowKit Go.Proofs.YtapilmimgiaglaaGreatDoor.QX Go.Proofs.bB.eH Go.Proofs.YtapilmimgiaglaaGreatDoor.Ev0
theorem FnExactParcelIx:IC.Pure:=by
 intro s q n l w0 w1 w2 w3
 apply aa.ex
 unfold IC.f
 have a0:s.size≤2 ^ 63 - 1:=w0
 have a1:q.size≤2 ^ 63 - 1:=w1
 have a3:l.length≤2 ^ 63 - 1:=w3.1
 obtain ⟨t,ht,h⟩:=az9 s q n l om om om w3.2
 refine aa.bind ht (aa.ite (fun _=>aa.pure true) (fun t0=>?_))
 obtain ⟨_,_,hs,hq,hl,hx⟩:=h.resolve_left t0
 have hto:aa (fun k=>zF.f k s q n l) (s,q,n,l.map xm):=by
  unfold zF.f
  exact aa.bind (aCn l hl hx) (aa.pure _)
 have heq:aa (fun k=>LA.f k s q n (l.map xm) s q n (l.map xm)) true:=by
  unfold LA.f
  exact aa.pos rfl (aa.pos rfl (aa.pos rfl (aa.bind (avy l hl hx) (aa.pos rfl (aa.pure _)))))
 obtain ⟨s',q',n',r,r1,r2,r3,r4⟩:=axY s q n (l.map xm) hs hq (by simp;omega) (fun x m=>by
  obtain ⟨y,hy,rfl⟩:=List.mem_map.1 m
  exact (hx y hy).2.2)
 have hI:=avt s' q' n' r r3 r4
 have hsm:=azY r3 r4
 obtain ⟨m,r5,m0,hm⟩:=ayK (l.map xm) (by simp;omega) (fun j hj=>Ww (p:=fun (x:eT)=>x.f4.length≤1048576∧x.f5.length≤1048576) (fun x hx'=>by
  obtain ⟨y,hy,rfl⟩:=List.mem_map.1 hx'
  exact ⟨(hx y hy).1,by simp only [xm,List.length_map];exact (hx y hy).2.1⟩) j hj)
 have hM:=ayF r hsm
 have hc:=adE r 1 hsm r.length (Nat.le_refl _)
 have hH:aa (fun k=>FP.f k s' q' n' (IK r 1) 1) (cB r 1 r.length):=by
  unfold FP.f
  exact aa.bind (awi r hsm) (aa.neg om (aa.pure _))
 exact aa.bind hto (aa.bind r2 (aa.bind hto (aa.bind r1 (aa.bind hI (aa.pos rfl (aa.bind hto (aa.bind heq (aa.pos rfl (aa.bind hm (aa.neg (by dsimp only;omega) (aa.bind hI (aa.pos rfl (aa.bind hM (aa.bind hH (aa.neg om (aa.pos rfl (aa.bind hto (aa.bind r1 (aa.bind hI (aa.pos rfl (aa.bind hH (aa.neg om (aa.pos rfl (aa.pure true))))))))))))))))))))))))
end Go.Proofs.YtapilmimgiaglaaGreatDoor.Pure
