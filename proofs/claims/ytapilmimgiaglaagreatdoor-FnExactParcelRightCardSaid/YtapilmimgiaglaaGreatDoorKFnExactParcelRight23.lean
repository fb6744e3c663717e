-- Merged by a program of this session (wip/tool/pack.py) out of its own texts for this claim.
import Derived.Lib.ParseIntBTie
import Derived.Lib.IndexMore
import Derived.Test.YtapilmimgiaglaaGreatDoorKFnExactParcelRight22
set_option linter.unusedVariables false
namespace Go.Proofs.YtapilmimgiaglaaGreatDoor.QA
open Go.RowKit Go.Proofs.bB.fA Go.Proofs.YtapilmimgiaglaaGreatDoor.Ev0 Go.Proofs.YtapilmimgiaglaaGreatDoor.Num
theorem Cu (s:ByteArray) (i:Int) (h0:0≤i) (h:i<(s.size:Int)):∃ c,s.data.toList[i.toNat]? = some c∧bt s i=(c.toNat:Int):=by
 have h':i.toNat<s.size:=by omega
 have h2:i.toNat<s.data.toList.length:=by rw [rP];exact h'
 refine ⟨s.data.toList[i.toNat],List.getElem?_eq_getElem h2,?_⟩
 rw [← gF s i h']
 simp only [Array.getElem_toList]
 rfl
theorem OW (s:ByteArray) (p:Int→Prop):(∀ i,0≤i→i<(s.size:Int)→p (bt s i)) ↔ ∀ c ∈ s.data.toList,p (c.toNat:Int):=by
 constructor
 ·intro h c hc
  obtain ⟨j,hj,rfl⟩:=List.mem_iff_getElem.1 hc
  have hj':j<s.size:=by rw [← rP];exact hj
  obtain ⟨c',h1,h2⟩:=Cu s (j:Int) (by omega) (by omega)
  rw [Int.toNat_natCast,List.getElem?_eq_getElem hj] at h1
  rw [Option.some.inj h1,← h2]
  exact h _ (by omega) (by omega)
 ·intro h i h0 h1
  obtain ⟨c,h2,h3⟩:=Cu s i h0 h1
  rw [h3]
  exact h c (List.mem_of_getElem? h2)
theorem Lp (s:ByteArray) (h:0<s.size) (b:UInt8):s.data.toList.head? = some b ↔ bt s 0=(b.toNat:Int):=by
 obtain ⟨c,h1,h2⟩:=Cu s 0 (by omega) (by omega)
 rw [h2,List.head?_eq_getElem?]
 rw [show ((0:Int).toNat)=0 from rfl] at h1
 rw [h1]
 constructor
 ·intro e;rw [Option.some.inj e]
 ·intro e
  congr 1
  exact UInt8.toNat_inj.1 (by omega)
theorem alp (s:ByteArray):(s.extract 1 s.size).data.toList=s.data.toList.tail:=by
 cases s with|mk x =>
 cases x with|mk l =>
 cases l with
 | nil=>simp [ByteArray.size]
 | cons a r=>simp [ByteArray.size]
theorem DC (s:ByteArray) (l:List UInt8):s.toList=l ↔ s.data.toList=l:=by rw [Lib.toList_data]
theorem Ac (s:ByteArray):s.data.toList=[] ↔ s.size=0:=by
 rw [← rP]
 exact List.eq_nil_iff_length_eq_zero
theorem VY (c:UInt8):lQ c ↔ 48≤(c.toNat:Int)∧(c.toNat:Int)≤57:=by unfold lQ;omega
theorem Pv (s:ByteArray):(s.size≠0∧bt s 0=45→iH s.data.toList=(s.extract 1 s.size).data.toList)∧(¬ (s.size≠0∧bt s 0=45)→iH s.data.toList=s.data.toList):=by
 unfold iH
 constructor
 ·rintro ⟨h0,h⟩
  rw [if_pos ((Lp s (by omega) 45).2 h),alp]
 ·intro h
  rw [if_neg]
  intro e
  have h0:s.size≠0:=fun z=>by rw [(Ac s).2 z] at e;cases e
  exact h ⟨h0,(Lp s (by omega) 45).1 e⟩
theorem aj9 (s d:ByteArray) (hd:(d.size:Int)≤9223372036854775807) (hdig:iH s.data.toList=d.data.toList) :
  aa (fun k=>kF.l0 k s d (d.size:Int) 0) (B (je s.data.toList)):=by
 refine (FP (d.size:Int) (by omega) (fun i=>48≤bt d i∧bt d i≤57) (d.size≠0∧(bt d 0≠48∨s.data.toList=[48])) (fun k i=>kF.l0 k s d (d.size:Int) i) ?_ ?_).same (jB ?_)
 ·intro i h0 hlt
  have hw:wrap64 (i+1)=i+1:=dN (by omega) (by omega)
  simp only [kF.l0,akg,Option.bind_some,hw]
  exact ⟨fun hk r hr=>aa.pos hlt (aa.pos h0 (aa.pos hlt (aa.pos (fC hk) hr))),fun hk=>aa.pos hlt (aa.pos h0 (aa.pos hlt (aa.neg (by rw [fK hk];decide) (aa.pure _))))⟩
 ·simp only [kF.l0]
  refine aa.neg (by omega) (aa.ite (fun h=>(aa.pure _).same (fK (fun x=>x.1 ((Ac d).1 ((DC d _).1 h)))).symm) (fun h=>?_))
  have hz:d.size≠0:=fun z=>h ((DC d _).2 ((Ac d).2 z))
  refine aa.pos (by omega) (aa.ite (fun h1=>(aa.pure _).same ?_) (fun h1=>(aa.pure _).same (fC ⟨hz,.inl h1⟩).symm))
  refine Hd ?_
  rw [beq_iff_eq,DC]
  exact ⟨fun e=>⟨hz,.inr e⟩,fun e=>e.2.resolve_left (fun x=>x h1)⟩
 ·unfold je
  rw [hdig]
  constructor
  ·rintro ⟨h1,h2,h3⟩
   refine ⟨fun e=>h2 ((Ac d).1 e),fun c hc=>(VY c).2 ((OW d (fun x=>48≤x∧x≤57)).1 h1 c hc),h3.imp (fun h e=>h ((Lp d (by omega) 48).1 e)) id⟩
  ·rintro ⟨h1,h2,h3⟩
   have hz:d.size≠0:=fun z=>h1 ((Ac d).2 z)
   exact ⟨(OW d (fun x=>48≤x∧x≤57)).2 (fun c hc=>(VY c).1 (h2 c hc)),hz,h3.imp (fun h e=>h ((Lp d (by omega) 48).2 e)) id⟩
theorem extract_size (s:ByteArray):((s.extract 1 s.size).size:Int)≤s.size:=by
 rw [← rP,alp,List.length_tail,rP]
 omega
theorem auM (s:ByteArray) (hs:(s.size:Int)≤9223372036854775807):aa (fun k=>kF.f k s) (B (je s.data.toList)):=by
 unfold kF.f
 have he:=extract_size s
 have no:¬ (s.size≠0∧bt s 0=45)→aa (fun k=>kF.j0 k s s false) (B (je s.data.toList)):=fun h=>by
  apply aa.succ
  simp only [kF.j0]
  refine aa.neg (by decide) ?_
  apply aa.succ
  simp only [kF.j1]
  exact aj9 s s hs ((Pv s).2 h)
 refine aa.ite (fun h=>no (fun x=>x.1 ((Ac s).1 ((DC s _).1 h)))) (fun h=>?_)
 have hz:s.size≠0:=fun z=>h ((DC s _).2 ((Ac s).2 z))
 refine aa.pos (by omega) ?_
 by_cases h1:bt s 0=45
 ·rw [show (bt s 0 == 45)=true by rw [h1];rfl]
  apply aa.succ
  simp only [kF.j0]
  refine aa.pos (by simp) (aa.pos (by omega) ?_)
  apply aa.succ
  simp only [kF.j1]
  exact aj9 s _ (by omega) ((Pv s).1 ⟨hz,h1⟩)
 ·rw [show (bt s 0 == 45)=false by simpa using h1]
  exact no (fun x=>h1 x.2)
theorem ay3 (l:List UInt8):∀ acc,(∀ c ∈ l,lQ c)→val acc l+1≤(acc+1) * 10 ^ l.length:=by
 induction l with
 | nil =>
  intro acc _
  show acc+1≤(acc+1) * 1
  omega
 | cons c r ih =>
  intro acc h
  have hc:=h c (List.mem_cons_self ..)
  have:=ih (acc * 10+(c.toNat - 48)) (fun x hx=>h x (List.mem_cons_of_mem _ hx))
  unfold lQ at hc
  have e:val acc (c :: r)=val (acc * 10+(c.toNat - 48)) r:=rfl
  rw [e,List.length_cons,Nat.pow_succ]
  refine Nat.le_trans this ?_
  have h2:acc * 10+(c.toNat - 48)+1≤(acc+1) * 10:=by omega
  calc (acc * 10+(c.toNat - 48)+1) * 10 ^ r.length≤((acc+1) * 10) * 10 ^ r.length:=Nat.mul_le_mul_right _ h2
   _=(acc+1) * (10 ^ r.length * 10):=by rw [Nat.mul_assoc,Nat.mul_comm 10]
theorem aly (l:List UInt8) (h:∀ c ∈ l,lQ c) (hl:l.length≤12):val 0 l<1000000000000:=by
 have h1:=ay3 l 0 h
 have h2:10 ^ l.length≤10 ^ 12:=Nat.pow_le_pow_right (by decide) hl
 omega
theorem awI (s d:ByteArray) (neg:Bool) (hd:d.size≤12) (post:List UInt8):∀ pre,d.data.toList=pre++post→(∀ c ∈ pre,lQ c) →
  ((∀ c ∈ post,lQ c)→∀ r,aa (fun k=>if neg=true then ((fw.f k (wrap64 (-(val 0 d.data.toList:Int)))).bind fun t139=>(some (wrap64 (-(val 0 d.data.toList:Int)),(t139.toList == s.toList)))) else ((fw.f k (val 0 d.data.toList:Int)).bind fun awU=>(some ((val 0 d.data.toList:Int),(awU.toList == s.toList))))) r→aa (fun k=>gL.l0 k s neg d (val 0 pre:Int) (pre.length:Int)) r) ∧
  (¬ (∀ c ∈ post,lQ c)→aa (fun k=>gL.l0 k s neg d (val 0 pre:Int) (pre.length:Int)) (0,false)):=by
 induction post with
 | nil =>
  intro pre hp hpre
  have hp':d.data.toList=pre:=by simpa using hp
  have hl:d.size=pre.length:=by rw [← rP,hp']
  refine ⟨fun _ r hr=>?_,fun h=>absurd (by simp) h⟩
  apply aa.succ
  simp only [gL.l0]
  refine aa.neg (by omega) ?_
  rw [hp'] at hr
  exact hr
 | cons c post ih =>
  intro pre hp hpre
  have hl:d.size=pre.length+(post.length+1):=by rw [← rP,hp];simp
  have hlt:(pre.length:Int)<(d.size:Int):=by omega
  obtain ⟨c',h1,h2⟩:=Cu d (pre.length:Int) (by omega) hlt
  have hc:c'=c:=by
   rw [hp,Int.toNat_natCast] at h1
   simpa using h1.symm
  subst hc
  have go:lQ c'→∀ r,aa (fun k=>gL.l0 k s neg d (val 0 (pre++[c']):Int) ((pre++[c']).length:Int)) r→aa (fun k=>gL.l0 k s neg d (val 0 pre:Int) (pre.length:Int)) r:=fun hg r hr=>by
   have hs:=aly pre hpre (by omega)
   have hg':=hg
   unfold lQ at hg'
   apply aa.succ
   simp only [gL.l0,h2]
   refine aa.pos hlt (aa.pos (by omega) (aa.neg (by omega) (aa.neg (by omega) ?_)))
   have e1:wrap64 (wrap64 (10 * (val 0 pre:Int))+(((c'.toNat:Int) - 48) % 256))=(val 0 (pre++[c']):Int):=by
    rw [adO,dN (x:=10 * (val 0 pre:Int)) (by omega) (by omega),dN (by omega) (by omega)]
    omega
   have e2:wrap64 ((pre.length:Int)+1)=((pre++[c']).length:Int):=by
    rw [dN (by omega) (by omega)]
    simp
   rw [e1,e2]
   exact hr
  refine ⟨fun h r hr=>?_,fun h=>?_⟩
  ·have hg:=h c' (List.mem_cons_self ..)
   exact go hg r ((ih (pre++[c']) (by rw [hp];simp) (fun x hx=>(List.mem_append.1 hx).elim (hpre x) (fun y=>by rw [List.mem_singleton.1 y];exact hg))).1 (fun x hx=>h x (List.mem_cons_of_mem _ hx)) r hr)
  ·by_cases hg:lQ c'
   ·exact go hg _ ((ih (pre++[c']) (by rw [hp];simp) (fun x hx=>(List.mem_append.1 hx).elim (hpre x) (fun y=>by rw [List.mem_singleton.1 y];exact hg))).2 (fun x=>h (fun y hy=>(List.mem_cons.1 hy).elim (fun e=>by rw [e];exact hg) (x y))))
   ·apply aa.succ
    simp only [gL.l0,h2]
    refine aa.pos hlt (aa.pos (by omega) ?_)
    by_cases g:(c'.toNat:Int)<48
    ·exact aa.pos g (aa.pure _)
    ·refine aa.neg g (aa.pos ?_ (aa.pure _))
     rw [VY] at hg
     omega
theorem acW (s:ByteArray) (hs:(s.size:Int)≤9223372036854775807):∃ v,aa (fun k=>gL.f k s) (v,B (je s.data.toList∧(iH s.data.toList).length≤12))∧(je s.data.toList→(iH s.data.toList).length≤12→v=iO s.data.toList):=by
 unfold gL.f
 have core:∀ (neg:Bool) (d:ByteArray),iH s.data.toList=d.data.toList→(neg=true ↔ s.data.toList.head? = some 45) →
   ∃ v,aa (fun k=>gL.j1 k s neg d) (v,B (je s.data.toList∧(iH s.data.toList).length≤12))∧(je s.data.toList→(iH s.data.toList).length≤12→v=iO s.data.toList):=fun neg d hdig hneg=>by
  have hdl:(iH s.data.toList).length=d.size:=by rw [hdig,rP]
  by_cases h1:d.size<1
  ·refine ⟨0,?_,fun h=>absurd ?_ h.1⟩
   ·apply aa.succ
    simp only [gL.j1]
    refine aa.pos (by omega) ?_
    apply aa.succ
    simp only [gL.j2]
    refine aa.pos (by simp) ((aa.pure _).same (congrArg _ (fK (fun h=>h.1.1 ?_)).symm))
    rw [hdig];exact (Ac d).2 (by omega)
   ·rw [hdig];exact (Ac d).2 (by omega)
  ·by_cases h2:12<d.size
   ·refine ⟨0,?_,fun _ h=>absurd h (by omega)⟩
    apply aa.succ
    simp only [gL.j1]
    refine aa.neg (by omega) ?_
    rw [decide_eq_true (show (d.size:Int)>12 by omega)]
    apply aa.succ
    simp only [gL.j2]
    exact aa.pos (by simp) ((aa.pure _).same (congrArg _ (fK (fun h=>by have:=h.2;omega)).symm))
   ·have head:∀ r,aa (fun k=>gL.l0 k s neg d 0 0) r→aa (fun k=>gL.j1 k s neg d) r:=fun r hr=>by
     apply aa.succ
     simp only [gL.j1]
     refine aa.neg (by omega) ?_
     rw [decide_eq_false (show ¬ (d.size:Int)>12 by omega)]
     apply aa.succ
     simp only [gL.j2]
     exact aa.neg (by decide) hr
    obtain ⟨l1,l2⟩:=awI s d neg (by omega) d.data.toList [] rfl (by simp)
    by_cases hd:∀ c ∈ d.data.toList,lQ c
    ·have hv:=aly d.data.toList hd (by rw [rP];omega)
     have hvT:iO s.data.toList=if neg=true then -(val 0 d.data.toList:Int) else (val 0 d.data.toList:Int):=by
      unfold iO
      rw [hdig]
      by_cases hn:neg=true
      ·rw [if_pos (hneg.1 hn),if_pos hn]
      ·rw [if_neg (fun e=>hn (hneg.2 e)),if_neg hn]
     have hB:∀ x:List UInt8,x=Lib.itoa (iO s.data.toList)→((bM x).toList == s.toList)=B (je s.data.toList∧(iH s.data.toList).length≤12):=fun x hx=>by
      refine Hd ?_
      rw [beq_iff_eq,Lib.toList_data,Lib.toList_data,show (bM x).data.toList=x by simp [bM],hx]
      exact ⟨fun e=>⟨auT _ (by rw [hdig];exact hd) e,by omega⟩,fun e=>akK _ e.1⟩
     refine ⟨iO s.data.toList,head _ (l1 hd _ ?_),fun _ _=>rfl⟩
     cases neg with
     | true =>
      rw [if_pos rfl] at hvT
      refine aa.pos (by simp) ?_
      rw [dN (by omega) (by omega)]
      refine aa.bind (MG _ (by omega) (by omega)) ((aa.pure _).same ?_)
      rw [hB _ (by rw [hvT]),hvT]
     | false =>
      rw [if_neg (by decide)] at hvT
      refine aa.neg (by decide) (aa.bind (MG _ (by omega) (by omega)) ((aa.pure _).same ?_))
      rw [hB _ (by rw [hvT]),hvT]
    ·exact ⟨0,head _ ((l2 hd).same (congrArg _ (fK (fun h=>hd (by have:=h.1.2.1;rwa [hdig] at this))).symm)),fun h=>absurd (by have:=h.2.1;rwa [hdig] at this) hd⟩
 by_cases hz:s.size=0
 ·obtain ⟨v,h1,h2⟩:=core false s ((Pv s).2 (fun x=>x.1 hz)) ⟨fun e=>(by cases e),fun e=>by rw [(Ac s).2 hz] at e;cases e⟩
  refine ⟨v,aa.neg (by omega) ?_,h2⟩
  apply aa.succ
  simp only [gL.j0]
  exact aa.neg (by decide) h1
 ·by_cases h0:bt s 0=45
  ·obtain ⟨v,h1,h2⟩:=core true _ ((Pv s).1 ⟨hz,h0⟩) ⟨fun _=>(Lp s (by omega) 45).2 h0,fun _=>rfl⟩
   refine ⟨v,aa.pos (by omega) (aa.pos (by omega) ?_),h2⟩
   rw [show (bt s 0 == 45)=true by rw [h0];rfl]
   apply aa.succ
   simp only [gL.j0]
   exact aa.pos (by simp) (aa.pos (by omega) h1)
  ·obtain ⟨v,h1,h2⟩:=core false s ((Pv s).2 (fun x=>h0 x.2)) ⟨fun e=>(by cases e),fun e=>absurd ((Lp s (by omega) 45).1 e) h0⟩
   refine ⟨v,aa.pos (by omega) (aa.pos (by omega) ?_),h2⟩
   rw [show (bt s 0 == 45)=false by simpa using h0]
   apply aa.succ
   simp only [gL.j0]
   exact aa.neg (by decide) h1
theorem ac3 (s:ByteArray) (hs:s.size≤281474976710656) (lo hi:Int) (h0 : -1000000000≤lo) (h1:hi≤1000000000) :
  ∃ v,aa (fun k=>mV.f k s lo hi) (v,B (je s.data.toList∧lo≤iO s.data.toList∧iO s.data.toList≤hi))∧(je s.data.toList∧lo≤iO s.data.toList∧iO s.data.toList≤hi→v=iO s.data.toList):=by
 unfold mV.f
 rw [Lib.parseIntB_64]
 have small:je s.data.toList→lo≤iO s.data.toList→iO s.data.toList≤hi→Lib.atoiAll s.data.toList=.ok (iO s.data.toList):=fun h g0 g1=>by
  refine avF _ h ?_
  unfold iO at g0 g1
  split at g0 <;> rename_i e
  ·rw [if_pos e] at g1;omega
  ·rw [if_neg e] at g1;omega
 cases ha:Lib.atoiAll s.data.toList with
 | ok v =>
  refine ⟨v,aa.pos hs (aa.bind (auM s (by omega)) ?_),fun h=>akQ _ h.1 v ha⟩
  by_cases hn:je s.data.toList
  ·have hv:=akQ _ hn v ha
   refine aa.pos (fC hn) ?_
   rw [yX,hv]
   exact (aa.pure _).same (congrArg _ (jB ⟨fun h=>⟨hn,h⟩,fun h=>h.2⟩))
  ·exact aa.neg (by rw [fK hn];decide) ((aa.pure _).same (congrArg _ (fK (fun h=>hn h.1)).symm))
 | «syntax»=>exact ⟨0,aa.pos hs ((aa.pure _).same (congrArg _ (fK (fun h=>by rw [small h.1 h.2.1 h.2.2] at ha;cases ha)).symm)),fun h=>by rw [small h.1 h.2.1 h.2.2] at ha;cases ha⟩
 | range=>exact ⟨_,aa.pos hs ((aa.pure _).same (congrArg _ (fK (fun h=>by rw [small h.1 h.2.1 h.2.2] at ha;cases ha)).symm)),fun h=>by rw [small h.1 h.2.1 h.2.2] at ha;cases ha⟩
end Go.Proofs.YtapilmimgiaglaaGreatDoor.QA
namespace Go.Proofs.YtapilmimgiaglaaGreatDoor.QA
open Go.RowKit Go.Proofs.bB.fA Go.Proofs.YtapilmimgiaglaaGreatDoor.Ev0
def okT (l:List ByteArray):Prop:=l.length≤9223372036854775807∧∀ x ∈ l,x.size≤9223372036854775807
def V7 (l:List ByteArray):Prop:=l.length≤1048576∧∀ x ∈ l,x.size≤1048576
theorem FM (l:List ByteArray) (i:Int) (h0:0≤i) (h:i<(l.length:Int)):aX ByteArray.empty l i ∈ l:=by
 unfold aX
 rw [getD_at l _ _ (by omega)]
 exact List.getElem_mem _
theorem Vg {α:Type} (l:List α) (z:α) (p:α→Prop) (h:∀ i:Int,0≤i→i<(l.length:Int)→p (l.getD i.toNat z)):∀ x ∈ l,p x:=by
 intro x hx
 obtain ⟨q,hq,rfl⟩:=List.mem_iff_getElem.1 hx
 have:=h (q:Int) (by omega) (by omega)
 rw [Int.toNat_natCast,getD_at l z _ hq] at this
 exact this
theorem awR (l:List ByteArray) (hl:okT l) (left:Int) (h0:0≤left) (h1:left≤1048576):Es (fun k=>uB.f k l left) left (V7 l):=by
 have key:=ady l.length hl.1 (fun i=>(aX ByteArray.empty l i).size≤1048576) (fun k=>uB.f k l left) (fun k s i=>uB.l0 k l s i) left h0 h1 (fun k=>rfl) ?_ ?_
 ·obtain ⟨t,ht,h⟩:=key
  exact ⟨t,ht,h.imp id (fun ⟨g0,g1,g2,g3⟩=>⟨g0,g1,g2,Vg l ByteArray.empty _ g3⟩)⟩
 ·intro s i h0 hlt hs0 hs1
  have hw:wrap64 (i+1)=i+1:=dN (by omega) (by have:=hl.1;omega)
  have hk:=hl.2 _ (FM l i h0 hlt)
  simp only [uB.l0,hw]
  rw [JS hs0 hs1 (by omega) (by omega)]
  by_cases g:s - ((aX ByteArray.empty l i).size:Int)<0
  ·exact .inl ⟨-1,by decide,aa.pos hlt (aa.pos h0 (aa.pos g (aa.pure _)))⟩
  ·exact .inr ⟨_,by omega,by omega,by omega,fun r hr=>aa.pos hlt (aa.pos h0 (aa.neg g hr))⟩
 ·intro s i hi
  simp only [uB.l0]
  exact aa.neg (by omega) (aa.pure _)
theorem ayU (l:List ByteArray) (hl:l.length≤1048576):aa (fun k=>rY.f k l) l:=by
 unfold rY.f
 refine aa.pos (by omega) (aa.pos (by omega) ?_)
 rw [Int.toNat_natCast]
 refine (aa9 l ByteArray.empty (⟨#[]⟩:ByteArray) id (fun k acc i=>rY.l0 k l acc i) ?_ ?_).same (List.map_id l)
 ·intro acc i h0 hlt ha r hr
  have hw:wrap64 (i+1)=i+1:=dN (by omega) (by omega)
  simp only [rY.l0,hw]
  exact aa.pos hlt (aa.pos h0 (aa.pos (by omega) hr))
 ·intro acc i hi
  simp only [rY.l0]
  exact aa.neg (by omega) (aa.pure _)
def Ba (l:List dw):Prop:=l.length≤1048576∧∀ x ∈ l,V7 x.f0
theorem ahv {l:List dw} (h:Ba l) (i:Int) (h0:0≤i) (hlt:i<(l.length:Int)):V7 (aH l i).f0:=by
 unfold aH
 rw [getD_at l _ _ (by omega)]
 exact h.2 _ (List.getElem_mem _)
theorem asu (l:List ByteArray) (hl:l.length≤9000000):aa (fun k=>uy.f k l l) true:=by
 unfold uy.f
 refine aa.pos rfl (G6 (l.length:Int) (by omega) (fun k i=>uy.l0 k l l i) ?_ ?_)
 ·intro i h0 hlt ih
  have hw:wrap64 (i+1)=i+1:=dN (by omega) (by omega)
  simp only [uy.l0,if_true,hw]
  exact aa.pos hlt (aa.pos h0 (aa.pos hlt ih))
 ·simp only [uy.l0]
  exact aa.neg (by omega) (aa.pure _)
theorem avz (l:List ByteArray) (hl:l.length≤1000):aa (fun k=>Dn.f k l) (B (∃ x ∈ l,(x.size:Int)>20000)):=by
 unfold Dn.f MW.f vE.f
 obtain ⟨r,hr,h⟩:=V8 (l.length:Int) (by omega) (fun i=>((aX ByteArray.empty l i).size:Int)>20000) (fun k i=>vE.l0 k l (l.length:Int) i) (by
   intro i h0 hlt
   have hw:wrap64 (i+1)=i+1:=dN (by omega) (by omega)
   simp only [vE.l0,Ms.f,Option.bind_some,hw]
   exact ⟨fun hp=>aa.pos hlt (aa.pos h0 (aa.pos hlt (aa.pos (decide_eq_true hp) (aa.pure _)))),fun hp r hr=>aa.pos hlt (aa.pos h0 (aa.pos hlt (aa.neg (by simpa using hp) hr)))⟩) (by
   simp only [vE.l0]
   exact aa.neg (by omega) (aa.pure _))
 have at_:∀ i:Int,0≤i→i<(l.length:Int)→aX ByteArray.empty l i ∈ l:=fun i h0 h1=>by
  unfold aX
  rw [getD_at l _ _ (by omega)]
  exact List.getElem_mem _
 refine aa.bind (aa.bind hr (aa.pure _)) ((aa.pure _).same ?_)
 rw [AZ]
 refine jB ⟨fun hg=>?_,fun ⟨x,hx,hg⟩=>?_⟩
 ·rcases h with ⟨h1,_⟩ | ⟨h1,h2,h3,_⟩
  ·omega
  ·exact ⟨_,at_ r h1 h2,h3⟩
 ·rcases h with ⟨h1,h2⟩ | ⟨h1,_⟩
  ·obtain ⟨i,hi,rfl⟩:=List.mem_iff_getElem.1 hx
   refine absurd ?_ (h2 i (by omega) (by omega))
   show ((aX ByteArray.empty l (i:Int)).size:Int)>20000
   unfold aX
   rw [Int.toNat_natCast,getD_at l _ _ hi]
   exact hg
  ·exact h1
theorem ac0 (s:ByteArray):aa (fun k=>Dn.f k [s]) (B ((s.size:Int)>20000)) :=
 (avz [s] (by simp)).same (jB ⟨fun ⟨x,hx,h⟩=>by rw [List.mem_singleton.1 hx] at h;exact h,fun h=>⟨s,by simp,h⟩⟩)
end Go.Proofs.YtapilmimgiaglaaGreatDoor.QA
namespace Go.Proofs.YtapilmimgiaglaaGreatDoor.QA
open Go.RowKit Go.Proofs.bB.fA Go.Proofs.YtapilmimgiaglaaGreatDoor.Ev0 Go.Proofs.YtapilmimgiaglaaGreatDoor.Num
theorem avG (t:List UInt8) (h:je t):iO t=0 ↔ t=[48]:=by
 constructor
 ·intro e
  have:=akK t h
  rw [e] at this
  rw [← this]
  unfold Lib.itoa
  rw [if_neg (by decide),show (0:Int).toNat=0 from rfl,Lib.decDigits,dif_pos (by decide)]
  rfl
 ·rintro rfl
  rfl
theorem ac2 (t:List UInt8) (h:je t) (g0 : -1000000000≤iO t) (g1:iO t≤1000000000):(iH t).length≤12:=by
 refine avE t h ?_
 unfold iO at g0 g1
 split at g0 <;> rename_i e
 ·rw [if_pos e] at g1;omega
 ·rw [if_neg e] at g1;omega
def xw (s:ByteArray):Prop:=(s.size:Int)≤40∧∀ i:Int,0≤i→i<(s.size:Int)→32≤bt s i∧bt s i≤126
theorem acQ (s:ByteArray) (hs:(s.size:Int)≤9223372036854775806):aa (fun k=>Dm.f k s) (B (xw s)):=by
 unfold Dm.f vw.f
 refine ap9 Iff.rfl (fun h=>?_)
 refine (aa.bind (FP (s.size:Int) (by omega) (fun i=>32≤bt s i∧bt s i≤126) True (fun k i=>vw.l0 k s (s.size:Int) i) ?_ ?_) (aa.pure _)).same (jB ⟨fun x=>x.1,fun x=>⟨x,trivial⟩⟩)
 ·intro i h0 hlt
  have hw:wrap64 (i+1)=i+1:=dN (by omega) (by omega)
  simp only [vw.l0,hw]
  refine ⟨fun hk r hr=>aa.pos hlt (aa.pos h0 (aa.pos hlt (aa.neg (by omega) (aa.neg (by omega) hr)))),fun hk=>aa.pos hlt (aa.pos h0 (aa.pos hlt (aa.ite (fun _=>aa.pure _) (fun _=>aa.pos (by omega) (aa.pure _)))))⟩
 ·simp only [vw.l0]
  exact aa.neg (by omega) ((aa.pure _).same (fC trivial).symm)
theorem ak9 (s:ByteArray) (hs:(s.size:Int)≤9223372036854775806):aa (fun k=>rq.f k s) (B (xw s)):=by
 unfold rq.f
 refine asx (by omega) (fun h=>?_)
 refine (FP (s.size:Int) (by omega) (fun i=>32≤bt s i∧bt s i≤126) True (fun k i=>rq.l0 k s i) ?_ ?_).same (jB ⟨fun x=>x.1,fun x=>⟨x,trivial⟩⟩)
 ·intro i h0 hlt
  have hw:wrap64 (i+1)=i+1:=dN (by omega) (by omega)
  simp only [rq.l0,hw]
  refine ⟨fun hk r hr=>aa.pos hlt (aa.pos h0 (aa.neg (by omega) (aa.neg (by omega) hr))),fun hk=>aa.pos hlt (aa.pos h0 (aa.ite (fun _=>aa.pure _) (fun _=>aa.pos (by omega) (aa.pure _))))⟩
 ·simp only [rq.l0]
  exact aa.neg (by omega) ((aa.pure _).same (fC trivial).symm)
def okF (c:Int):Prop:=c=114∨c=110∨c=113∨c=122∨c=100∨c=116
theorem avh (n:Int):FT.f n=some (B (0≤n∧n≤100000)):=by
 unfold FT.f
 by_cases h:n≥0
 ·rw [if_pos h,AZ]
  exact congrArg some (jB ⟨fun x=>⟨h,x⟩,fun x=>x.2⟩)
 ·rw [if_neg h,fK (fun x=>h x.1)]
theorem arV (c : Int) (hc : okF c) (l : List ByteArray) (hl : (l.length : Int) = 1) (hs : (aX ByteArray.empty l 0).size ≤ 1048576) :
    ∃ b, aa (fun k => yT.f k c l) b ∧ aa (fun k => qz.f k c (aX ByteArray.empty l 0)) b := by
  generalize hg : aX ByteArray.empty l 0 = s at hs
  obtain ⟨v, hv, hvT⟩ := acW s (by omega)
  have start : ∀ b, aa (fun k => if c = 114 then ((jf.f k s).bind fun t145 => (some t145)) else (if c = 110 then (if (v, B (je s.data.toList ∧ (iH s.data.toList).length ≤ 12)).2 = true then (if (v, B (je s.data.toList ∧ (iH s.data.toList).length ≤ 12)).1 ≥ 0 then (some (decide ((v, B (je s.data.toList ∧ (iH s.data.toList).length ≤ 12)).1 ≤ 1000000000))) else (some false)) else (some false)) else (if c = 113 then (if (v, B (je s.data.toList ∧ (iH s.data.toList).length ≤ 12)).2 = true then ((FU.f (v, B (je s.data.toList ∧ (iH s.data.toList).length ≤ 12)).1).bind fun t146 => (some t146)) else (some false)) else (if c = 122 then (if (v, B (je s.data.toList ∧ (iH s.data.toList).length ≤ 12)).2 = true then (if (v, B (je s.data.toList ∧ (iH s.data.toList).length ≤ 12)).1 ≥ (-1000000) then (if (v, B (je s.data.toList ∧ (iH s.data.toList).length ≤ 12)).1 ≤ 1000000 then (some ((v, B (je s.data.toList ∧ (iH s.data.toList).length ≤ 12)).1 != 0)) else (some false)) else (some false)) else (some false)) else (if c = 100 then (if (v, B (je s.data.toList ∧ (iH s.data.toList).length ≤ 12)).2 = true then ((FT.f (v, B (je s.data.toList ∧ (iH s.data.toList).length ≤ 12)).1).bind fun adz => (some adz)) else (some false)) else (if s.toList = ([] : List UInt8) then (some false) else ((rq.f k s).bind fun t148 => (some t148)))))))) b → aa (fun k => yT.f k c l) b := fun b hb => by
    unfold yT.f
    rw [hg]
    exact aa.pos hl (aa.pos (by omega) (aa.bind hv hb))
  -- the numbers: one bound from below, one from above
  have num : ∀ lo hi : Int, -1000000000 ≤ lo → hi ≤ 1000000000 → ∃ w, aa (fun k => mV.f k s lo hi) (w, B ((je s.data.toList ∧ (iH s.data.toList).length ≤ 12) ∧ lo ≤ v ∧ v ≤ hi)) := fun lo hi h0 h1 => by
    obtain ⟨w, hw, _⟩ := ac3 s (by omega) lo hi h0 h1
    refine ⟨w, hw.same (congrArg _ (jB ⟨fun h => ?_, fun h => ?_⟩))⟩
    · have h12 := ac2 _ h.1 (by omega) (by omega)
      rw [hvT h.1 h12]
      exact ⟨⟨h.1, h12⟩, h.2⟩
    · have e := hvT h.1.1 h.1.2
      rw [e] at h
      exact ⟨h.1.1, h.2⟩
  have no : ∀ q : Prop, ¬ (je s.data.toList ∧ (iH s.data.toList).length ≤ 12) → false = B ((je s.data.toList ∧ (iH s.data.toList).length ≤ 12) ∧ q) := fun q hn => (fK (fun x => hn x.1)).symm
  rcases hc with rfl | rfl | rfl | rfl | rfl | rfl
  · refine ⟨MI s, start _ (aa.pos rfl (aa.bind (adx s (by omega)) (aa.pure _))), ?_⟩
    unfold qz.f
    exact aa.pos rfl (aa.bind (Xd s (by omega)) (aa.pure _))
  · obtain ⟨w, hw⟩ := num 0 1000000000 (by decide) (by decide)
    refine ⟨B ((je s.data.toList ∧ (iH s.data.toList).length ≤ 12) ∧ 0 ≤ v ∧ v ≤ 1000000000), start _ (aa.neg (by decide) (aa.pos rfl (aa.ite (fun h => ?_) (fun h => (aa.pure _).same (no _ (fun x => h (fC x))))))), ?_⟩
    rotate_left
    · unfold qz.f
      exact aa.neg (by decide) (aa.pos rfl (aa.bind hw (aa.pure _)))
    · have h' := Ef.1 h
      exact aa.ite (fun h1 => (aa.pure _).same ((AZ _).trans (jB ⟨fun x => ⟨h', h1, x⟩, fun x => x.2.2⟩))) (fun h1 => (aa.pure _).same (fK (fun x => h1 x.2.1)).symm)
  · obtain ⟨w, hw⟩ := num 1 1000000 (by decide) (by decide)
    refine ⟨B ((je s.data.toList ∧ (iH s.data.toList).length ≤ 12) ∧ 1 ≤ v ∧ v ≤ 1000000), start _ (aa.neg (by decide) (aa.neg (by decide) (aa.pos rfl (aa.ite (fun h => ?_) (fun h => (aa.pure _).same (no _ (fun x => h (fC x)))))))), ?_⟩
    rotate_left
    · unfold qz.f
      exact aa.neg (by decide) (aa.neg (by decide) (aa.pos rfl (aa.bind hw (aa.pure _))))
    · have h' := Ef.1 h
      simp only [avk, Option.bind_some]
      exact (aa.pure _).same (jB ⟨fun x => ⟨h', x⟩, fun x => x.2⟩)
  · obtain ⟨w, hw⟩ := num (-1000000) 1000000 (by decide) (by decide)
    by_cases h : je s.data.toList ∧ (iH s.data.toList).length ≤ 12
    · have e := hvT h.1 h.2
      have hz : (v != 0) = (s.toList != ([48] : List UInt8)) := by
        have hnz := avG _ h.1
        rw [← e] at hnz
        by_cases z : v = 0
        · rw [show (v != 0) = false by simp [z], show (s.toList != ([48] : List UInt8)) = false by simp [(DC s _).2 (hnz.1 z)]]
        · rw [show (v != 0) = true by simp [z], show (s.toList != ([48] : List UInt8)) = true by simp only [bne_iff_ne, ne_eq]; exact fun x => z (hnz.2 ((DC s _).1 x))]
      by_cases g : -1000000 ≤ v ∧ v ≤ 1000000
      · refine ⟨v != 0, start _ (aa.neg (by decide) (aa.neg (by decide) (aa.neg (by decide) (aa.pos rfl (aa.pos (fC h) (aa.pos g.1 (aa.pos g.2 (aa.pure _)))))))), ?_⟩
        unfold qz.f
        refine aa.neg (by decide) (aa.neg (by decide) (aa.neg (by decide) (aa.pos rfl (aa.bind hw (aa.pos (fC ⟨h, g⟩) ((aa.pure _).same hz.symm))))))
      · refine ⟨false, start _ (aa.neg (by decide) (aa.neg (by decide) (aa.neg (by decide) (aa.pos rfl (aa.pos (fC h) (aa.ite (fun g1 => aa.neg (fun g2 => g ⟨g1, g2⟩) (aa.pure _)) (fun _ => aa.pure _))))))), ?_⟩
        unfold qz.f
        refine aa.neg (by decide) (aa.neg (by decide) (aa.neg (by decide) (aa.pos rfl (aa.bind hw (aa.neg (by rw [fK (fun x => g x.2)]; exact Bool.false_ne_true) (aa.pure _))))))
    · refine ⟨false, start _ (aa.neg (by decide) (aa.neg (by decide) (aa.neg (by decide) (aa.pos rfl (aa.neg (by rw [fK h]; exact Bool.false_ne_true) (aa.pure _)))))), ?_⟩
      unfold qz.f
      refine aa.neg (by decide) (aa.neg (by decide) (aa.neg (by decide) (aa.pos rfl (aa.bind hw (aa.neg (by rw [← no _ h]; exact Bool.false_ne_true) (aa.pure _))))))
  · obtain ⟨w, hw⟩ := num 0 100000 (by decide) (by decide)
    refine ⟨B ((je s.data.toList ∧ (iH s.data.toList).length ≤ 12) ∧ 0 ≤ v ∧ v ≤ 100000), start _ (aa.neg (by decide) (aa.neg (by decide) (aa.neg (by decide) (aa.neg (by decide) (aa.pos rfl (aa.ite (fun h => ?_) (fun h => (aa.pure _).same (no _ (fun x => h (fC x)))))))))), ?_⟩
    rotate_left
    · unfold qz.f
      exact aa.neg (by decide) (aa.neg (by decide) (aa.neg (by decide) (aa.neg (by decide) (aa.pos rfl (aa.bind hw (aa.pure _))))))
    · have h' := Ef.1 h
      simp only [avh, Option.bind_some]
      exact (aa.pure _).same (jB ⟨fun x => ⟨h', x⟩, fun x => x.2⟩)
  · by_cases hn : s.toList = ([] : List UInt8)
    · refine ⟨false, start _ (aa.neg (by decide) (aa.neg (by decide) (aa.neg (by decide) (aa.neg (by decide) (aa.neg (by decide) (aa.pos hn (aa.pure _))))))), ?_⟩
      unfold qz.f
      exact aa.neg (by decide) (aa.neg (by decide) (aa.neg (by decide) (aa.neg (by decide) (aa.neg (by decide) (aa.pos rfl (aa.pos hn (aa.pure _)))))))
    · refine ⟨B (xw s), start _ (aa.neg (by decide) (aa.neg (by decide) (aa.neg (by decide) (aa.neg (by decide) (aa.neg (by decide) (aa.neg hn (aa.bind (ak9 s (by omega)) (aa.pure _)))))))), ?_⟩
      unfold qz.f
      exact aa.neg (by decide) (aa.neg (by decide) (aa.neg (by decide) (aa.neg (by decide) (aa.neg (by decide) (aa.pos rfl (aa.neg hn (aa.bind (acQ s (by omega)) (aa.pure _))))))))
end Go.Proofs.YtapilmimgiaglaaGreatDoor.QA
namespace Go.Proofs.YtapilmimgiaglaaGreatDoor.QA
open Go.RowKit Go.Proofs.bB.fA Go.Proofs.YtapilmimgiaglaaGreatDoor.Ev0 Go.Proofs.YtapilmimgiaglaaGreatDoor.Num
def kw (t:List UInt8):List UInt8:=t.takeWhile (· != 63)
def kX (t:List UInt8):List UInt8:=(t.dropWhile (· != 63)).tail
def zZ (l:List UInt8):Prop:=∀ c ∈ l,okF (c.toNat:Int)
def nums (l:List UInt8):List Int:=l.map fun b=>(b.toNat:Int)
theorem avI (l:List UInt8):bytesOf (bM l)=nums l:=by simp [bytesOf,bM,nums]
theorem awo (l:List UInt8) (i:Int):rd (nums l) i=bt (bM l) i:=by rw [← avI,awn]
theorem auO (t:List UInt8):(Lib.index t [63] = -1∧kw t=t∧kX t=[])∨(0≤Lib.index t [63]∧kw t=t.take (Lib.index t [63]).toNat∧kX t=t.drop ((Lib.index t [63]).toNat+1)):=by
 induction t with
 | nil=>exact .inl ⟨rfl,rfl,rfl⟩
 | cons b l ih =>
  unfold Lib.index
  by_cases h:b=63
  ·subst h
   refine .inr ?_
   rw [if_pos (by simp [List.isPrefixOf])]
   exact ⟨by decide,by simp [kw],by simp [kX]⟩
  ·rw [if_neg (by simp [List.isPrefixOf];exact fun e=>h e.symm)]
   have hp:kw (b :: l)=b :: kw l:=by simp [kw,h]
   have hq:kX (b :: l)=kX l:=by simp [kX,h]
   rcases ih with ⟨h1,h2,h3⟩ | ⟨h1,h2,h3⟩
   ·rw [h1]
    exact .inl ⟨rfl,by rw [hp,h2],by rw [hq,h3]⟩
   ·refine .inr ?_
    have hne:¬ (Lib.index l [63] == -1)=true:=by simp;omega
    rw [if_neg hne]
    have e:(Lib.index l [63]+1).toNat=(Lib.index l [63]).toNat+1:=by omega
    exact ⟨by omega,by rw [hp,h2,e,List.take_succ_cons],by rw [hq,h3,e,List.drop_succ_cons]⟩
theorem VW (t:List UInt8):(Lib.cut t [63]).1=kw t∧(Lib.cut t [63]).2.1=kX t:=by
 unfold Lib.cut
 rcases auO t with ⟨h1,h2,h3⟩ | ⟨h1,h2,h3⟩
 ·rw [if_neg (by omega),h2,h3]
  exact ⟨rfl,rfl⟩
 ·rw [if_pos h1,h2,h3]
  exact ⟨rfl,rfl⟩
theorem auJ (l:List UInt8) (c:UInt8):Lib.indexByte l c<0 ↔ c ∉ l:=by
 induction l with
 | nil=>simp [Lib.indexByte]
 | cons b l ih =>
  unfold Lib.indexByte
  by_cases h:b=c
  ·subst h;simp
  ·rw [if_neg (by simpa using h)]
   have hc:c ∉ b :: l ↔ c ∉ l:=by simp [Ne.symm h]
   rw [hc,← ih]
   by_cases g:Lib.indexByte l c = -1
   ·rw [if_pos (by rw [g];rfl)];omega
   ·rw [if_neg (by simpa using g)]
    have : -1≤Lib.indexByte l c:=by
     clear ih hc g h
     induction l with
     | nil=>exact Int.le_refl _
     | cons b l ih =>
      unfold Lib.indexByte
      split
      ·omega
      ·split <;> omega
    omega
theorem akS {ρ:Type} (n:Int) (ok:Int→Prop) (r0:ρ) (F:Nat→Int→Option ρ)
  (step:∀ i,0≤i→i<n→(ok i→∀ r,aa (fun k=>F k (i+1)) r→aa (fun k=>F (k+1) i) r)∧(¬ ok i→aa (fun k=>F (k+1) i) r0)) (d:Nat):∀ i:Int,0≤i→i≤n→n - i≤d →
  ((∀ j,i≤j→j<n→ok j)→∀ r,aa (fun k=>F k n) r→aa (fun k=>F k i) r)∧(¬ (∀ j,i≤j→j<n→ok j)→aa (fun k=>F k i) r0):=by
 induction d with
 | zero =>
  intro i h0 h1 hd
  obtain rfl:i=n:=by omega
  exact ⟨fun _ r hr=>hr,fun h=>absurd (fun j g0 g1=>absurd g1 (by omega)) h⟩
 | succ d ih =>
  intro i h0 h1 hd
  by_cases hlt:i<n
  ·obtain ⟨i1,i2⟩:=ih (i+1) (by omega) (by omega) (by omega)
   by_cases hk:ok i
   ·refine ⟨fun h r hr=>((step i h0 hlt).1 hk r (i1 (fun j g0 g1=>h j (by omega) g1) r hr)).succ,fun h=>((step i h0 hlt).1 hk r0 (i2 (fun g=>h (fun j g0 g1=>?_)))).succ⟩
    by_cases e:j=i
    ·rw [e];exact hk
    ·exact g j (by omega) g1
   ·exact ⟨fun h=>absurd (h i (Int.le_refl _) hlt) hk,fun _=>((step i h0 hlt).2 hk).succ⟩
  ·obtain rfl:i=n:=by omega
   exact ⟨fun _ r hr=>hr,fun h=>absurd (fun j g0 g1=>absurd g1 (by omega)) h⟩
section
variable (tag : ByteArray) (els : List dw)
theorem asF (form:ByteArray) (hf:form.size≤20000) (m:Int) (hm:0≤m) (rest:List UInt8):∀ done x,form.data.toList=done++rest→x.length≤done.length →
  (zZ rest→∀ r,aa (fun k=>dm.j1 k (x++nums rest) m tag els) r→aa (fun k=>dm.l0 k form x m (done.length:Int) tag els) r) ∧
  (¬ zZ rest→aa (fun k=>dm.l0 k form x m (done.length:Int) tag els) 0):=by
 induction rest with
 | nil =>
  intro done x hd hx
  have hl:form.size=done.length:=by rw [← rP,hd];simp
  refine ⟨fun _ r hr=>?_,fun h=>absurd (fun c hc=>by cases hc) h⟩
  apply aa.succ
  simp only [dm.l0]
  refine aa.neg (by omega) (aa.neg (by omega) ?_)
  rw [show x++nums []=x by simp [nums]] at hr
  exact hr
 | cons c rest ih =>
  intro done x hd hx
  have hl:form.size=done.length+(rest.length+1):=by rw [← rP,hd];simp
  have hlt:(done.length:Int)<(form.size:Int):=by omega
  obtain ⟨c',h1,h2⟩:=Cu form (done.length:Int) (by omega) hlt
  have hc:c'=c:=by
   rw [hd,Int.toNat_natCast] at h1
   simpa using h1.symm
  subst hc
  have hw:wrap64 ((done.length:Int)+1)=((done++[c']).length:Int):=by rw [dN (by omega) (by omega)];simp
  obtain ⟨i1,i2⟩:=ih (done++[c']) (x++[(c'.toNat:Int)]) (by rw [hd];simp) (by simp;omega)
  have e:x++[(c'.toNat:Int)]++nums rest=x++nums (c' :: rest):=by simp [nums]
  rw [e] at i1
  have go:okF (c'.toNat:Int)→∀ r,aa (fun k=>dm.l0 k form (x++[(c'.toNat:Int)]) m ((done++[c']).length:Int) tag els) r→aa (fun k=>dm.l0 k form x m (done.length:Int) tag els) r:=fun hg r hr=>by
   apply aa.succ
   simp only [dm.l0,h2,hw]
   have hlen:x.length<140737488355328:=by omega
   refine aa.pos hlt (aa.pos (by omega) ?_)
   rcases hg with h|h|h|h|h|h
   ·exact aa.neg (by omega) (aa.pos h (aa.pos hlen hr))
   ·exact aa.neg (by omega) (aa.neg (by omega) (aa.pos h (aa.pos hlen hr)))
   ·exact aa.neg (by omega) (aa.neg (by omega) (aa.neg (by omega) (aa.pos h (aa.pos hlen hr))))
   ·exact aa.neg (by omega) (aa.neg (by omega) (aa.neg (by omega) (aa.neg (by omega) (aa.pos h (aa.pos hlen hr)))))
   ·exact aa.neg (by omega) (aa.neg (by omega) (aa.neg (by omega) (aa.neg (by omega) (aa.neg (by omega) (aa.pos h (aa.pos hlen hr))))))
   ·exact aa.neg (by omega) (aa.neg (by omega) (aa.neg (by omega) (aa.neg (by omega) (aa.neg (by omega) (aa.neg (by omega) (aa.pos h (aa.pos hlen hr)))))))
  refine ⟨fun h r hr=>go (h c' (List.mem_cons_self ..)) r (i1 (fun y hy=>h y (List.mem_cons_of_mem _ hy)) r hr),fun h=>?_⟩
  by_cases hg:okF (c'.toNat:Int)
  ·exact go hg 0 (i2 (fun g=>h (fun y hy=>(List.mem_cons.1 hy).elim (fun e=>by rw [e];exact hg) (g y))))
  ·apply aa.succ
   simp only [dm.l0,h2,hw]
   unfold okF at hg
   refine aa.pos hlt (aa.pos (by omega) (aa.ite (fun _=>aa.pos (by omega) (aa.pure _)) (fun _=>?_)))
   exact aa.neg (by omega) (aa.neg (by omega) (aa.neg (by omega) (aa.neg (by omega) (aa.neg (by omega) (aa.neg (by omega) (aa.pure _))))))
theorem asE (form:ByteArray) (hf:form.size≤20000) (rest:List UInt8):∀ done,form.data.toList=done++rest →
  (zZ (kw rest++kX rest)→∀ r,aa (fun k=>dm.j1 k (nums (done++(kw rest++kX rest))) ((done++kw rest).length:Int) tag els) r→aa (fun k=>dm.l0 k form (nums done) (-1) (done.length:Int) tag els) r) ∧
  (¬ zZ (kw rest++kX rest)→aa (fun k=>dm.l0 k form (nums done) (-1) (done.length:Int) tag els) 0):=by
 induction rest with
 | nil =>
  intro done hd
  have hl:form.size=done.length:=by rw [← rP,hd];simp
  refine ⟨fun _ r hr=>?_,fun h=>absurd (fun c hc=>by cases hc) h⟩
  apply aa.succ
  simp only [dm.l0]
  refine aa.neg (by omega) (aa.pos (by decide) ?_)
  rw [show (nums done).length=done.length by simp [nums]]
  simpa [kw,kX] using hr
 | cons c rest ih =>
  intro done hd
  have hl:form.size=done.length+(rest.length+1):=by rw [← rP,hd];simp
  have hlt:(done.length:Int)<(form.size:Int):=by omega
  obtain ⟨c',h1,h2⟩:=Cu form (done.length:Int) (by omega) hlt
  have hc:c'=c:=by
   rw [hd,Int.toNat_natCast] at h1
   simpa using h1.symm
  subst hc
  have hw:wrap64 ((done.length:Int)+1)=((done++[c']).length:Int):=by rw [dN (by omega) (by omega)];simp
  have hnl:(nums done).length=done.length:=by simp [nums]
  by_cases h63:c'=63
  ·subst h63
   have hp:kw (63 :: rest)=[]:=by simp [kw]
   have hq:kX (63 :: rest)=rest:=by simp [kX]
   rw [hp,hq,List.nil_append,List.append_nil]
   obtain ⟨i1,i2⟩:=asF tag els form hf (done.length:Int) (by omega) rest (done++[63]) (nums done) (by rw [hd];simp) (by simp [nums])
   have go:∀ r,aa (fun k=>dm.l0 k form (nums done) (done.length:Int) ((done++[(63:UInt8)]).length:Int) tag els) r→aa (fun k=>dm.l0 k form (nums done) (-1) (done.length:Int) tag els) r:=fun r hr=>by
    apply aa.succ
    simp only [dm.l0,h2,hw,hnl]
    exact aa.pos hlt (aa.pos (by omega) (aa.pos (by rfl) (aa.neg (by decide) hr)))
   have e:nums done++nums rest=nums (done++rest):=by simp [nums]
   rw [e] at i1
   exact ⟨fun h r hr=>go r (i1 h r hr),fun h=>go 0 (i2 h)⟩
  ·have hp:kw (c' :: rest)=c' :: kw rest:=by simp [kw,h63]
   have hq:kX (c' :: rest)=kX rest:=by simp [kX,h63]
   have hn63:¬ (c'.toNat:Int)=63:=fun e=>h63 (UInt8.toNat_inj.1 (by have:(63:UInt8).toNat=63:=rfl;omega))
   rw [hp,hq]
   obtain ⟨i1,i2⟩:=ih (done++[c']) (by rw [hd];simp)
   have e0:nums (done++[c'])=nums done++[(c'.toNat:Int)]:=by simp [nums]
   have e1:done++[c']++(kw rest++kX rest)=done++(c' :: kw rest++kX rest):=by simp
   have e2:(done++[c']++kw rest)=(done++c' :: kw rest):=by simp
   rw [e0,e1,e2] at i1
   rw [e0] at i2
   have go:okF (c'.toNat:Int)→∀ r,aa (fun k=>dm.l0 k form (nums done++[(c'.toNat:Int)]) (-1) ((done++[c']).length:Int) tag els) r→aa (fun k=>dm.l0 k form (nums done) (-1) (done.length:Int) tag els) r:=fun hg r hr=>by
    apply aa.succ
    simp only [dm.l0,h2,hw]
    have hlen:(nums done).length<140737488355328:=by omega
    refine aa.pos hlt (aa.pos (by omega) (aa.neg hn63 ?_))
    rcases hg with h|h|h|h|h|h
    ·exact aa.pos h (aa.pos hlen hr)
    ·exact aa.neg (by omega) (aa.pos h (aa.pos hlen hr))
    ·exact aa.neg (by omega) (aa.neg (by omega) (aa.pos h (aa.pos hlen hr)))
    ·exact aa.neg (by omega) (aa.neg (by omega) (aa.neg (by omega) (aa.pos h (aa.pos hlen hr))))
    ·exact aa.neg (by omega) (aa.neg (by omega) (aa.neg (by omega) (aa.neg (by omega) (aa.pos h (aa.pos hlen hr)))))
    ·exact aa.neg (by omega) (aa.neg (by omega) (aa.neg (by omega) (aa.neg (by omega) (aa.neg (by omega) (aa.pos h (aa.pos hlen hr))))))
   refine ⟨fun h r hr=>go (h c' (by simp)) r (i1 (fun y hy=>h y (by simp at hy ⊢;exact .inr hy)) r hr),fun h=>?_⟩
   by_cases hg:okF (c'.toNat:Int)
   ·exact go hg 0 (i2 (fun g=>h (fun y hy=>by
     rcases List.mem_cons.1 (show y ∈ c' :: (kw rest++kX rest) from hy) with e|e
     ·rw [e];exact hg
     ·exact g y e)))
   ·apply aa.succ
    simp only [dm.l0,h2,hw]
    unfold okF at hg
    exact aa.pos hlt (aa.pos (by omega) (aa.neg hn63 (aa.neg (by omega) (aa.neg (by omega) (aa.neg (by omega) (aa.neg (by omega) (aa.neg (by omega) (aa.neg (by omega) (aa.pure _)))))))))
theorem aa2 (pre L:List UInt8) (hL:zZ L) (hn:L.length≤20000) (hp:pre.length≤L.length) (he:Ba els) (d:Nat):∀ i:Int,0≤i→i≤(els.length:Int)→i≤(L.length:Int)→(els.length:Int) - i≤d →
  ∃ r,(0≤r∨r = -1)∧aa (fun k=>dm.l1 k (nums L) (pre.length:Int) i tag els) r∧aa (fun k=>eX.l1 k (bM pre) (bM L) els (els.length:Int) i tag els) r:=by
 have hel:=he.1
 have hLs:((bM L).size:Int)=(L.length:Int):=by rw [qP]
 have hPs:((bM pre).size:Int)=(pre.length:Int):=by rw [qP]
 have hnl:(nums L).length=L.length:=by simp [nums]
 have stop:∃ r,(0≤r∨r = -1)∧aa (fun k=>dm.l1 k (nums L) (pre.length:Int) (els.length:Int) tag els) r∧aa (fun k=>eX.l1 k (bM pre) (bM L) els (els.length:Int) (els.length:Int) tag els) r:=by
  by_cases g:(els.length:Int)<(pre.length:Int)
  ·refine ⟨(els.length:Int),.inl (by omega),?_,?_⟩
   ·apply aa.succ
    simp only [dm.l1]
    refine aa.neg (by omega) ?_
    rw [decide_eq_true g]
    apply aa.succ
    simp only [dm.j3]
    exact aa.pos (by simp) (aa.pos (by omega) (aa.pure _))
   ·apply aa.succ
    simp only [eX.l1]
    exact aa.neg (by omega) (aa.pos (by omega) (aa.pure _))
  ·refine ⟨-1,.inr rfl,?_,?_⟩
   ·apply aa.succ
    simp only [dm.l1]
    refine aa.neg (by omega) ?_
    rw [decide_eq_false g]
    apply aa.succ
    simp only [dm.j3]
    exact aa.neg (by simp) (aa.pure _)
   ·apply aa.succ
    simp only [eX.l1]
    exact aa.neg (by omega) (aa.neg (by omega) (aa.pure _))
 induction d with
 | zero =>
  intro i h0 h1 _ hd
  obtain rfl:i=(els.length:Int):=by omega
  exact stop
 | succ d ih =>
  intro i h0 h1 h2 hd
  by_cases hlt:i<(els.length:Int)
  ·have hw:wrap64 (i+1)=i+1:=dN (by omega) (by omega)
   have spec:∀ r,aa (fun k=>if i≥(els.length:Int) then (some i) else (if i≥((nums L).length:Int) then (some i) else (if 0≤i then (if i<((nums L).length:Int) then (if i<(els.length:Int) then ((yT.f k (rd (nums L) i) ((aH els i).f0)).bind fun t173=>(if t173=true then (dm.l1 k (nums L) (pre.length:Int) (i+1) tag els) else (some i))) else (none)) else (none)) else (none)))) r→aa (fun k=>dm.l1 k (nums L) (pre.length:Int) i tag els) r:=fun r hr=>by
    apply aa.succ
    simp only [dm.l1]
    refine aa.pos hlt ?_
    apply aa.succ
    simp only [dm.j3,hw]
    exact aa.pos (by simp) hr
   have impl:∀ r,aa (fun k=>if i=((bM L).size:Int) then (some i) else (if (((aH els i).f0).length:Int)=1 then (if i<((bM L).size:Int) then (if 0<(((aH els i).f0).length:Int) then ((qz.f k (bt (bM L) i) (aX ByteArray.empty ((aH els i).f0) 0)).bind fun adI=>(if adI=true then (eX.l1 k (bM pre) (bM L) els (els.length:Int) (i+1) tag els) else (some i))) else (none)) else (none)) else (some i))) r→aa (fun k=>eX.l1 k (bM pre) (bM L) els (els.length:Int) i tag els) r:=fun r hr=>by
    apply aa.succ
    simp only [eX.l1,hw]
    exact aa.pos hlt (aa.pos h0 (aa.pos hlt hr))
   by_cases hi:i=(L.length:Int)
   ·exact ⟨i,.inl h0,spec _ (aa.neg (by omega) (aa.pos (by omega) (aa.pure _))),impl _ (aa.pos (by omega) (aa.pure _))⟩
   ·have hiL:i<(L.length:Int):=by omega
    have hk:=ahv he i h0 hlt
    have hc:okF (bt (bM L) i):=by
     obtain ⟨c,g1,g2⟩:=Cu (bM L) i h0 (by omega)
     rw [g2]
     refine hL c (List.mem_of_getElem? (i:=i.toNat) ?_)
     rw [show (bM L).data.toList=L by simp [bM]] at g1
     exact g1
    by_cases h1':(((aH els i).f0).length:Int)=1
    ·obtain ⟨b,hb1,hb2⟩:=arV (bt (bM L) i) hc _ h1' (hk.2 _ (FM _ 0 (Int.le_refl _) (by omega)))
     rw [← awo] at hb1
     cases b with
     | true =>
      obtain ⟨r,r0,r1,r2⟩:=ih (i+1) (by omega) (by omega) (by omega) (by omega)
      exact ⟨r,r0,spec _ (aa.neg (by omega) (aa.neg (by omega) (aa.pos h0 (aa.pos (by omega) (aa.pos hlt (aa.bind hb1 (aa.pos rfl r1))))))),impl _ (aa.neg (by omega) (aa.pos h1' (aa.pos (by omega) (aa.pos (by omega) (aa.bind hb2 (aa.pos rfl r2))))))⟩
     | false =>
      exact ⟨i,.inl h0,spec _ (aa.neg (by omega) (aa.neg (by omega) (aa.pos h0 (aa.pos (by omega) (aa.pos hlt (aa.bind hb1 (aa.neg (by decide) (aa.pure _)))))))),impl _ (aa.neg (by omega) (aa.pos h1' (aa.pos (by omega) (aa.pos (by omega) (aa.bind hb2 (aa.neg (by decide) (aa.pure _)))))))⟩
    ·have hel':aa (fun k=>yT.f k (rd (nums L) i) ((aH els i).f0)) false:=by
      unfold yT.f
      exact aa.neg h1' (aa.pure _)
     exact ⟨i,.inl h0,spec _ (aa.neg (by omega) (aa.neg (by omega) (aa.pos h0 (aa.pos (by omega) (aa.pos hlt (aa.bind hel' (aa.neg (by decide) (aa.pure _)))))))),impl _ (aa.neg (by omega) (aa.neg h1' (aa.pure _)))⟩
  ·obtain rfl:i=(els.length:Int):=by omega
   exact stop
theorem XJ (c:Int) (h0:0≤c) (h1:c≤255):(Lib.indexByte (⟨#[114,110,113,122,100,116]⟩:ByteArray).data.toList c.toNat.toUInt8<0) ↔ ¬ okF c:=by
 rw [auJ]
 refine not_congr ?_
 have e:c.toNat.toUInt8.toNat=c.toNat:=by
  rw [Nat.toUInt8_eq,UInt8.toNat_ofNat']
  omega
 have key:∀ b:UInt8,c.toNat.toUInt8=b ↔ c=(b.toNat:Int):=fun b=>by
  rw [← UInt8.toNat_inj,e]
  omega
 show c.toNat.toUInt8 ∈ [(114:UInt8),110,113,122,100,116] ↔ _
 simp only [List.mem_cons,List.not_mem_nil,or_false,key]
 rfl
theorem asC (form:ByteArray) (hf:form.size≤1048576) (he:Ba els):∃ r,(0≤r∨r = -1)∧aa (fun k=>dm.f k form tag els) r∧aa (fun k=>eX.f k form tag els) r:=by
 have hel:=he.1
 have hcut:strings_Cut.f form (⟨#[63]⟩:ByteArray)=some (bM (kw form.data.toList),bM (kX form.data.toList),(Lib.cut form.data.toList [63]).2.2):=by
  unfold strings_Cut.f
  rw [if_pos (by omega)]
  show some ((⟨(Lib.cut form.data.toList [63]).1.toArray⟩:ByteArray),(⟨(Lib.cut form.data.toList [63]).2.1.toArray⟩:ByteArray),(Lib.cut form.data.toList [63]).2.2)=_
  rw [(VW _).1,(VW _).2]
  rfl
 generalize hP:kw form.data.toList=P at hcut
 generalize hR:kX form.data.toList=R at hcut
 have hlen:P.length+R.length≤form.size:=by
  rw [← rP,← hP,← hR]
  unfold kw kX
  have:=congrArg List.length (List.takeWhile_append_dropWhile (p:=(· != 63)) (l:=form.data.toList))
  rw [List.length_append] at this
  rw [List.length_tail]
  omega
 have hsz:((bM (P++R)).size:Int)=((P++R).length:Int):=by rw [qP]
 have him:∀ r,aa (fun k=>eX.l0 k form (bM P) (bM (P++R)) ((bM (P++R)).size:Int) 0 tag els) r→aa (fun k=>eX.f k form tag els) r:=fun r hr=>by
  unfold eX.f
  simp only [hcut,Option.bind_some,KX]
  refine aa.pos (by rw [qP,qP];omega) hr
 obtain ⟨p1,p2⟩:=akS ((bM (P++R)).size:Int) (fun i=>okF (bt (bM (P++R)) i)) (0:Int) (fun k i=>eX.l0 k form (bM P) (bM (P++R)) ((bM (P++R)).size:Int) i tag els) (fun i h0 hlt=>by
  have hw:wrap64 (i+1)=i+1:=dN (by omega) (by rw [List.length_append] at hsz;omega)
  have hb:=agK (bM (P++R)) i
  simp only [eX.l0,strings_IndexByte.f,Option.bind_some,hw]
  exact ⟨fun hk r hr=>aa.pos hlt (aa.pos h0 (aa.pos hlt (aa.neg (fun x=>(XJ _ hb.1 hb.2).1 x hk) hr))),fun hk=>aa.pos hlt (aa.pos h0 (aa.pos hlt (aa.pos ((XJ _ hb.1 hb.2).2 hk) (aa.pure _))))⟩) (bM (P++R)).size 0 (Int.le_refl _) (by omega) (by omega)
 have hall:(∀ j:Int,0≤j→j<((bM (P++R)).size:Int)→okF (bt (bM (P++R)) j)) ↔ zZ (P++R):=by
  rw [OW (bM (P++R)) okF,show (bM (P++R)).data.toList=P++R by simp [bM]]
  rfl
 by_cases hbig:(form.size:Int)>20000
 ·refine ⟨0,.inl (by decide),?_,?_⟩
  ·unfold dm.f
   exact aa.pos hbig (aa.pure _)
  ·by_cases hk:zZ (P++R)
   ·refine him _ (p1 (hall.2 hk) _ ?_)
    apply aa.succ
    simp only [eX.l0]
    exact aa.neg (by omega) (aa.bind (ac0 form) (aa.pos (fC hbig) (aa.pure _)))
   ·exact him _ (p2 (fun x=>hk (hall.1 x)))
 ·have hsm:form.size≤20000:=by omega
  obtain ⟨s1,s2⟩:=asE tag els form hsm form.data.toList [] rfl
  rw [hP,hR] at s1 s2
  have hsp:∀ r,aa (fun k=>dm.l0 k form (nums []) (-1) (([]:List UInt8).length:Int) tag els) r→aa (fun k=>dm.f k form tag els) r:=fun r hr=>by
   unfold dm.f
   exact aa.neg hbig hr
  by_cases hk:zZ (P++R)
  ·obtain ⟨r,r0,r1,r2⟩:=aa2 tag els P (P++R) hk (by rw [List.length_append];omega) (by simp) he els.length 0 (Int.le_refl _) (by omega) (by omega) (by omega)
   refine ⟨r,r0,hsp _ (s1 hk _ ?_),him _ (p1 (hall.2 hk) _ ?_)⟩
   ·apply aa.succ
    simp only [dm.j1]
    exact r1
   ·apply aa.succ
    simp only [eX.l0]
    exact aa.neg (by omega) (aa.bind (ac0 form) (aa.neg (by rw [fK hbig];decide) r2))
  ·exact ⟨0,.inl (by decide),hsp _ (s2 hk),him _ (p2 (fun x=>hk (hall.1 x)))⟩
end
end Go.Proofs.YtapilmimgiaglaaGreatDoor.QA
namespace Go.Proofs.YtapilmimgiaglaaGreatDoor.QA
open Go.RowKit Go.Proofs.bB.fA Go.Proofs.YtapilmimgiaglaaGreatDoor.Ev0 Go.Proofs.YtapilmimgiaglaaGreatDoor.Num
abbrev jq:ByteArray:=⟨#[68,79,67]⟩
abbrev mF:ByteArray:=⟨#[78,79,84]⟩
abbrev xV:ByteArray:=⟨#[76,73,78]⟩
abbrev yS:ByteArray:=⟨#[73,84,77]⟩
abbrev Ja:ByteArray:=⟨#[65,67,75]⟩
def tab (k:Int):List aC :=
 if k=1 then [⟨jq,1,1,⟨#[114,100]⟩⟩,⟨mF,0,2,⟨#[116]⟩⟩,⟨xV,1,20,⟨#[110,114,113,63,110]⟩⟩]
 else if k=2∨k=4 then [⟨jq,1,1,⟨#[114,114,100]⟩⟩,⟨xV,1,20,⟨#[110,113,63,116]⟩⟩]
 else if k=3 then [⟨jq,1,1,⟨#[114,114,100]⟩⟩,⟨mF,0,2,⟨#[116]⟩⟩,⟨xV,1,20,⟨#[110,113]⟩⟩]
 else if k=5 then [⟨jq,1,1,⟨#[114,100]⟩⟩,⟨yS,1,20,⟨#[114,110]⟩⟩]
 else if k=6 then [⟨jq,1,1,⟨#[114,100]⟩⟩,⟨yS,1,20,⟨#[114,122,63,116]⟩⟩]
 else if k=7 then [⟨jq,1,1,⟨#[114,100]⟩⟩,⟨Ja,1,1,⟨#[110,110,63,110]⟩⟩]
 else []
theorem kinds (k:Int):(k=1∨k=2∨k=3∨k=4∨k=5∨k=6∨k=7)∨((k<1∨7<k)∧tab k=[]):=by
 by_cases h:1≤k∧k≤7
 ·exact .inl (by omega)
 ·refine .inr ⟨by omega,?_⟩
  unfold tab
  repeat rw [if_neg (by omega)]
theorem aka (k:Int):aa (fun n=>qV.f n k) (tab k):=by
 unfold qV.f rW.f uu.f
 have j1:∀ x,aa (fun n=>qV.j0 n x true (⟨#[78,79,84]⟩:ByteArray) 0 2 (⟨#[116]⟩:ByteArray)) (tab 2):=fun x=>by
  apply aa.succ
  simp only [qV.j0,rW.f,uu.f,Option.bind_some,if_true]
  exact (aa.pure _).same rfl
 have j2:∀ x,¬ (x=1∨x=2∨x=4)→aa (fun n=>qV.j0 n x false (⟨#[78,79,84]⟩:ByteArray) 0 2 (⟨#[116]⟩:ByteArray)) (tab x):=fun x hx=>by
  apply aa.succ
  simp only [qV.j0,rW.f,uu.f,Option.bind_some,Bool.false_eq_true,if_false]
  by_cases h3:x=3
  ·subst h3
   exact aa.pos rfl ((aa.pure _).same rfl)
  refine aa.neg h3 ?_
  by_cases h5:x=5
  ·subst h5
   exact aa.pos rfl ((aa.pure _).same rfl)
  refine aa.neg h5 ?_
  by_cases h6:x=6
  ·subst h6
   exact aa.pos rfl ((aa.pure _).same rfl)
  refine aa.neg h6 ?_
  by_cases h7:x=7
  ·subst h7
   exact aa.pos rfl ((aa.pure _).same rfl)
  refine aa.neg h7 ((aa.pure _).same ?_)
  unfold tab
  rw [if_neg (by omega),if_neg (by omega),if_neg (by omega),if_neg (by omega),if_neg (by omega),if_neg (by omega)]
 simp only [Option.bind_some]
 refine aa.ite (fun h=>(aa.pure _).same (by rw [h];rfl)) (fun h1=>aa.ite (fun h=>?_) (fun h2=>?_))
 ·subst h
  exact j1 2
 ·by_cases h:k=4
  ·subst h
   exact (j1 4).same rfl
  ·rw [show (k == 4)=false by simpa using h]
   exact j2 k (by omega)
theorem ala (k:Int):aa (fun n=>tF.f n k) (tab k):=by
 unfold tF.f
 have j1:∀ x,aa (fun n=>tF.j0 n x true (⟨#[68,79,67]⟩:ByteArray) 1 1 (⟨#[114,100]⟩:ByteArray) (⟨#[68,79,67]⟩:ByteArray) 1 1 (⟨#[114,114,100]⟩:ByteArray) (⟨#[78,79,84]⟩:ByteArray) 0 2 (⟨#[116]⟩:ByteArray)) (tab 2):=fun x=>by
  apply aa.succ
  simp only [tF.j0,if_true]
  exact (aa.pure _).same rfl
 have j2:∀ x,¬ (x=1∨x=2∨x=4)→aa (fun n=>tF.j0 n x false (⟨#[68,79,67]⟩:ByteArray) 1 1 (⟨#[114,100]⟩:ByteArray) (⟨#[68,79,67]⟩:ByteArray) 1 1 (⟨#[114,114,100]⟩:ByteArray) (⟨#[78,79,84]⟩:ByteArray) 0 2 (⟨#[116]⟩:ByteArray)) (tab x):=fun x hx=>by
  apply aa.succ
  simp only [tF.j0,Bool.false_eq_true,if_false]
  by_cases h3:x=3
  ·subst h3
   exact aa.pos rfl ((aa.pure _).same rfl)
  refine aa.neg h3 ?_
  by_cases h5:x=5
  ·subst h5
   exact aa.pos rfl ((aa.pure _).same rfl)
  refine aa.neg h5 ?_
  by_cases h6:x=6
  ·subst h6
   exact aa.pos rfl ((aa.pure _).same rfl)
  refine aa.neg h6 ?_
  by_cases h7:x=7
  ·subst h7
   exact aa.pos rfl ((aa.pure _).same rfl)
  refine aa.neg h7 ((aa.pure _).same ?_)
  unfold tab
  rw [if_neg (by omega),if_neg (by omega),if_neg (by omega),if_neg (by omega),if_neg (by omega),if_neg (by omega)]
 refine aa.ite (fun h=>(aa.pure _).same (by rw [h];rfl)) (fun h1=>aa.ite (fun h=>?_) (fun h2=>?_))
 ·subst h
  exact j1 2
 ·by_cases h:k=4
  ·subst h
   exact (j1 4).same rfl
  ·rw [show (k == 4)=false by simpa using h]
   exact j2 k (by omega)
def Xn (r:aC):Prop:=1≤r.f2∧r.f2≤20∧r.f3.size≤100
theorem XZ (k:Int):(∀ r ∈ tab k,Xn r)∧(tab k).length≤3:=by
 rcases kinds k with h | ⟨_,h⟩
 ·rcases h with rfl|rfl|rfl|rfl|rfl|rfl|rfl <;>
   exact ⟨fun r hr=>(by simp [tab] at hr;rcases hr with rfl|rfl|rfl <;> exact ⟨by decide,by decide,by decide⟩),by decide⟩
 ·rw [h]
  exact ⟨fun r hr=>(by cases hr),by decide⟩
def Fits (body:List bA):List aC→Int→Prop
 | [],at_=>at_=(body.length:Int)
 | r :: rows,at_=>∃ e:Int,at_≤e∧e≤(body.length:Int)∧r.f1≤e - at_∧e - at_≤r.f2 ∧
   (∀ j:Int,at_≤j→j<e→(av body j).f0=r.f0∧aa (fun k=>eX.f k r.f3 (av body j).f0 (av body j).f1) (-1))∧Fits body rows e
def H7 (l:List bA):Prop:=l.length≤1048576∧∀ x ∈ l,Ba x.f1
theorem ahu {l:List bA} (h:H7 l) (i:Int) (h0:0≤i) (hlt:i<(l.length:Int)):Ba (av l i).f1:=by
 unfold av
 rw [getD_at l _ _ (by omega)]
 exact h.2 _ (List.getElem_mem _)
section
variable (body : List bA) (he : H7 body) (hl : body.length ≤ 400) (T : List aC) (hT : T.length ≤ 3)
include he hl hT
theorem ayL (i:Int) (hi0:0≤i) (hiT:i<(T.length:Int)) (hr:Xn (di T i))
  (next:∀ a,0≤a→a≤(body.length:Int)→∃ r,aa (fun k=>dP.l0 k body T a (i+1)) r∧aa (fun k=>eY.l0 k body a (di T i).f0 T (T.length:Int) (i+1)) r∧(r.2.2=0→Fits body (T.drop (i+1).toNat) a))
  (xA:Int) (ha0:0≤xA) (d:Nat):∀ a n:Int,xA≤a→a≤(body.length:Int)→n=a - xA→n≤(di T i).f2→(body.length:Int) - a≤d →
  (∀ j:Int,xA≤j→j<a→(av body j).f0=(di T i).f0∧aa (fun k=>eX.f k (di T i).f3 (av body j).f0 (av body j).f1) (-1)) →
  ∃ r,aa (fun k=>dP.l1 k body T a i n) r∧aa (fun k=>eY.l1 k body a n T (T.length:Int) i (di T i).f0 (di T i).f1 (di T i).f2 (di T i).f3) r∧(r.2.2=0→Fits body (T.drop i.toNat) xA):=by
 have hdrop:T.drop i.toNat=di T i :: T.drop (i+1).toNat:=by
  have h':i.toNat<T.length:=by omega
  rw [List.drop_eq_getElem_cons h',show (i+1).toNat=i.toNat+1 by omega]
  unfold di
  rw [getD_at T _ _ h']
 have hw:wrap64 (i+1)=i+1:=dN (by omega) (by omega)
 have fin:∀ a n:Int,xA≤a→a≤(body.length:Int)→n=a - xA→n≤(di T i).f2 →
   (∀ j:Int,xA≤j→j<a→(av body j).f0=(di T i).f0∧aa (fun k=>eX.f k (di T i).f3 (av body j).f0 (av body j).f1) (-1)) →
   ∃ r,aa (fun k=>dP.j2 k body T a i n false) r∧aa (fun k=>eY.j2 k body a n T (T.length:Int) i false (di T i).f0 (di T i).f1 (di T i).f2 (di T i).f3) r∧(r.2.2=0→Fits body (T.drop i.toNat) xA):=fun a n g0 g1 g2 g3 prev=>by
  by_cases hn:n<(di T i).f1
  ·refine ⟨(a,0,4),?_,?_,fun h=>absurd h (by simp)⟩
   ·apply aa.succ
    simp only [dP.j2]
    exact aa.neg (by decide) (aa.pos hi0 (aa.pos hiT (aa.pos hn (aa.pure _))))
   ·apply aa.succ
    simp only [eY.j2]
    exact aa.neg (by decide) (aa.pos hn (aa.pure _))
  ·obtain ⟨r,r1,r2,r3⟩:=next a (by omega) g1
   refine ⟨r,?_,?_,fun h=>?_⟩
   ·apply aa.succ
    simp only [dP.j2,hw]
    exact aa.neg (by decide) (aa.pos hi0 (aa.pos hiT (aa.neg hn r1)))
   ·apply aa.succ
    simp only [eY.j2,hw]
    exact aa.neg (by decide) (aa.neg hn r2)
   ·rw [hdrop]
    exact ⟨a,g0,g1,by omega,by omega,prev,r3 h⟩
 have enter:∀ (a n:Int) (b:Bool) r,0≤a→((n<(di T i).f2∧a<(body.length:Int))→b=((av body a).f0.toList == (di T i).f0.toList))→(¬ (n<(di T i).f2∧a<(body.length:Int))→b=false) →
   aa (fun k=>dP.j2 k body T a i n b) r→aa (fun k=>eY.j2 k body a n T (T.length:Int) i b (di T i).f0 (di T i).f1 (di T i).f2 (di T i).f3) r →
   aa (fun k=>dP.l1 k body T a i n) r∧aa (fun k=>eY.l1 k body a n T (T.length:Int) i (di T i).f0 (di T i).f1 (di T i).f2 (di T i).f3) r:=fun a n b r ha hb1 hb2 r1 r2=>by
  constructor
  ·apply aa.succ
   simp only [dP.l1]
   refine aa.pos hi0 (aa.pos hiT ?_)
   by_cases h1:n<(di T i).f2
   ·by_cases h2:a<(body.length:Int)
    ·refine aa.pos h1 (aa.pos h2 (aa.pos ha ?_))
     rw [← hb1 ⟨h1,h2⟩]
     exact r1
    ·rw [hb2 (fun x=>h2 x.2)] at r1
     exact aa.pos h1 (aa.neg h2 r1)
   ·rw [hb2 (fun x=>h1 x.1)] at r1
    exact aa.neg h1 r1
  ·apply aa.succ
   simp only [eY.l1]
   by_cases h1:n<(di T i).f2
   ·by_cases h2:a<(body.length:Int)
    ·refine aa.pos h1 (aa.pos h2 (aa.pos ha ?_))
     rw [← hb1 ⟨h1,h2⟩]
     exact r2
    ·rw [hb2 (fun x=>h2 x.2)] at r2
     exact aa.pos h1 (aa.neg h2 r2)
   ·rw [hb2 (fun x=>h1 x.1)] at r2
    exact aa.neg h1 r2
 have quit:∀ a n:Int,xA≤a→a≤(body.length:Int)→n=a - xA→n≤(di T i).f2 →
   (∀ j:Int,xA≤j→j<a→(av body j).f0=(di T i).f0∧aa (fun k=>eX.f k (di T i).f3 (av body j).f0 (av body j).f1) (-1)) →
   ((n<(di T i).f2∧a<(body.length:Int))→false=((av body a).f0.toList == (di T i).f0.toList)) →
   ∃ r,aa (fun k=>dP.l1 k body T a i n) r∧aa (fun k=>eY.l1 k body a n T (T.length:Int) i (di T i).f0 (di T i).f1 (di T i).f2 (di T i).f3) r∧(r.2.2=0→Fits body (T.drop i.toNat) xA):=fun a n g0 g1 g2 g3 prev hb=>by
  obtain ⟨r,r1,r2,r3⟩:=fin a n g0 g1 g2 g3 prev
  obtain ⟨s1,s2⟩:=enter a n false r (by omega) hb (fun _=>rfl) r1 r2
  exact ⟨r,s1,s2,r3⟩
 induction d with
 | zero =>
  intro a n g0 g1 g2 g3 gd prev
  exact quit a n g0 g1 g2 g3 prev (fun x=>absurd x.2 (by omega))
 | succ d ih =>
  intro a n g0 g1 g2 g3 gd prev
  by_cases h1:n<(di T i).f2∧a<(body.length:Int)
  ·by_cases htag:(av body a).f0.toList=(di T i).f0.toList
   ·have hb:true=((av body a).f0.toList == (di T i).f0.toList):=by rw [htag];simp
    have hea:wrap64 (a+1)=a+1:=dN (by omega) (by omega)
    have hen:wrap64 (n+1)=n+1:=dN (by omega) (by omega)
    have hf3:=hr.2.2
    obtain ⟨f,f0,f1,f2⟩:=asC (av body a).f0 (av body a).f1 (di T i).f3 (by omega) (ahu he a (by omega) h1.2)
    by_cases hf:f≥0
    ·obtain ⟨s1,s2⟩:=enter a n true (a,f,3) (by omega) (fun _=>hb) (fun x=>absurd h1 x) (by
      apply aa.succ
      simp only [dP.j2]
      exact aa.pos (by simp) (aa.pos hi0 (aa.pos hiT (aa.pos (by omega) (aa.pos h1.2 (aa.bind f1 (aa.pos hf (aa.pure _)))))))) (by
      apply aa.succ
      simp only [eY.j2]
      exact aa.pos (by simp) (aa.pos (by omega) (aa.pos h1.2 (aa.bind f2 (aa.pos hf (aa.pure _))))))
     exact ⟨_,s1,s2,fun h=>absurd h (by simp)⟩
    ·obtain rfl:f = -1:=f0.resolve_left (by omega)
     obtain ⟨r,r1,r2,r3⟩:=ih (a+1) (n+1) (by omega) (by omega) (by omega) (by omega) (by omega) (fun j j0 j1=>by
      by_cases e:j=a
      ·rw [e]
       exact ⟨Hg.1 htag,f2⟩
      ·exact prev j j0 (by omega))
     obtain ⟨s1,s2⟩:=enter a n true r (by omega) (fun _=>hb) (fun x=>absurd h1 x) (by
      apply aa.succ
      simp only [dP.j2,hea,hen]
      exact aa.pos (by simp) (aa.pos hi0 (aa.pos hiT (aa.pos (by omega) (aa.pos h1.2 (aa.bind f1 (aa.neg hf r1))))))) (by
      apply aa.succ
      simp only [eY.j2,hea,hen]
      exact aa.pos (by simp) (aa.pos (by omega) (aa.pos h1.2 (aa.bind f2 (aa.neg hf r2)))))
     exact ⟨r,s1,s2,r3⟩
   ·exact quit a n g0 g1 g2 g3 prev (fun _=>by symm;simpa using htag)
  ·exact quit a n g0 g1 g2 g3 prev (fun x=>absurd x h1)
theorem ayM (hne:T≠[]) (hrows:∀ r ∈ T,Xn r) (d:Nat):∀ (i a:Int) (last:ByteArray),0≤i→i≤(T.length:Int)→(T.length:Int) - i≤d→0≤a→a≤(body.length:Int)→(0<i→last=(di T (i - 1)).f0) →
  ∃ r,aa (fun k=>dP.l0 k body T a i) r∧aa (fun k=>eY.l0 k body a last T (T.length:Int) i) r∧(r.2.2=0→Fits body (T.drop i.toNat) a):=by
 have hpos:0<T.length:=List.length_pos_iff.2 hne
 have stop:∀ (a:Int) (last:ByteArray),0≤a→a≤(body.length:Int)→last=(di T ((T.length:Int) - 1)).f0 →
   ∃ r,aa (fun k=>dP.l0 k body T a (T.length:Int)) r∧aa (fun k=>eY.l0 k body a last T (T.length:Int) (T.length:Int)) r∧(r.2.2=0→Fits body (T.drop (T.length:Int).toNat) a):=fun a last a0 a1 hlast=>by
  have hw1:wrap64 ((T.length:Int) - 1)=(T.length:Int) - 1:=dN (by omega) (by omega)
  by_cases hend:a=(body.length:Int)
  ·refine ⟨(0,0,0),?_,?_,fun _=>?_⟩
   ·apply aa.succ
    simp only [dP.l0]
    exact aa.neg (by omega) (aa.neg (by omega) (aa.pure _))
   ·apply aa.succ
    simp only [eY.l0]
    exact aa.neg (by omega) (aa.pos hend (aa.pure _))
   ·rw [Int.toNat_natCast,List.drop_length]
    exact hend
  ·have hlt:a<(body.length:Int):=by omega
   by_cases htag:(av body a).f0.toList=(di T ((T.length:Int) - 1)).f0.toList
   ·refine ⟨(a,0,7),?_,?_,fun h=>absurd h (by simp)⟩
    ·apply aa.succ
     simp only [dP.l0,hw1]
     exact aa.neg (by omega) (aa.pos hlt (aa.pos a0 (aa.pos (by omega) (aa.pos (by omega) (aa.pos htag (aa.pure _))))))
    ·apply aa.succ
     simp only [eY.l0]
     exact aa.neg (by omega) (aa.neg hend (aa.pos a0 (aa.pos hlt (aa.pos (by rw [hlast];exact htag) (aa.pure _)))))
   ·refine ⟨(a,0,3),?_,?_,fun h=>absurd h (by simp)⟩
    ·apply aa.succ
     simp only [dP.l0,hw1]
     exact aa.neg (by omega) (aa.pos hlt (aa.pos a0 (aa.pos (by omega) (aa.pos (by omega) (aa.neg htag (aa.pure _))))))
    ·apply aa.succ
     simp only [eY.l0]
     exact aa.neg (by omega) (aa.neg hend (aa.pos a0 (aa.pos hlt (aa.neg (by rw [hlast];exact htag) (aa.pure _)))))
 induction d with
 | zero =>
  intro i a last i0 i1 hd a0 a1 hlast
  obtain rfl:i=(T.length:Int):=by omega
  exact stop a last a0 a1 (hlast (by omega))
 | succ d ih =>
  intro i a last i0 i1 hd a0 a1 hlast
  by_cases hlt:i<(T.length:Int)
  ·have hr:Xn (di T i):=by
    unfold di
    rw [getD_at T _ _ (by omega)]
    exact hrows _ (List.getElem_mem _)
   obtain ⟨r,r1,r2,r3⟩:=ayL body he hl T hT i i0 hlt hr (fun b b0 b1=>ih (i+1) b _ (by omega) (by omega) (by omega) b0 b1 (fun _=>by rw [show i+1 - 1=i by omega])) a a0 body.length a 0 (Int.le_refl _) a1 (by omega) (by have:=hr.1;omega) (by omega) (fun j j0 j1=>absurd j1 (by omega))
   refine ⟨r,?_,?_,r3⟩
   ·apply aa.succ
    simp only [dP.l0]
    exact aa.pos hlt r1
   ·apply aa.succ
    simp only [eY.l0]
    exact aa.pos hlt (aa.pos i0 (aa.pos hlt r2))
  ·obtain rfl:i=(T.length:Int):=by omega
   exact stop a last a0 a1 (hlast (by omega))
end
theorem adL (k:Int) (body:List bA) (he:H7 body):∃ r,aa (fun n=>dP.f n k body) r∧aa (fun n=>eY.f n k body) r∧(r.2.2=0→tab k≠[]∧body.length≤400∧Fits body (tab k) 0):=by
 have hb:=he.1
 unfold dP.f eY.f Mk.f
 simp only [Option.bind_some,yX]
 by_cases hbig:(body.length:Int)>400
 ·exact ⟨(0,0,2),aa.pos hbig (aa.pure _),aa.pos (decide_eq_true hbig) (aa.pure _),fun h=>absurd h (by simp)⟩
 have hn:¬ decide ((body.length:Int)>400)=true:=by simpa using hbig
 rcases kinds k with h | ⟨h,h0⟩
 ·have hne:tab k≠[]:=by rcases h with rfl|rfl|rfl|rfl|rfl|rfl|rfl <;> decide
  have hpos:0<(tab k).length:=List.length_pos_iff.2 hne
  obtain ⟨r,r1,r2,r3⟩:=ayM body he (by omega) (tab k) (XZ k).2 hne (XZ k).1 (tab k).length 0 0 (⟨#[]⟩:ByteArray) (Int.le_refl _) (by omega) (by omega) (Int.le_refl _) (by omega) (fun h=>absurd h (by omega))
  exact ⟨r,aa.neg hbig (aa.bind (ala k) (aa.neg (by omega) r1)),aa.neg hn (aa.pos (fC (by omega)) (aa.bind (aka k) r2)),fun h=>⟨hne,by omega,r3 h⟩⟩
 ·refine ⟨(0,0,1),aa.neg hbig (aa.bind (ala k) ?_),aa.neg hn (aa.neg (by rw [fK (by omega)];decide) (aa.pure _)),fun h=>absurd h (by simp)⟩
  rw [h0]
  exact aa.pos (by simp) (aa.pure _)
end Go.Proofs.YtapilmimgiaglaaGreatDoor.QA
