-- Merged by a program of this session (wip/tool/pack.py) out of its own texts for this claim.
import Derived.Lib.ParseIntBTie
import Derived.Lib.IndexMore
import Derived.Test.YtogkcllenfkdmaaGreatDoorKFnExactPaperRight0
import Derived.Test.YtogkcllenfkdmaaGreatDoorKFnExactPaperRight1
import Derived.Test.YtogkcllenfkdmaaGreatDoorKFnExactPaperRight3
import Derived.Test.YtogkcllenfkdmaaGreatDoorKFnExactPaperRight4
import Derived.Test.YtogkcllenfkdmaaGreatDoorKFnExactPaperRight5
import Derived.Test.YtogkcllenfkdmaaGreatDoorKFnExactPaperRight17
import Derived.Test.YtogkcllenfkdmaaGreatDoorKFnExactPaperRight19
namespace Go.Proofs.YtogkcllenfkdmaaGreatDoor.QR
open Go.RowKit Go.Proofs.YtogkcllenfkdmaaGreatDoorW.PrintWords Go.Proofs.YtogkcllenfkdmaaGreatDoor.Ev0 Go.Proofs.YtogkcllenfkdmaaGreatDoor.Num
theorem bt_get (s:ByteArray) (i:Int) (h0:0≤i) (h:i<(s.size:Int)):∃ c,s.data.toList[i.toNat]? = some c∧bt s i=(c.toNat:Int):=by
 have h':i.toNat<s.size:=by omega
 have h2:i.toNat<s.data.toList.length:=by rw [data_length];exact h'
 refine ⟨s.data.toList[i.toNat],List.getElem?_eq_getElem h2,?_⟩
 rw [← bt_at s i h']
 simp only [Array.getElem_toList]
 rfl
theorem all_bytes (s:ByteArray) (p:Int→Prop):(∀ i,0≤i→i<(s.size:Int)→p (bt s i)) ↔ ∀ c ∈ s.data.toList,p (c.toNat:Int):=by
 constructor
 ·intro h c hc
  obtain ⟨j,hj,rfl⟩:=List.mem_iff_getElem.1 hc
  have hj':j<s.size:=by rw [← data_length];exact hj
  obtain ⟨c',h1,h2⟩:=bt_get s (j:Int) (by omega) (by omega)
  rw [Int.toNat_natCast,List.getElem?_eq_getElem hj] at h1
  rw [Option.some.inj h1,← h2]
  exact h _ (by omega) (by omega)
 ·intro h i h0 h1
  obtain ⟨c,h2,h3⟩:=bt_get s i h0 h1
  rw [h3]
  exact h c (List.mem_of_getElem? h2)
theorem head_bt (s:ByteArray) (h:0<s.size) (b:UInt8):s.data.toList.head? = some b ↔ bt s 0=(b.toNat:Int):=by
 obtain ⟨c,h1,h2⟩:=bt_get s 0 (by omega) (by omega)
 rw [h2,List.head?_eq_getElem?]
 rw [show ((0:Int).toNat)=0 from rfl] at h1
 rw [h1]
 constructor
 ·intro e;rw [Option.some.inj e]
 ·intro e
  congr 1
  exact UInt8.toNat_inj.1 (by omega)
theorem tail_extract (s:ByteArray):(s.extract 1 s.size).data.toList=s.data.toList.tail:=by
 cases s with|mk x =>
 cases x with|mk l =>
 cases l with
 | nil=>simp [ByteArray.size]
 | cons a r=>simp [ByteArray.size]
theorem str_of (s:ByteArray) (l:List UInt8):s.toList=l ↔ s.data.toList=l:=by rw [Lib.toList_data]
theorem size_nil (s:ByteArray):s.data.toList=[] ↔ s.size=0:=by
 rw [← data_length]
 exact List.eq_nil_iff_length_eq_zero
theorem dig_int (c:UInt8):dig c ↔ 48≤(c.toNat:Int)∧(c.toNat:Int)≤57:=by unfold dig;omega
theorem digs_some (s:ByteArray):(s.size≠0∧bt s 0=45→digs s.data.toList=(s.extract 1 s.size).data.toList)∧(¬ (s.size≠0∧bt s 0=45)→digs s.data.toList=s.data.toList):=by
 unfold digs
 constructor
 ·rintro ⟨h0,h⟩
  rw [if_pos ((head_bt s (by omega) 45).2 h),tail_extract]
 ·intro h
  rw [if_neg]
  intro e
  have h0:s.size≠0:=fun z=>by rw [(size_nil s).2 z] at e;cases e
  exact h ⟨h0,(head_bt s (by omega) 45).1 e⟩
theorem implNum_l (s d:ByteArray) (hd:(d.size:Int)≤9223372036854775807) (hdig:digs s.data.toList=d.data.toList) :
  Evt (fun k=>impl_isNumber.l0 k s d (d.size:Int) 0) (B (isNum s.data.toList)):=by
 refine (right_loop (d.size:Int) (by omega) (fun i=>48≤bt d i∧bt d i≤57) (d.size≠0∧(bt d 0≠48∨s.data.toList=[48])) (fun k i=>impl_isNumber.l0 k s d (d.size:Int) i) ?_ ?_).same (B_congr ?_)
 ·intro i h0 hlt
  have hw:wrap64 (i+1)=i+1:=w64 (by omega) (by omega)
  simp only [impl_isNumber.l0,isDigit_ev,Option.bind_some,hw]
  exact ⟨fun hk r hr=>Evt.pos hlt (Evt.pos h0 (Evt.pos hlt (Evt.pos (B_true hk) hr))),fun hk=>Evt.pos hlt (Evt.pos h0 (Evt.pos hlt (Evt.neg (by rw [B_false hk];decide) (Evt.pure _))))⟩
 ·simp only [impl_isNumber.l0]
  refine Evt.neg (by omega) (Evt.ite (fun h=>(Evt.pure _).same (B_false (fun x=>x.1 ((size_nil d).1 ((str_of d _).1 h)))).symm) (fun h=>?_))
  have hz:d.size≠0:=fun z=>h ((str_of d _).2 ((size_nil d).2 z))
  refine Evt.pos (by omega) (Evt.ite (fun h1=>(Evt.pure _).same ?_) (fun h1=>(Evt.pure _).same (B_true ⟨hz,.inl h1⟩).symm))
  refine bool_B ?_
  rw [beq_iff_eq,str_of]
  exact ⟨fun e=>⟨hz,.inr e⟩,fun e=>e.2.resolve_left (fun x=>x h1)⟩
 ·unfold isNum
  rw [hdig]
  constructor
  ·rintro ⟨h1,h2,h3⟩
   refine ⟨fun e=>h2 ((size_nil d).1 e),fun c hc=>(dig_int c).2 ((all_bytes d (fun x=>48≤x∧x≤57)).1 h1 c hc),h3.imp (fun h e=>h ((head_bt d (by omega) 48).1 e)) id⟩
  ·rintro ⟨h1,h2,h3⟩
   have hz:d.size≠0:=fun z=>h1 ((size_nil d).2 z)
   exact ⟨(all_bytes d (fun x=>48≤x∧x≤57)).2 (fun c hc=>(dig_int c).1 (h2 c hc)),hz,h3.imp (fun h e=>h ((head_bt d (by omega) 48).2 e)) id⟩
theorem extract_size (s:ByteArray):((s.extract 1 s.size).size:Int)≤s.size:=by
 rw [← data_length,tail_extract,List.length_tail,data_length]
 omega
theorem implNum_ev (s:ByteArray) (hs:(s.size:Int)≤9223372036854775807):Evt (fun k=>impl_isNumber.f k s) (B (isNum s.data.toList)):=by
 unfold impl_isNumber.f
 have he:=extract_size s
 have no:¬ (s.size≠0∧bt s 0=45)→Evt (fun k=>impl_isNumber.j0 k s s false) (B (isNum s.data.toList)):=fun h=>by
  apply Evt.succ
  simp only [impl_isNumber.j0]
  refine Evt.neg (by decide) ?_
  apply Evt.succ
  simp only [impl_isNumber.j1]
  exact implNum_l s s hs ((digs_some s).2 h)
 refine Evt.ite (fun h=>no (fun x=>x.1 ((size_nil s).1 ((str_of s _).1 h)))) (fun h=>?_)
 have hz:s.size≠0:=fun z=>h ((str_of s _).2 ((size_nil s).2 z))
 refine Evt.pos (by omega) ?_
 by_cases h1:bt s 0=45
 ·rw [show (bt s 0 == 45)=true by rw [h1];rfl]
  apply Evt.succ
  simp only [impl_isNumber.j0]
  refine Evt.pos (by simp) (Evt.pos (by omega) ?_)
  apply Evt.succ
  simp only [impl_isNumber.j1]
  exact implNum_l s _ (by omega) ((digs_some s).1 ⟨hz,h1⟩)
 ·rw [show (bt s 0 == 45)=false by simpa using h1]
  exact no (fun x=>h1 x.2)
theorem val_lt (l:List UInt8):∀ acc,(∀ c ∈ l,dig c)→val acc l+1≤(acc+1) * 10 ^ l.length:=by
 induction l with
 | nil =>
  intro acc _
  show acc+1≤(acc+1) * 1
  omega
 | cons c r ih =>
  intro acc h
  have hc:=h c (List.mem_cons_self ..)
  have:=ih (acc * 10+(c.toNat - 48)) (fun x hx=>h x (List.mem_cons_of_mem _ hx))
  unfold dig at hc
  have e:val acc (c :: r)=val (acc * 10+(c.toNat - 48)) r:=rfl
  rw [e,List.length_cons,Nat.pow_succ]
  refine Nat.le_trans this ?_
  have h2:acc * 10+(c.toNat - 48)+1≤(acc+1) * 10:=by omega
  calc (acc * 10+(c.toNat - 48)+1) * 10 ^ r.length≤((acc+1) * 10) * 10 ^ r.length:=Nat.mul_le_mul_right _ h2
   _=(acc+1) * (10 ^ r.length * 10):=by rw [Nat.mul_assoc,Nat.mul_comm 10]
theorem val_small (l:List UInt8) (h:∀ c ∈ l,dig c) (hl:l.length≤12):val 0 l<1000000000000:=by
 have h1:=val_lt l 0 h
 have h2:10 ^ l.length≤10 ^ 12:=Nat.pow_le_pow_right (by decide) hl
 omega
theorem specNum_l (s d:ByteArray) (neg:Bool) (hd:d.size≤12) (post:List UInt8):∀ pre,d.data.toList=pre++post→(∀ c ∈ pre,dig c) →
  ((∀ c ∈ post,dig c)→∀ r,Evt (fun k=>if neg=true then ((spec_l01Dec.f k (wrap64 (-(val 0 d.data.toList:Int)))).bind fun t139=>(some (wrap64 (-(val 0 d.data.toList:Int)),(t139.toList == s.toList)))) else ((spec_l01Dec.f k (val 0 d.data.toList:Int)).bind fun t140=>(some ((val 0 d.data.toList:Int),(t140.toList == s.toList))))) r→Evt (fun k=>spec_l01Num.l0 k s neg d (val 0 pre:Int) (pre.length:Int)) r) ∧
  (¬ (∀ c ∈ post,dig c)→Evt (fun k=>spec_l01Num.l0 k s neg d (val 0 pre:Int) (pre.length:Int)) (0,false)):=by
 induction post with
 | nil =>
  intro pre hp hpre
  have hp':d.data.toList=pre:=by simpa using hp
  have hl:d.size=pre.length:=by rw [← data_length,hp']
  refine ⟨fun _ r hr=>?_,fun h=>absurd (by simp) h⟩
  apply Evt.succ
  simp only [spec_l01Num.l0]
  refine Evt.neg (by omega) ?_
  rw [hp'] at hr
  exact hr
 | cons c post ih =>
  intro pre hp hpre
  have hl:d.size=pre.length+(post.length+1):=by rw [← data_length,hp];simp
  have hlt:(pre.length:Int)<(d.size:Int):=by omega
  obtain ⟨c',h1,h2⟩:=bt_get d (pre.length:Int) (by omega) hlt
  have hc:c'=c:=by
   rw [hp,Int.toNat_natCast] at h1
   simpa using h1.symm
  subst hc
  have go:dig c'→∀ r,Evt (fun k=>spec_l01Num.l0 k s neg d (val 0 (pre++[c']):Int) ((pre++[c']).length:Int)) r→Evt (fun k=>spec_l01Num.l0 k s neg d (val 0 pre:Int) (pre.length:Int)) r:=fun hg r hr=>by
   have hs:=val_small pre hpre (by omega)
   have hg':=hg
   unfold dig at hg'
   apply Evt.succ
   simp only [spec_l01Num.l0,h2]
   refine Evt.pos hlt (Evt.pos (by omega) (Evt.neg (by omega) (Evt.neg (by omega) ?_)))
   have e1:wrap64 (wrap64 (10 * (val 0 pre:Int))+(((c'.toNat:Int) - 48) % 256))=(val 0 (pre++[c']):Int):=by
    rw [val_snoc,w64 (x:=10 * (val 0 pre:Int)) (by omega) (by omega),w64 (by omega) (by omega)]
    omega
   have e2:wrap64 ((pre.length:Int)+1)=((pre++[c']).length:Int):=by
    rw [w64 (by omega) (by omega)]
    simp
   rw [e1,e2]
   exact hr
  refine ⟨fun h r hr=>?_,fun h=>?_⟩
  ·have hg:=h c' (List.mem_cons_self ..)
   exact go hg r ((ih (pre++[c']) (by rw [hp];simp) (fun x hx=>(List.mem_append.1 hx).elim (hpre x) (fun y=>by rw [List.mem_singleton.1 y];exact hg))).1 (fun x hx=>h x (List.mem_cons_of_mem _ hx)) r hr)
  ·by_cases hg:dig c'
   ·exact go hg _ ((ih (pre++[c']) (by rw [hp];simp) (fun x hx=>(List.mem_append.1 hx).elim (hpre x) (fun y=>by rw [List.mem_singleton.1 y];exact hg))).2 (fun x=>h (fun y hy=>(List.mem_cons.1 hy).elim (fun e=>by rw [e];exact hg) (x y))))
   ·apply Evt.succ
    simp only [spec_l01Num.l0,h2]
    refine Evt.pos hlt (Evt.pos (by omega) ?_)
    by_cases g:(c'.toNat:Int)<48
    ·exact Evt.pos g (Evt.pure _)
    ·refine Evt.neg g (Evt.pos ?_ (Evt.pure _))
     rw [dig_int] at hg
     omega
theorem l01Num_ev (s:ByteArray) (hs:(s.size:Int)≤9223372036854775807):∃ v,Evt (fun k=>spec_l01Num.f k s) (v,B (isNum s.data.toList∧(digs s.data.toList).length≤12))∧(isNum s.data.toList→(digs s.data.toList).length≤12→v=valT s.data.toList):=by
 unfold spec_l01Num.f
 have core:∀ (neg:Bool) (d:ByteArray),digs s.data.toList=d.data.toList→(neg=true ↔ s.data.toList.head? = some 45) →
   ∃ v,Evt (fun k=>spec_l01Num.j1 k s neg d) (v,B (isNum s.data.toList∧(digs s.data.toList).length≤12))∧(isNum s.data.toList→(digs s.data.toList).length≤12→v=valT s.data.toList):=fun neg d hdig hneg=>by
  have hdl:(digs s.data.toList).length=d.size:=by rw [hdig,data_length]
  by_cases h1:d.size<1
  ·refine ⟨0,?_,fun h=>absurd ?_ h.1⟩
   ·apply Evt.succ
    simp only [spec_l01Num.j1]
    refine Evt.pos (by omega) ?_
    apply Evt.succ
    simp only [spec_l01Num.j2]
    refine Evt.pos (by simp) ((Evt.pure _).same (congrArg _ (B_false (fun h=>h.1.1 ?_)).symm))
    rw [hdig];exact (size_nil d).2 (by omega)
   ·rw [hdig];exact (size_nil d).2 (by omega)
  ·by_cases h2:12<d.size
   ·refine ⟨0,?_,fun _ h=>absurd h (by omega)⟩
    apply Evt.succ
    simp only [spec_l01Num.j1]
    refine Evt.neg (by omega) ?_
    rw [decide_eq_true (show (d.size:Int)>12 by omega)]
    apply Evt.succ
    simp only [spec_l01Num.j2]
    exact Evt.pos (by simp) ((Evt.pure _).same (congrArg _ (B_false (fun h=>by have:=h.2;omega)).symm))
   ·have head:∀ r,Evt (fun k=>spec_l01Num.l0 k s neg d 0 0) r→Evt (fun k=>spec_l01Num.j1 k s neg d) r:=fun r hr=>by
     apply Evt.succ
     simp only [spec_l01Num.j1]
     refine Evt.neg (by omega) ?_
     rw [decide_eq_false (show ¬ (d.size:Int)>12 by omega)]
     apply Evt.succ
     simp only [spec_l01Num.j2]
     exact Evt.neg (by decide) hr
    obtain ⟨l1,l2⟩:=specNum_l s d neg (by omega) d.data.toList [] rfl (by simp)
    by_cases hd:∀ c ∈ d.data.toList,dig c
    ·have hv:=val_small d.data.toList hd (by rw [data_length];omega)
     have hvT:valT s.data.toList=if neg=true then -(val 0 d.data.toList:Int) else (val 0 d.data.toList:Int):=by
      unfold valT
      rw [hdig]
      by_cases hn:neg=true
      ·rw [if_pos (hneg.1 hn),if_pos hn]
      ·rw [if_neg (fun e=>hn (hneg.2 e)),if_neg hn]
     have hB:∀ x:List UInt8,x=Lib.itoa (valT s.data.toList)→((bs8 x).toList == s.toList)=B (isNum s.data.toList∧(digs s.data.toList).length≤12):=fun x hx=>by
      refine bool_B ?_
      rw [beq_iff_eq,Lib.toList_data,Lib.toList_data,show (bs8 x).data.toList=x by simp [bs8],hx]
      exact ⟨fun e=>⟨itoa_num _ (by rw [hdig];exact hd) e,by omega⟩,fun e=>num_itoa _ e.1⟩
     refine ⟨valT s.data.toList,head _ (l1 hd _ ?_),fun _ _=>rfl⟩
     cases neg with
     | true =>
      rw [if_pos rfl] at hvT
      refine Evt.pos (by simp) ?_
      rw [w64 (by omega) (by omega)]
      refine Evt.bind (l01Dec_ev _ (by omega) (by omega)) ((Evt.pure _).same ?_)
      rw [hB _ (by rw [hvT]),hvT]
     | false =>
      rw [if_neg (by decide)] at hvT
      refine Evt.neg (by decide) (Evt.bind (l01Dec_ev _ (by omega) (by omega)) ((Evt.pure _).same ?_))
      rw [hB _ (by rw [hvT]),hvT]
    ·exact ⟨0,head _ ((l2 hd).same (congrArg _ (B_false (fun h=>hd (by have:=h.1.2.1;rwa [hdig] at this))).symm)),fun h=>absurd (by have:=h.2.1;rwa [hdig] at this) hd⟩
 by_cases hz:s.size=0
 ·obtain ⟨v,h1,h2⟩:=core false s ((digs_some s).2 (fun x=>x.1 hz)) ⟨fun e=>(by cases e),fun e=>by rw [(size_nil s).2 hz] at e;cases e⟩
  refine ⟨v,Evt.neg (by omega) ?_,h2⟩
  apply Evt.succ
  simp only [spec_l01Num.j0]
  exact Evt.neg (by decide) h1
 ·by_cases h0:bt s 0=45
  ·obtain ⟨v,h1,h2⟩:=core true _ ((digs_some s).1 ⟨hz,h0⟩) ⟨fun _=>(head_bt s (by omega) 45).2 h0,fun _=>rfl⟩
   refine ⟨v,Evt.pos (by omega) (Evt.pos (by omega) ?_),h2⟩
   rw [show (bt s 0 == 45)=true by rw [h0];rfl]
   apply Evt.succ
   simp only [spec_l01Num.j0]
   exact Evt.pos (by simp) (Evt.pos (by omega) h1)
  ·obtain ⟨v,h1,h2⟩:=core false s ((digs_some s).2 (fun x=>h0 x.2)) ⟨fun e=>(by cases e),fun e=>absurd ((head_bt s (by omega) 45).1 e) h0⟩
   refine ⟨v,Evt.pos (by omega) (Evt.pos (by omega) ?_),h2⟩
   rw [show (bt s 0 == 45)=false by simpa using h0]
   apply Evt.succ
   simp only [spec_l01Num.j0]
   exact Evt.neg (by decide) h1
theorem numberIn_ev (s:ByteArray) (hs:s.size≤281474976710656) (lo hi:Int) (h0 : -1000000000≤lo) (h1:hi≤1000000000) :
  ∃ v,Evt (fun k=>impl_numberIn.f k s lo hi) (v,B (isNum s.data.toList∧lo≤valT s.data.toList∧valT s.data.toList≤hi))∧(isNum s.data.toList∧lo≤valT s.data.toList∧valT s.data.toList≤hi→v=valT s.data.toList):=by
 unfold impl_numberIn.f
 rw [Lib.parseIntB_64]
 have small:isNum s.data.toList→lo≤valT s.data.toList→valT s.data.toList≤hi→Lib.atoiAll s.data.toList=.ok (valT s.data.toList):=fun h g0 g1=>by
  refine num_parse _ h ?_
  unfold valT at g0 g1
  split at g0 <;> rename_i e
  ·rw [if_pos e] at g1;omega
  ·rw [if_neg e] at g1;omega
 cases ha:Lib.atoiAll s.data.toList with
 | ok v =>
  refine ⟨v,Evt.pos hs (Evt.bind (implNum_ev s (by omega)) ?_),fun h=>parse_num _ h.1 v ha⟩
  by_cases hn:isNum s.data.toList
  ·have hv:=parse_num _ hn v ha
   refine Evt.pos (B_true hn) ?_
   rw [within_ev,hv]
   exact (Evt.pure _).same (congrArg _ (B_congr ⟨fun h=>⟨hn,h⟩,fun h=>h.2⟩))
  ·exact Evt.neg (by rw [B_false hn];decide) ((Evt.pure _).same (congrArg _ (B_false (fun h=>hn h.1)).symm))
 | «syntax»=>exact ⟨0,Evt.pos hs ((Evt.pure _).same (congrArg _ (B_false (fun h=>by rw [small h.1 h.2.1 h.2.2] at ha;cases ha)).symm)),fun h=>by rw [small h.1 h.2.1 h.2.2] at ha;cases ha⟩
 | range=>exact ⟨_,Evt.pos hs ((Evt.pure _).same (congrArg _ (B_false (fun h=>by rw [small h.1 h.2.1 h.2.2] at ha;cases ha)).symm)),fun h=>by rw [small h.1 h.2.1 h.2.2] at ha;cases ha⟩
end Go.Proofs.YtogkcllenfkdmaaGreatDoor.QR
namespace Go.Proofs.YtogkcllenfkdmaaGreatDoor.QR
open Go.RowKit Go.Proofs.YtogkcllenfkdmaaGreatDoorW.PrintWords Go.Proofs.YtogkcllenfkdmaaGreatDoor.Ev0
def okT (l:List ByteArray):Prop:=l.length≤9223372036854775807∧∀ x ∈ l,x.size≤9223372036854775807
def fewT (l:List ByteArray):Prop:=l.length≤1048576∧∀ x ∈ l,x.size≤1048576
theorem rdT_mem (l:List ByteArray) (i:Int) (h0:0≤i) (h:i<(l.length:Int)):rdOf ByteArray.empty l i ∈ l:=by
 unfold rdOf
 rw [getD_at l _ _ (by omega)]
 exact List.getElem_mem _
theorem all_at {α:Type} (l:List α) (z:α) (p:α→Prop) (h:∀ i:Int,0≤i→i<(l.length:Int)→p (l.getD i.toNat z)):∀ x ∈ l,p x:=by
 intro x hx
 obtain ⟨q,hq,rfl⟩:=List.mem_iff_getElem.1 hx
 have:=h (q:Int) (by omega) (by omega)
 rw [Int.toNat_natCast,getD_at l z _ hq] at this
 exact this
theorem szT_ev (l:List ByteArray) (hl:okT l) (left:Int) (h0:0≤left) (h1:left≤1048576):SzR (fun k=>laws_szStringS.f k l left) left (fewT l):=by
 have key:=sz_loop l.length hl.1 (fun i=>(rdOf ByteArray.empty l i).size≤1048576) (fun k=>laws_szStringS.f k l left) (fun k s i=>laws_szStringS.l0 k l s i) left h0 h1 (fun k=>rfl) ?_ ?_
 ·obtain ⟨t,ht,h⟩:=key
  exact ⟨t,ht,h.imp id (fun ⟨g0,g1,g2,g3⟩=>⟨g0,g1,g2,all_at l ByteArray.empty _ g3⟩)⟩
 ·intro s i h0 hlt hs0 hs1
  have hw:wrap64 (i+1)=i+1:=w64 (by omega) (by have:=hl.1;omega)
  have hk:=hl.2 _ (rdT_mem l i h0 hlt)
  simp only [laws_szStringS.l0,hw]
  rw [wsub hs0 hs1 (by omega) (by omega)]
  by_cases g:s - ((rdOf ByteArray.empty l i).size:Int)<0
  ·exact .inl ⟨-1,by decide,Evt.pos hlt (Evt.pos h0 (Evt.pos g (Evt.pure _)))⟩
  ·exact .inr ⟨_,by omega,by omega,by omega,fun r hr=>Evt.pos hlt (Evt.pos h0 (Evt.neg g hr))⟩
 ·intro s i hi
  simp only [laws_szStringS.l0]
  exact Evt.neg (by omega) (Evt.pure _)
theorem toT_ev (l:List ByteArray) (hl:l.length≤1048576):Evt (fun k=>laws_toStringS.f k l) l:=by
 unfold laws_toStringS.f
 refine Evt.pos (by omega) (Evt.pos (by omega) ?_)
 rw [Int.toNat_natCast]
 refine (fill_loop l ByteArray.empty (⟨#[]⟩:ByteArray) id (fun k acc i=>laws_toStringS.l0 k l acc i) ?_ ?_).same (List.map_id l)
 ·intro acc i h0 hlt ha r hr
  have hw:wrap64 (i+1)=i+1:=w64 (by omega) (by omega)
  simp only [laws_toStringS.l0,hw]
  exact Evt.pos hlt (Evt.pos h0 (Evt.pos (by omega) hr))
 ·intro acc i hi
  simp only [laws_toStringS.l0]
  exact Evt.neg (by omega) (Evt.pure _)
def fewI (l:List S103):Prop:=l.length≤1048576∧∀ x ∈ l,fewT x.f0
theorem fewI_at {l:List S103} (h:fewI l) (i:Int) (h0:0≤i) (hlt:i<(l.length:Int)):fewT (rd_T103 l i).f0:=by
 unfold rd_T103
 rw [getD_at l _ _ (by omega)]
 exact h.2 _ (List.getElem_mem _)
theorem eqS_refl (l:List ByteArray) (hl:l.length≤9000000):Evt (fun k=>laws_eqStringS.f k l l) true:=by
 unfold laws_eqStringS.f
 refine Evt.pos rfl (all_loop (l.length:Int) (by omega) (fun k i=>laws_eqStringS.l0 k l l i) ?_ ?_)
 ·intro i h0 hlt ih
  have hw:wrap64 (i+1)=i+1:=w64 (by omega) (by omega)
  simp only [laws_eqStringS.l0,if_true,hw]
  exact Evt.pos hlt (Evt.pos h0 (Evt.pos hlt ih))
 ·simp only [laws_eqStringS.l0]
  exact Evt.neg (by omega) (Evt.pure _)
theorem longText_ev (l:List ByteArray) (hl:l.length≤1000):Evt (fun k=>impl_longText.f k l) (B (∃ x ∈ l,(x.size:Int)>20000)):=by
 unfold impl_longText.f slices_ContainsFunc_string_string_impl_longText_1.f slices_IndexFunc_string_string_impl_longText_1.f
 obtain ⟨r,hr,h⟩:=find_loop (l.length:Int) (by omega) (fun i=>((rdOf ByteArray.empty l i).size:Int)>20000) (fun k i=>slices_IndexFunc_string_string_impl_longText_1.l0 k l (l.length:Int) i) (by
   intro i h0 hlt
   have hw:wrap64 (i+1)=i+1:=w64 (by omega) (by omega)
   simp only [slices_IndexFunc_string_string_impl_longText_1.l0,impl_longText_1.f,Option.bind_some,hw]
   exact ⟨fun hp=>Evt.pos hlt (Evt.pos h0 (Evt.pos hlt (Evt.pos (decide_eq_true hp) (Evt.pure _)))),fun hp r hr=>Evt.pos hlt (Evt.pos h0 (Evt.pos hlt (Evt.neg (by simpa using hp) hr)))⟩) (by
   simp only [slices_IndexFunc_string_string_impl_longText_1.l0]
   exact Evt.neg (by omega) (Evt.pure _))
 have at_:∀ i:Int,0≤i→i<(l.length:Int)→rdOf ByteArray.empty l i ∈ l:=fun i h0 h1=>by
  unfold rdOf
  rw [getD_at l _ _ (by omega)]
  exact List.getElem_mem _
 refine Evt.bind (Evt.bind hr (Evt.pure _)) ((Evt.pure _).same ?_)
 rw [decide_B]
 refine B_congr ⟨fun hg=>?_,fun ⟨x,hx,hg⟩=>?_⟩
 ·rcases h with ⟨h1,_⟩ | ⟨h1,h2,h3,_⟩
  ·omega
  ·exact ⟨_,at_ r h1 h2,h3⟩
 ·rcases h with ⟨h1,h2⟩ | ⟨h1,_⟩
  ·obtain ⟨i,hi,rfl⟩:=List.mem_iff_getElem.1 hx
   refine absurd ?_ (h2 i (by omega) (by omega))
   show ((rdOf ByteArray.empty l (i:Int)).size:Int)>20000
   unfold rdOf
   rw [Int.toNat_natCast,getD_at l _ _ hi]
   exact hg
  ·exact h1
theorem longText1_ev (s:ByteArray):Evt (fun k=>impl_longText.f k [s]) (B ((s.size:Int)>20000)) :=
 (longText_ev [s] (by simp)).same (B_congr ⟨fun ⟨x,hx,h⟩=>by rw [List.mem_singleton.1 hx] at h;exact h,fun h=>⟨s,by simp,h⟩⟩)
end Go.Proofs.YtogkcllenfkdmaaGreatDoor.QR
namespace Go.Proofs.YtogkcllenfkdmaaGreatDoor.QR
open Go.RowKit Go.Proofs.YtogkcllenfkdmaaGreatDoorW.PrintWords Go.Proofs.YtogkcllenfkdmaaGreatDoor.Ev0 Go.Proofs.YtogkcllenfkdmaaGreatDoor.Num
theorem num_zero (t:List UInt8) (h:isNum t):valT t=0 ↔ t=[48]:=by
 constructor
 ·intro e
  have:=num_itoa t h
  rw [e] at this
  rw [← this]
  unfold Lib.itoa
  rw [if_neg (by decide),show (0:Int).toNat=0 from rfl,Lib.decDigits,dif_pos (by decide)]
  rfl
 ·rintro rfl
  rfl
theorem num_12 (t:List UInt8) (h:isNum t) (g0 : -1000000000≤valT t) (g1:valT t≤1000000000):(digs t).length≤12:=by
 refine num_len t h ?_
 unfold valT at g0 g1
 split at g0 <;> rename_i e
 ·rw [if_pos e] at g1;omega
 ·rw [if_neg e] at g1;omega
def PartPr (s:ByteArray):Prop:=(s.size:Int)≤40∧∀ i:Int,0≤i→i<(s.size:Int)→32≤bt s i∧bt s i≤126
theorem implPt_ev (s:ByteArray) (hs:(s.size:Int)≤9223372036854775806):Evt (fun k=>impl_isPart.f k s) (B (PartPr s)):=by
 unfold impl_isPart.f impl_isPrinted.f
 refine and_ Iff.rfl (fun h=>?_)
 refine (Evt.bind (right_loop (s.size:Int) (by omega) (fun i=>32≤bt s i∧bt s i≤126) True (fun k i=>impl_isPrinted.l0 k s (s.size:Int) i) ?_ ?_) (Evt.pure _)).same (B_congr ⟨fun x=>x.1,fun x=>⟨x,trivial⟩⟩)
 ·intro i h0 hlt
  have hw:wrap64 (i+1)=i+1:=w64 (by omega) (by omega)
  simp only [impl_isPrinted.l0,hw]
  refine ⟨fun hk r hr=>Evt.pos hlt (Evt.pos h0 (Evt.pos hlt (Evt.neg (by omega) (Evt.neg (by omega) hr)))),fun hk=>Evt.pos hlt (Evt.pos h0 (Evt.pos hlt (Evt.ite (fun _=>Evt.pure _) (fun _=>Evt.pos (by omega) (Evt.pure _)))))⟩
 ·simp only [impl_isPrinted.l0]
  exact Evt.neg (by omega) ((Evt.pure _).same (B_true trivial).symm)
theorem specPt_ev (s:ByteArray) (hs:(s.size:Int)≤9223372036854775806):Evt (fun k=>spec_l02Part.f k s) (B (PartPr s)):=by
 unfold spec_l02Part.f
 refine fail_ (by omega) (fun h=>?_)
 refine (right_loop (s.size:Int) (by omega) (fun i=>32≤bt s i∧bt s i≤126) True (fun k i=>spec_l02Part.l0 k s i) ?_ ?_).same (B_congr ⟨fun x=>x.1,fun x=>⟨x,trivial⟩⟩)
 ·intro i h0 hlt
  have hw:wrap64 (i+1)=i+1:=w64 (by omega) (by omega)
  simp only [spec_l02Part.l0,hw]
  refine ⟨fun hk r hr=>Evt.pos hlt (Evt.pos h0 (Evt.neg (by omega) (Evt.neg (by omega) hr))),fun hk=>Evt.pos hlt (Evt.pos h0 (Evt.ite (fun _=>Evt.pure _) (fun _=>Evt.pos (by omega) (Evt.pure _))))⟩
 ·simp only [spec_l02Part.l0]
  exact Evt.neg (by omega) ((Evt.pure _).same (B_true trivial).symm)
def okF (c:Int):Prop:=c=114∨c=110∨c=113∨c=122∨c=100∨c=116
theorem l01Day_ev (n:Int):spec_l01Day.f n=some (B (0≤n∧n≤100000)):=by
 unfold spec_l01Day.f
 by_cases h:n≥0
 ·rw [if_pos h,decide_B]
  exact congrArg some (B_congr ⟨fun x=>⟨h,x⟩,fun x=>x.2⟩)
 ·rw [if_neg h,B_false (fun x=>h x.1)]
theorem el_ev (c : Int) (hc : okF c) (l : List ByteArray) (hl : (l.length : Int) = 1) (hs : (rdOf ByteArray.empty l 0).size ≤ 1048576) :
    ∃ b, Evt (fun k => spec_l04Element.f k c l) b ∧ Evt (fun k => impl_isOf.f k c (rdOf ByteArray.empty l 0)) b := by
  generalize hg : rdOf ByteArray.empty l 0 = s at hs
  obtain ⟨v, hv, hvT⟩ := l01Num_ev s (by omega)
  have start : ∀ b, Evt (fun k => if c = 114 then ((spec_l01Name.f k s).bind fun t145 => (some t145)) else (if c = 110 then (if (v, B (isNum s.data.toList ∧ (digs s.data.toList).length ≤ 12)).2 = true then (if (v, B (isNum s.data.toList ∧ (digs s.data.toList).length ≤ 12)).1 ≥ 0 then (some (decide ((v, B (isNum s.data.toList ∧ (digs s.data.toList).length ≤ 12)).1 ≤ 1000000000))) else (some false)) else (some false)) else (if c = 113 then (if (v, B (isNum s.data.toList ∧ (digs s.data.toList).length ≤ 12)).2 = true then ((spec_l01Qty.f (v, B (isNum s.data.toList ∧ (digs s.data.toList).length ≤ 12)).1).bind fun t146 => (some t146)) else (some false)) else (if c = 122 then (if (v, B (isNum s.data.toList ∧ (digs s.data.toList).length ≤ 12)).2 = true then (if (v, B (isNum s.data.toList ∧ (digs s.data.toList).length ≤ 12)).1 ≥ (-1000000) then (if (v, B (isNum s.data.toList ∧ (digs s.data.toList).length ≤ 12)).1 ≤ 1000000 then (some ((v, B (isNum s.data.toList ∧ (digs s.data.toList).length ≤ 12)).1 != 0)) else (some false)) else (some false)) else (some false)) else (if c = 100 then (if (v, B (isNum s.data.toList ∧ (digs s.data.toList).length ≤ 12)).2 = true then ((spec_l01Day.f (v, B (isNum s.data.toList ∧ (digs s.data.toList).length ≤ 12)).1).bind fun t147 => (some t147)) else (some false)) else (if s.toList = ([] : List UInt8) then (some false) else ((spec_l02Part.f k s).bind fun t148 => (some t148)))))))) b → Evt (fun k => spec_l04Element.f k c l) b := fun b hb => by
    unfold spec_l04Element.f
    rw [hg]
    exact Evt.pos hl (Evt.pos (by omega) (Evt.bind hv hb))
  -- the numbers: one bound from below, one from above
  have num : ∀ lo hi : Int, -1000000000 ≤ lo → hi ≤ 1000000000 → ∃ w, Evt (fun k => impl_numberIn.f k s lo hi) (w, B ((isNum s.data.toList ∧ (digs s.data.toList).length ≤ 12) ∧ lo ≤ v ∧ v ≤ hi)) := fun lo hi h0 h1 => by
    obtain ⟨w, hw, _⟩ := numberIn_ev s (by omega) lo hi h0 h1
    refine ⟨w, hw.same (congrArg _ (B_congr ⟨fun h => ?_, fun h => ?_⟩))⟩
    · have h12 := num_12 _ h.1 (by omega) (by omega)
      rw [hvT h.1 h12]
      exact ⟨⟨h.1, h12⟩, h.2⟩
    · have e := hvT h.1.1 h.1.2
      rw [e] at h
      exact ⟨h.1.1, h.2⟩
  have no : ∀ q : Prop, ¬ (isNum s.data.toList ∧ (digs s.data.toList).length ≤ 12) → false = B ((isNum s.data.toList ∧ (digs s.data.toList).length ≤ 12) ∧ q) := fun q hn => (B_false (fun x => hn x.1)).symm
  rcases hc with rfl | rfl | rfl | rfl | rfl | rfl
  · refine ⟨nameB s, start _ (Evt.pos rfl (Evt.bind (specName_ev s (by omega)) (Evt.pure _))), ?_⟩
    unfold impl_isOf.f
    exact Evt.pos rfl (Evt.bind (implName_ev s (by omega)) (Evt.pure _))
  · obtain ⟨w, hw⟩ := num 0 1000000000 (by decide) (by decide)
    refine ⟨B ((isNum s.data.toList ∧ (digs s.data.toList).length ≤ 12) ∧ 0 ≤ v ∧ v ≤ 1000000000), start _ (Evt.neg (by decide) (Evt.pos rfl (Evt.ite (fun h => ?_) (fun h => (Evt.pure _).same (no _ (fun x => h (B_true x))))))), ?_⟩
    rotate_left
    · unfold impl_isOf.f
      exact Evt.neg (by decide) (Evt.pos rfl (Evt.bind hw (Evt.pure _)))
    · have h' := B_iff.1 h
      exact Evt.ite (fun h1 => (Evt.pure _).same ((decide_B _).trans (B_congr ⟨fun x => ⟨h', h1, x⟩, fun x => x.2.2⟩))) (fun h1 => (Evt.pure _).same (B_false (fun x => h1 x.2.1)).symm)
  · obtain ⟨w, hw⟩ := num 1 1000000 (by decide) (by decide)
    refine ⟨B ((isNum s.data.toList ∧ (digs s.data.toList).length ≤ 12) ∧ 1 ≤ v ∧ v ≤ 1000000), start _ (Evt.neg (by decide) (Evt.neg (by decide) (Evt.pos rfl (Evt.ite (fun h => ?_) (fun h => (Evt.pure _).same (no _ (fun x => h (B_true x)))))))), ?_⟩
    rotate_left
    · unfold impl_isOf.f
      exact Evt.neg (by decide) (Evt.neg (by decide) (Evt.pos rfl (Evt.bind hw (Evt.pure _))))
    · have h' := B_iff.1 h
      simp only [l01Qty_ev, Option.bind_some]
      exact (Evt.pure _).same (B_congr ⟨fun x => ⟨h', x⟩, fun x => x.2⟩)
  · obtain ⟨w, hw⟩ := num (-1000000) 1000000 (by decide) (by decide)
    by_cases h : isNum s.data.toList ∧ (digs s.data.toList).length ≤ 12
    · have e := hvT h.1 h.2
      have hz : (v != 0) = (s.toList != ([48] : List UInt8)) := by
        have hnz := num_zero _ h.1
        rw [← e] at hnz
        by_cases z : v = 0
        · rw [show (v != 0) = false by simp [z], show (s.toList != ([48] : List UInt8)) = false by simp [(str_of s _).2 (hnz.1 z)]]
        · rw [show (v != 0) = true by simp [z], show (s.toList != ([48] : List UInt8)) = true by simp only [bne_iff_ne, ne_eq]; exact fun x => z (hnz.2 ((str_of s _).1 x))]
      by_cases g : -1000000 ≤ v ∧ v ≤ 1000000
      · refine ⟨v != 0, start _ (Evt.neg (by decide) (Evt.neg (by decide) (Evt.neg (by decide) (Evt.pos rfl (Evt.pos (B_true h) (Evt.pos g.1 (Evt.pos g.2 (Evt.pure _)))))))), ?_⟩
        unfold impl_isOf.f
        refine Evt.neg (by decide) (Evt.neg (by decide) (Evt.neg (by decide) (Evt.pos rfl (Evt.bind hw (Evt.pos (B_true ⟨h, g⟩) ((Evt.pure _).same hz.symm))))))
      · refine ⟨false, start _ (Evt.neg (by decide) (Evt.neg (by decide) (Evt.neg (by decide) (Evt.pos rfl (Evt.pos (B_true h) (Evt.ite (fun g1 => Evt.neg (fun g2 => g ⟨g1, g2⟩) (Evt.pure _)) (fun _ => Evt.pure _))))))), ?_⟩
        unfold impl_isOf.f
        refine Evt.neg (by decide) (Evt.neg (by decide) (Evt.neg (by decide) (Evt.pos rfl (Evt.bind hw (Evt.neg (by rw [B_false (fun x => g x.2)]; exact Bool.false_ne_true) (Evt.pure _))))))
    · refine ⟨false, start _ (Evt.neg (by decide) (Evt.neg (by decide) (Evt.neg (by decide) (Evt.pos rfl (Evt.neg (by rw [B_false h]; exact Bool.false_ne_true) (Evt.pure _)))))), ?_⟩
      unfold impl_isOf.f
      refine Evt.neg (by decide) (Evt.neg (by decide) (Evt.neg (by decide) (Evt.pos rfl (Evt.bind hw (Evt.neg (by rw [← no _ h]; exact Bool.false_ne_true) (Evt.pure _))))))
  · obtain ⟨w, hw⟩ := num 0 100000 (by decide) (by decide)
    refine ⟨B ((isNum s.data.toList ∧ (digs s.data.toList).length ≤ 12) ∧ 0 ≤ v ∧ v ≤ 100000), start _ (Evt.neg (by decide) (Evt.neg (by decide) (Evt.neg (by decide) (Evt.neg (by decide) (Evt.pos rfl (Evt.ite (fun h => ?_) (fun h => (Evt.pure _).same (no _ (fun x => h (B_true x)))))))))), ?_⟩
    rotate_left
    · unfold impl_isOf.f
      exact Evt.neg (by decide) (Evt.neg (by decide) (Evt.neg (by decide) (Evt.neg (by decide) (Evt.pos rfl (Evt.bind hw (Evt.pure _))))))
    · have h' := B_iff.1 h
      simp only [l01Day_ev, Option.bind_some]
      exact (Evt.pure _).same (B_congr ⟨fun x => ⟨h', x⟩, fun x => x.2⟩)
  · by_cases hn : s.toList = ([] : List UInt8)
    · refine ⟨false, start _ (Evt.neg (by decide) (Evt.neg (by decide) (Evt.neg (by decide) (Evt.neg (by decide) (Evt.neg (by decide) (Evt.pos hn (Evt.pure _))))))), ?_⟩
      unfold impl_isOf.f
      exact Evt.neg (by decide) (Evt.neg (by decide) (Evt.neg (by decide) (Evt.neg (by decide) (Evt.neg (by decide) (Evt.pos rfl (Evt.pos hn (Evt.pure _)))))))
    · refine ⟨B (PartPr s), start _ (Evt.neg (by decide) (Evt.neg (by decide) (Evt.neg (by decide) (Evt.neg (by decide) (Evt.neg (by decide) (Evt.neg hn (Evt.bind (specPt_ev s (by omega)) (Evt.pure _)))))))), ?_⟩
      unfold impl_isOf.f
      exact Evt.neg (by decide) (Evt.neg (by decide) (Evt.neg (by decide) (Evt.neg (by decide) (Evt.neg (by decide) (Evt.pos rfl (Evt.neg hn (Evt.bind (implPt_ev s (by omega)) (Evt.pure _))))))))
end Go.Proofs.YtogkcllenfkdmaaGreatDoor.QR
set_option linter.unusedVariables false
namespace Go.Proofs.YtogkcllenfkdmaaGreatDoor.QR
open Go.RowKit Go.Proofs.YtogkcllenfkdmaaGreatDoorW.PrintWords Go.Proofs.YtogkcllenfkdmaaGreatDoor.Ev0 Go.Proofs.YtogkcllenfkdmaaGreatDoor.Num
def fPre (t:List UInt8):List UInt8:=t.takeWhile (· != 63)
def fPost (t:List UInt8):List UInt8:=(t.dropWhile (· != 63)).tail
def okL (l:List UInt8):Prop:=∀ c ∈ l,okF (c.toNat:Int)
def nums (l:List UInt8):List Int:=l.map fun b=>(b.toNat:Int)
theorem nums_bs8 (l:List UInt8):bytesOf (bs8 l)=nums l:=by simp [bytesOf,bs8,nums]
theorem rd_nums (l:List UInt8) (i:Int):rd (nums l) i=bt (bs8 l) i:=by rw [← nums_bs8,rd_bytesOf]
theorem index_63 (t:List UInt8):(Lib.index t [63] = -1∧fPre t=t∧fPost t=[])∨(0≤Lib.index t [63]∧fPre t=t.take (Lib.index t [63]).toNat∧fPost t=t.drop ((Lib.index t [63]).toNat+1)):=by
 induction t with
 | nil=>exact .inl ⟨rfl,rfl,rfl⟩
 | cons b l ih =>
  unfold Lib.index
  by_cases h:b=63
  ·subst h
   refine .inr ?_
   rw [if_pos (by simp [List.isPrefixOf])]
   exact ⟨by decide,by simp [fPre],by simp [fPost]⟩
  ·rw [if_neg (by simp [List.isPrefixOf];exact fun e=>h e.symm)]
   have hp:fPre (b :: l)=b :: fPre l:=by simp [fPre,h]
   have hq:fPost (b :: l)=fPost l:=by simp [fPost,h]
   rcases ih with ⟨h1,h2,h3⟩ | ⟨h1,h2,h3⟩
   ·rw [h1]
    exact .inl ⟨rfl,by rw [hp,h2],by rw [hq,h3]⟩
   ·refine .inr ?_
    have hne:¬ (Lib.index l [63] == -1)=true:=by simp;omega
    rw [if_neg hne]
    have e:(Lib.index l [63]+1).toNat=(Lib.index l [63]).toNat+1:=by omega
    exact ⟨by omega,by rw [hp,h2,e,List.take_succ_cons],by rw [hq,h3,e,List.drop_succ_cons]⟩
theorem cut_63 (t:List UInt8):(Lib.cut t [63]).1=fPre t∧(Lib.cut t [63]).2.1=fPost t:=by
 unfold Lib.cut
 rcases index_63 t with ⟨h1,h2,h3⟩ | ⟨h1,h2,h3⟩
 ·rw [if_neg (by omega),h2,h3]
  exact ⟨rfl,rfl⟩
 ·rw [if_pos h1,h2,h3]
  exact ⟨rfl,rfl⟩
theorem idx_neg (l:List UInt8) (c:UInt8):Lib.indexByte l c<0 ↔ c ∉ l:=by
 induction l with
 | nil=>simp [Lib.indexByte]
 | cons b l ih =>
  unfold Lib.indexByte
  by_cases h:b=c
  ·subst h;simp
  ·rw [if_neg (by simpa using h)]
   have hc:c ∉ b :: l ↔ c ∉ l:=by simp [Ne.symm h]
   rw [hc,← ih]
   by_cases g:Lib.indexByte l c = -1
   ·rw [if_pos (by rw [g];rfl)];omega
   ·rw [if_neg (by simpa using g)]
    have : -1≤Lib.indexByte l c:=by
     clear ih hc g h
     induction l with
     | nil=>exact Int.le_refl _
     | cons b l ih =>
      unfold Lib.indexByte
      split
      ·omega
      ·split <;> omega
    omega
theorem pass_loop {ρ:Type} (n:Int) (ok:Int→Prop) (r0:ρ) (F:Nat→Int→Option ρ)
  (step:∀ i,0≤i→i<n→(ok i→∀ r,Evt (fun k=>F k (i+1)) r→Evt (fun k=>F (k+1) i) r)∧(¬ ok i→Evt (fun k=>F (k+1) i) r0)) (d:Nat):∀ i:Int,0≤i→i≤n→n - i≤d →
  ((∀ j,i≤j→j<n→ok j)→∀ r,Evt (fun k=>F k n) r→Evt (fun k=>F k i) r)∧(¬ (∀ j,i≤j→j<n→ok j)→Evt (fun k=>F k i) r0):=by
 induction d with
 | zero =>
  intro i h0 h1 hd
  obtain rfl:i=n:=by omega
  exact ⟨fun _ r hr=>hr,fun h=>absurd (fun j g0 g1=>absurd g1 (by omega)) h⟩
 | succ d ih =>
  intro i h0 h1 hd
  by_cases hlt:i<n
  ·obtain ⟨i1,i2⟩:=ih (i+1) (by omega) (by omega) (by omega)
   by_cases hk:ok i
   ·refine ⟨fun h r hr=>((step i h0 hlt).1 hk r (i1 (fun j g0 g1=>h j (by omega) g1) r hr)).succ,fun h=>((step i h0 hlt).1 hk r0 (i2 (fun g=>h (fun j g0 g1=>?_)))).succ⟩
    by_cases e:j=i
    ·rw [e];exact hk
    ·exact g j (by omega) g1
   ·exact ⟨fun h=>absurd (h i (Int.le_refl _) hlt) hk,fun _=>((step i h0 hlt).2 hk).succ⟩
  ·obtain rfl:i=n:=by omega
   exact ⟨fun _ r hr=>hr,fun h=>absurd (fun j g0 g1=>absurd g1 (by omega)) h⟩
section
variable (tag : ByteArray) (els : List S103)
theorem form_two (form:ByteArray) (hf:form.size≤20000) (m:Int) (hm:0≤m) (rest:List UInt8):∀ done x,form.data.toList=done++rest→x.length≤done.length →
  (okL rest→∀ r,Evt (fun k=>spec_FormRight.j1 k (x++nums rest) m tag els) r→Evt (fun k=>spec_FormRight.l0 k form x m (done.length:Int) tag els) r) ∧
  (¬ okL rest→Evt (fun k=>spec_FormRight.l0 k form x m (done.length:Int) tag els) 0):=by
 induction rest with
 | nil =>
  intro done x hd hx
  have hl:form.size=done.length:=by rw [← data_length,hd];simp
  refine ⟨fun _ r hr=>?_,fun h=>absurd (fun c hc=>by cases hc) h⟩
  apply Evt.succ
  simp only [spec_FormRight.l0]
  refine Evt.neg (by omega) (Evt.neg (by omega) ?_)
  rw [show x++nums []=x by simp [nums]] at hr
  exact hr
 | cons c rest ih =>
  intro done x hd hx
  have hl:form.size=done.length+(rest.length+1):=by rw [← data_length,hd];simp
  have hlt:(done.length:Int)<(form.size:Int):=by omega
  obtain ⟨c',h1,h2⟩:=bt_get form (done.length:Int) (by omega) hlt
  have hc:c'=c:=by
   rw [hd,Int.toNat_natCast] at h1
   simpa using h1.symm
  subst hc
  have hw:wrap64 ((done.length:Int)+1)=((done++[c']).length:Int):=by rw [w64 (by omega) (by omega)];simp
  obtain ⟨i1,i2⟩:=ih (done++[c']) (x++[(c'.toNat:Int)]) (by rw [hd];simp) (by simp;omega)
  have e:x++[(c'.toNat:Int)]++nums rest=x++nums (c' :: rest):=by simp [nums]
  rw [e] at i1
  have go:okF (c'.toNat:Int)→∀ r,Evt (fun k=>spec_FormRight.l0 k form (x++[(c'.toNat:Int)]) m ((done++[c']).length:Int) tag els) r→Evt (fun k=>spec_FormRight.l0 k form x m (done.length:Int) tag els) r:=fun hg r hr=>by
   apply Evt.succ
   simp only [spec_FormRight.l0,h2,hw]
   have hlen:x.length<140737488355328:=by omega
   refine Evt.pos hlt (Evt.pos (by omega) ?_)
   rcases hg with h|h|h|h|h|h
   ·exact Evt.neg (by omega) (Evt.pos h (Evt.pos hlen hr))
   ·exact Evt.neg (by omega) (Evt.neg (by omega) (Evt.pos h (Evt.pos hlen hr)))
   ·exact Evt.neg (by omega) (Evt.neg (by omega) (Evt.neg (by omega) (Evt.pos h (Evt.pos hlen hr))))
   ·exact Evt.neg (by omega) (Evt.neg (by omega) (Evt.neg (by omega) (Evt.neg (by omega) (Evt.pos h (Evt.pos hlen hr)))))
   ·exact Evt.neg (by omega) (Evt.neg (by omega) (Evt.neg (by omega) (Evt.neg (by omega) (Evt.neg (by omega) (Evt.pos h (Evt.pos hlen hr))))))
   ·exact Evt.neg (by omega) (Evt.neg (by omega) (Evt.neg (by omega) (Evt.neg (by omega) (Evt.neg (by omega) (Evt.neg (by omega) (Evt.pos h (Evt.pos hlen hr)))))))
  refine ⟨fun h r hr=>go (h c' (List.mem_cons_self ..)) r (i1 (fun y hy=>h y (List.mem_cons_of_mem _ hy)) r hr),fun h=>?_⟩
  by_cases hg:okF (c'.toNat:Int)
  ·exact go hg 0 (i2 (fun g=>h (fun y hy=>(List.mem_cons.1 hy).elim (fun e=>by rw [e];exact hg) (g y))))
  ·apply Evt.succ
   simp only [spec_FormRight.l0,h2,hw]
   unfold okF at hg
   refine Evt.pos hlt (Evt.pos (by omega) (Evt.ite (fun _=>Evt.pos (by omega) (Evt.pure _)) (fun _=>?_)))
   exact Evt.neg (by omega) (Evt.neg (by omega) (Evt.neg (by omega) (Evt.neg (by omega) (Evt.neg (by omega) (Evt.neg (by omega) (Evt.pure _))))))
theorem form_one (form:ByteArray) (hf:form.size≤20000) (rest:List UInt8):∀ done,form.data.toList=done++rest →
  (okL (fPre rest++fPost rest)→∀ r,Evt (fun k=>spec_FormRight.j1 k (nums (done++(fPre rest++fPost rest))) ((done++fPre rest).length:Int) tag els) r→Evt (fun k=>spec_FormRight.l0 k form (nums done) (-1) (done.length:Int) tag els) r) ∧
  (¬ okL (fPre rest++fPost rest)→Evt (fun k=>spec_FormRight.l0 k form (nums done) (-1) (done.length:Int) tag els) 0):=by
 induction rest with
 | nil =>
  intro done hd
  have hl:form.size=done.length:=by rw [← data_length,hd];simp
  refine ⟨fun _ r hr=>?_,fun h=>absurd (fun c hc=>by cases hc) h⟩
  apply Evt.succ
  simp only [spec_FormRight.l0]
  refine Evt.neg (by omega) (Evt.pos (by decide) ?_)
  rw [show (nums done).length=done.length by simp [nums]]
  simpa [fPre,fPost] using hr
 | cons c rest ih =>
  intro done hd
  have hl:form.size=done.length+(rest.length+1):=by rw [← data_length,hd];simp
  have hlt:(done.length:Int)<(form.size:Int):=by omega
  obtain ⟨c',h1,h2⟩:=bt_get form (done.length:Int) (by omega) hlt
  have hc:c'=c:=by
   rw [hd,Int.toNat_natCast] at h1
   simpa using h1.symm
  subst hc
  have hw:wrap64 ((done.length:Int)+1)=((done++[c']).length:Int):=by rw [w64 (by omega) (by omega)];simp
  have hnl:(nums done).length=done.length:=by simp [nums]
  by_cases h63:c'=63
  ·subst h63
   have hp:fPre (63 :: rest)=[]:=by simp [fPre]
   have hq:fPost (63 :: rest)=rest:=by simp [fPost]
   rw [hp,hq,List.nil_append,List.append_nil]
   obtain ⟨i1,i2⟩:=form_two tag els form hf (done.length:Int) (by omega) rest (done++[63]) (nums done) (by rw [hd];simp) (by simp [nums])
   have go:∀ r,Evt (fun k=>spec_FormRight.l0 k form (nums done) (done.length:Int) ((done++[(63:UInt8)]).length:Int) tag els) r→Evt (fun k=>spec_FormRight.l0 k form (nums done) (-1) (done.length:Int) tag els) r:=fun r hr=>by
    apply Evt.succ
    simp only [spec_FormRight.l0,h2,hw,hnl]
    exact Evt.pos hlt (Evt.pos (by omega) (Evt.pos (by rfl) (Evt.neg (by decide) hr)))
   have e:nums done++nums rest=nums (done++rest):=by simp [nums]
   rw [e] at i1
   exact ⟨fun h r hr=>go r (i1 h r hr),fun h=>go 0 (i2 h)⟩
  ·have hp:fPre (c' :: rest)=c' :: fPre rest:=by simp [fPre,h63]
   have hq:fPost (c' :: rest)=fPost rest:=by simp [fPost,h63]
   have hn63:¬ (c'.toNat:Int)=63:=fun e=>h63 (UInt8.toNat_inj.1 (by have:(63:UInt8).toNat=63:=rfl;omega))
   rw [hp,hq]
   obtain ⟨i1,i2⟩:=ih (done++[c']) (by rw [hd];simp)
   have e0:nums (done++[c'])=nums done++[(c'.toNat:Int)]:=by simp [nums]
   have e1:done++[c']++(fPre rest++fPost rest)=done++(c' :: fPre rest++fPost rest):=by simp
   have e2:(done++[c']++fPre rest)=(done++c' :: fPre rest):=by simp
   rw [e0,e1,e2] at i1
   rw [e0] at i2
   have go:okF (c'.toNat:Int)→∀ r,Evt (fun k=>spec_FormRight.l0 k form (nums done++[(c'.toNat:Int)]) (-1) ((done++[c']).length:Int) tag els) r→Evt (fun k=>spec_FormRight.l0 k form (nums done) (-1) (done.length:Int) tag els) r:=fun hg r hr=>by
    apply Evt.succ
    simp only [spec_FormRight.l0,h2,hw]
    have hlen:(nums done).length<140737488355328:=by omega
    refine Evt.pos hlt (Evt.pos (by omega) (Evt.neg hn63 ?_))
    rcases hg with h|h|h|h|h|h
    ·exact Evt.pos h (Evt.pos hlen hr)
    ·exact Evt.neg (by omega) (Evt.pos h (Evt.pos hlen hr))
    ·exact Evt.neg (by omega) (Evt.neg (by omega) (Evt.pos h (Evt.pos hlen hr)))
    ·exact Evt.neg (by omega) (Evt.neg (by omega) (Evt.neg (by omega) (Evt.pos h (Evt.pos hlen hr))))
    ·exact Evt.neg (by omega) (Evt.neg (by omega) (Evt.neg (by omega) (Evt.neg (by omega) (Evt.pos h (Evt.pos hlen hr)))))
    ·exact Evt.neg (by omega) (Evt.neg (by omega) (Evt.neg (by omega) (Evt.neg (by omega) (Evt.neg (by omega) (Evt.pos h (Evt.pos hlen hr))))))
   refine ⟨fun h r hr=>go (h c' (by simp)) r (i1 (fun y hy=>h y (by simp at hy ⊢;exact .inr hy)) r hr),fun h=>?_⟩
   by_cases hg:okF (c'.toNat:Int)
   ·exact go hg 0 (i2 (fun g=>h (fun y hy=>by
     rcases List.mem_cons.1 (show y ∈ c' :: (fPre rest++fPost rest) from hy) with e|e
     ·rw [e];exact hg
     ·exact g y e)))
   ·apply Evt.succ
    simp only [spec_FormRight.l0,h2,hw]
    unfold okF at hg
    exact Evt.pos hlt (Evt.pos (by omega) (Evt.neg hn63 (Evt.neg (by omega) (Evt.neg (by omega) (Evt.neg (by omega) (Evt.neg (by omega) (Evt.neg (by omega) (Evt.neg (by omega) (Evt.pure _)))))))))
theorem els_both (pre L:List UInt8) (hL:okL L) (hn:L.length≤20000) (hp:pre.length≤L.length) (he:fewI els) (d:Nat):∀ i:Int,0≤i→i≤(els.length:Int)→i≤(L.length:Int)→(els.length:Int) - i≤d →
  ∃ r,(0≤r∨r = -1)∧Evt (fun k=>spec_FormRight.l1 k (nums L) (pre.length:Int) i tag els) r∧Evt (fun k=>impl_FormRight.l1 k (bs8 pre) (bs8 L) els (els.length:Int) i tag els) r:=by
 have hel:=he.1
 have hLs:((bs8 L).size:Int)=(L.length:Int):=by rw [bs8_size]
 have hPs:((bs8 pre).size:Int)=(pre.length:Int):=by rw [bs8_size]
 have hnl:(nums L).length=L.length:=by simp [nums]
 have stop:∃ r,(0≤r∨r = -1)∧Evt (fun k=>spec_FormRight.l1 k (nums L) (pre.length:Int) (els.length:Int) tag els) r∧Evt (fun k=>impl_FormRight.l1 k (bs8 pre) (bs8 L) els (els.length:Int) (els.length:Int) tag els) r:=by
  by_cases g:(els.length:Int)<(pre.length:Int)
  ·refine ⟨(els.length:Int),.inl (by omega),?_,?_⟩
   ·apply Evt.succ
    simp only [spec_FormRight.l1]
    refine Evt.neg (by omega) ?_
    rw [decide_eq_true g]
    apply Evt.succ
    simp only [spec_FormRight.j3]
    exact Evt.pos (by simp) (Evt.pos (by omega) (Evt.pure _))
   ·apply Evt.succ
    simp only [impl_FormRight.l1]
    exact Evt.neg (by omega) (Evt.pos (by omega) (Evt.pure _))
  ·refine ⟨-1,.inr rfl,?_,?_⟩
   ·apply Evt.succ
    simp only [spec_FormRight.l1]
    refine Evt.neg (by omega) ?_
    rw [decide_eq_false g]
    apply Evt.succ
    simp only [spec_FormRight.j3]
    exact Evt.neg (by simp) (Evt.pure _)
   ·apply Evt.succ
    simp only [impl_FormRight.l1]
    exact Evt.neg (by omega) (Evt.neg (by omega) (Evt.pure _))
 induction d with
 | zero =>
  intro i h0 h1 _ hd
  obtain rfl:i=(els.length:Int):=by omega
  exact stop
 | succ d ih =>
  intro i h0 h1 h2 hd
  by_cases hlt:i<(els.length:Int)
  ·have hw:wrap64 (i+1)=i+1:=w64 (by omega) (by omega)
   have spec:∀ r,Evt (fun k=>if i≥(els.length:Int) then (some i) else (if i≥((nums L).length:Int) then (some i) else (if 0≤i then (if i<((nums L).length:Int) then (if i<(els.length:Int) then ((spec_l04Element.f k (rd (nums L) i) ((rd_T103 els i).f0)).bind fun t173=>(if t173=true then (spec_FormRight.l1 k (nums L) (pre.length:Int) (i+1) tag els) else (some i))) else (none)) else (none)) else (none)))) r→Evt (fun k=>spec_FormRight.l1 k (nums L) (pre.length:Int) i tag els) r:=fun r hr=>by
    apply Evt.succ
    simp only [spec_FormRight.l1]
    refine Evt.pos hlt ?_
    apply Evt.succ
    simp only [spec_FormRight.j3,hw]
    exact Evt.pos (by simp) hr
   have impl:∀ r,Evt (fun k=>if i=((bs8 L).size:Int) then (some i) else (if (((rd_T103 els i).f0).length:Int)=1 then (if i<((bs8 L).size:Int) then (if 0<(((rd_T103 els i).f0).length:Int) then ((impl_isOf.f k (bt (bs8 L) i) (rdOf ByteArray.empty ((rd_T103 els i).f0) 0)).bind fun t239=>(if t239=true then (impl_FormRight.l1 k (bs8 pre) (bs8 L) els (els.length:Int) (i+1) tag els) else (some i))) else (none)) else (none)) else (some i))) r→Evt (fun k=>impl_FormRight.l1 k (bs8 pre) (bs8 L) els (els.length:Int) i tag els) r:=fun r hr=>by
    apply Evt.succ
    simp only [impl_FormRight.l1,hw]
    exact Evt.pos hlt (Evt.pos h0 (Evt.pos hlt hr))
   by_cases hi:i=(L.length:Int)
   ·exact ⟨i,.inl h0,spec _ (Evt.neg (by omega) (Evt.pos (by omega) (Evt.pure _))),impl _ (Evt.pos (by omega) (Evt.pure _))⟩
   ·have hiL:i<(L.length:Int):=by omega
    have hk:=fewI_at he i h0 hlt
    have hc:okF (bt (bs8 L) i):=by
     obtain ⟨c,g1,g2⟩:=bt_get (bs8 L) i h0 (by omega)
     rw [g2]
     refine hL c (List.mem_of_getElem? (i:=i.toNat) ?_)
     rw [show (bs8 L).data.toList=L by simp [bs8]] at g1
     exact g1
    by_cases h1':(((rd_T103 els i).f0).length:Int)=1
    ·obtain ⟨b,hb1,hb2⟩:=el_ev (bt (bs8 L) i) hc _ h1' (hk.2 _ (rdT_mem _ 0 (Int.le_refl _) (by omega)))
     rw [← rd_nums] at hb1
     cases b with
     | true =>
      obtain ⟨r,r0,r1,r2⟩:=ih (i+1) (by omega) (by omega) (by omega) (by omega)
      exact ⟨r,r0,spec _ (Evt.neg (by omega) (Evt.neg (by omega) (Evt.pos h0 (Evt.pos (by omega) (Evt.pos hlt (Evt.bind hb1 (Evt.pos rfl r1))))))),impl _ (Evt.neg (by omega) (Evt.pos h1' (Evt.pos (by omega) (Evt.pos (by omega) (Evt.bind hb2 (Evt.pos rfl r2))))))⟩
     | false =>
      exact ⟨i,.inl h0,spec _ (Evt.neg (by omega) (Evt.neg (by omega) (Evt.pos h0 (Evt.pos (by omega) (Evt.pos hlt (Evt.bind hb1 (Evt.neg (by decide) (Evt.pure _)))))))),impl _ (Evt.neg (by omega) (Evt.pos h1' (Evt.pos (by omega) (Evt.pos (by omega) (Evt.bind hb2 (Evt.neg (by decide) (Evt.pure _)))))))⟩
    ·have hel':Evt (fun k=>spec_l04Element.f k (rd (nums L) i) ((rd_T103 els i).f0)) false:=by
      unfold spec_l04Element.f
      exact Evt.neg h1' (Evt.pure _)
     exact ⟨i,.inl h0,spec _ (Evt.neg (by omega) (Evt.neg (by omega) (Evt.pos h0 (Evt.pos (by omega) (Evt.pos hlt (Evt.bind hel' (Evt.neg (by decide) (Evt.pure _)))))))),impl _ (Evt.neg (by omega) (Evt.neg h1' (Evt.pure _)))⟩
  ·obtain rfl:i=(els.length:Int):=by omega
   exact stop
theorem six_iff (c:Int) (h0:0≤c) (h1:c≤255):(Lib.indexByte (⟨#[114,110,113,122,100,116]⟩:ByteArray).data.toList c.toNat.toUInt8<0) ↔ ¬ okF c:=by
 rw [idx_neg]
 refine not_congr ?_
 have e:c.toNat.toUInt8.toNat=c.toNat:=by
  rw [Nat.toUInt8_eq,UInt8.toNat_ofNat']
  omega
 have key:∀ b:UInt8,c.toNat.toUInt8=b ↔ c=(b.toNat:Int):=fun b=>by
  rw [← UInt8.toNat_inj,e]
  omega
 show c.toNat.toUInt8 ∈ [(114:UInt8),110,113,122,100,116] ↔ _
 simp only [List.mem_cons,List.not_mem_nil,or_false,key]
 rfl
theorem form_both (form:ByteArray) (hf:form.size≤1048576) (he:fewI els):∃ r,(0≤r∨r = -1)∧Evt (fun k=>spec_FormRight.f k form tag els) r∧Evt (fun k=>impl_FormRight.f k form tag els) r:=by
 have hel:=he.1
 have hcut:strings_Cut.f form (⟨#[63]⟩:ByteArray)=some (bs8 (fPre form.data.toList),bs8 (fPost form.data.toList),(Lib.cut form.data.toList [63]).2.2):=by
  unfold strings_Cut.f
  rw [if_pos (by omega)]
  show some ((⟨(Lib.cut form.data.toList [63]).1.toArray⟩:ByteArray),(⟨(Lib.cut form.data.toList [63]).2.1.toArray⟩:ByteArray),(Lib.cut form.data.toList [63]).2.2)=_
  rw [(cut_63 _).1,(cut_63 _).2]
  rfl
 generalize hP:fPre form.data.toList=P at hcut
 generalize hR:fPost form.data.toList=R at hcut
 have hlen:P.length+R.length≤form.size:=by
  rw [← data_length,← hP,← hR]
  unfold fPre fPost
  have:=congrArg List.length (List.takeWhile_append_dropWhile (p:=(· != 63)) (l:=form.data.toList))
  rw [List.length_append] at this
  rw [List.length_tail]
  omega
 have hsz:((bs8 (P++R)).size:Int)=((P++R).length:Int):=by rw [bs8_size]
 have him:∀ r,Evt (fun k=>impl_FormRight.l0 k form (bs8 P) (bs8 (P++R)) ((bs8 (P++R)).size:Int) 0 tag els) r→Evt (fun k=>impl_FormRight.f k form tag els) r:=fun r hr=>by
  unfold impl_FormRight.f
  simp only [hcut,Option.bind_some,bs8_app]
  refine Evt.pos (by rw [bs8_size,bs8_size];omega) hr
 obtain ⟨p1,p2⟩:=pass_loop ((bs8 (P++R)).size:Int) (fun i=>okF (bt (bs8 (P++R)) i)) (0:Int) (fun k i=>impl_FormRight.l0 k form (bs8 P) (bs8 (P++R)) ((bs8 (P++R)).size:Int) i tag els) (fun i h0 hlt=>by
  have hw:wrap64 (i+1)=i+1:=w64 (by omega) (by rw [List.length_append] at hsz;omega)
  have hb:=bt_range (bs8 (P++R)) i
  simp only [impl_FormRight.l0,strings_IndexByte.f,Option.bind_some,hw]
  exact ⟨fun hk r hr=>Evt.pos hlt (Evt.pos h0 (Evt.pos hlt (Evt.neg (fun x=>(six_iff _ hb.1 hb.2).1 x hk) hr))),fun hk=>Evt.pos hlt (Evt.pos h0 (Evt.pos hlt (Evt.pos ((six_iff _ hb.1 hb.2).2 hk) (Evt.pure _))))⟩) (bs8 (P++R)).size 0 (Int.le_refl _) (by omega) (by omega)
 have hall:(∀ j:Int,0≤j→j<((bs8 (P++R)).size:Int)→okF (bt (bs8 (P++R)) j)) ↔ okL (P++R):=by
  rw [all_bytes (bs8 (P++R)) okF,show (bs8 (P++R)).data.toList=P++R by simp [bs8]]
  rfl
 by_cases hbig:(form.size:Int)>20000
 ·refine ⟨0,.inl (by decide),?_,?_⟩
  ·unfold spec_FormRight.f
   exact Evt.pos hbig (Evt.pure _)
  ·by_cases hk:okL (P++R)
   ·refine him _ (p1 (hall.2 hk) _ ?_)
    apply Evt.succ
    simp only [impl_FormRight.l0]
    exact Evt.neg (by omega) (Evt.bind (longText1_ev form) (Evt.pos (B_true hbig) (Evt.pure _)))
   ·exact him _ (p2 (fun x=>hk (hall.1 x)))
 ·have hsm:form.size≤20000:=by omega
  obtain ⟨s1,s2⟩:=form_one tag els form hsm form.data.toList [] rfl
  rw [hP,hR] at s1 s2
  have hsp:∀ r,Evt (fun k=>spec_FormRight.l0 k form (nums []) (-1) (([]:List UInt8).length:Int) tag els) r→Evt (fun k=>spec_FormRight.f k form tag els) r:=fun r hr=>by
   unfold spec_FormRight.f
   exact Evt.neg hbig hr
  by_cases hk:okL (P++R)
  ·obtain ⟨r,r0,r1,r2⟩:=els_both tag els P (P++R) hk (by rw [List.length_append];omega) (by simp) he els.length 0 (Int.le_refl _) (by omega) (by omega) (by omega)
   refine ⟨r,r0,hsp _ (s1 hk _ ?_),him _ (p1 (hall.2 hk) _ ?_)⟩
   ·apply Evt.succ
    simp only [spec_FormRight.j1]
    exact r1
   ·apply Evt.succ
    simp only [impl_FormRight.l0]
    exact Evt.neg (by omega) (Evt.bind (longText1_ev form) (Evt.neg (by rw [B_false hbig];decide) r2))
  ·exact ⟨0,.inl (by decide),hsp _ (s2 hk),him _ (p2 (fun x=>hk (hall.1 x)))⟩
end
end Go.Proofs.YtogkcllenfkdmaaGreatDoor.QR
set_option linter.unusedVariables false
namespace Go.Proofs.YtogkcllenfkdmaaGreatDoor.QR
open Go.RowKit Go.Proofs.YtogkcllenfkdmaaGreatDoorW.PrintWords Go.Proofs.YtogkcllenfkdmaaGreatDoor.Ev0 Go.Proofs.YtogkcllenfkdmaaGreatDoor.Num
abbrev sDOC:ByteArray:=⟨#[68,79,67]⟩
abbrev sNOT:ByteArray:=⟨#[78,79,84]⟩
abbrev sLIN:ByteArray:=⟨#[76,73,78]⟩
abbrev sITM:ByteArray:=⟨#[73,84,77]⟩
abbrev sACK:ByteArray:=⟨#[65,67,75]⟩
def tab (k:Int):List S94 :=
 if k=1 then [⟨sDOC,1,1,⟨#[114,100]⟩⟩,⟨sNOT,0,2,⟨#[116]⟩⟩,⟨sLIN,1,20,⟨#[110,114,113,63,110]⟩⟩]
 else if k=2∨k=4 then [⟨sDOC,1,1,⟨#[114,114,100]⟩⟩,⟨sLIN,1,20,⟨#[110,113,63,116]⟩⟩]
 else if k=3 then [⟨sDOC,1,1,⟨#[114,114,100]⟩⟩,⟨sNOT,0,2,⟨#[116]⟩⟩,⟨sLIN,1,20,⟨#[110,113]⟩⟩]
 else if k=5 then [⟨sDOC,1,1,⟨#[114,100]⟩⟩,⟨sITM,1,20,⟨#[114,110]⟩⟩]
 else if k=6 then [⟨sDOC,1,1,⟨#[114,100]⟩⟩,⟨sITM,1,20,⟨#[114,122,63,116]⟩⟩]
 else if k=7 then [⟨sDOC,1,1,⟨#[114,100]⟩⟩,⟨sACK,1,1,⟨#[110,110,63,110]⟩⟩]
 else []
theorem kinds (k:Int):(k=1∨k=2∨k=3∨k=4∨k=5∨k=6∨k=7)∨((k<1∨7<k)∧tab k=[]):=by
 by_cases h:1≤k∧k≤7
 ·exact .inl (by omega)
 ·refine .inr ⟨by omega,?_⟩
  unfold tab
  repeat rw [if_neg (by omega)]
theorem implTab_ev (k:Int):Evt (fun n=>impl_tableOf.f n k) (tab k):=by
 unfold impl_tableOf.f impl_tableOf_1.f impl_tableOf_2.f
 have j1:∀ x,Evt (fun n=>impl_tableOf.j0 n x true (⟨#[78,79,84]⟩:ByteArray) 0 2 (⟨#[116]⟩:ByteArray)) (tab 2):=fun x=>by
  apply Evt.succ
  simp only [impl_tableOf.j0,impl_tableOf_1.f,impl_tableOf_2.f,Option.bind_some,if_true]
  exact (Evt.pure _).same rfl
 have j2:∀ x,¬ (x=1∨x=2∨x=4)→Evt (fun n=>impl_tableOf.j0 n x false (⟨#[78,79,84]⟩:ByteArray) 0 2 (⟨#[116]⟩:ByteArray)) (tab x):=fun x hx=>by
  apply Evt.succ
  simp only [impl_tableOf.j0,impl_tableOf_1.f,impl_tableOf_2.f,Option.bind_some,Bool.false_eq_true,if_false]
  by_cases h3:x=3
  ·subst h3
   exact Evt.pos rfl ((Evt.pure _).same rfl)
  refine Evt.neg h3 ?_
  by_cases h5:x=5
  ·subst h5
   exact Evt.pos rfl ((Evt.pure _).same rfl)
  refine Evt.neg h5 ?_
  by_cases h6:x=6
  ·subst h6
   exact Evt.pos rfl ((Evt.pure _).same rfl)
  refine Evt.neg h6 ?_
  by_cases h7:x=7
  ·subst h7
   exact Evt.pos rfl ((Evt.pure _).same rfl)
  refine Evt.neg h7 ((Evt.pure _).same ?_)
  unfold tab
  rw [if_neg (by omega),if_neg (by omega),if_neg (by omega),if_neg (by omega),if_neg (by omega),if_neg (by omega)]
 simp only [Option.bind_some]
 refine Evt.ite (fun h=>(Evt.pure _).same (by rw [h];rfl)) (fun h1=>Evt.ite (fun h=>?_) (fun h2=>?_))
 ·subst h
  exact j1 2
 ·by_cases h:k=4
  ·subst h
   exact (j1 4).same rfl
  ·rw [show (k == 4)=false by simpa using h]
   exact j2 k (by omega)
theorem specTab_ev (k:Int):Evt (fun n=>spec_TableOf.f n k) (tab k):=by
 unfold spec_TableOf.f
 have j1:∀ x,Evt (fun n=>spec_TableOf.j0 n x true (⟨#[68,79,67]⟩:ByteArray) 1 1 (⟨#[114,100]⟩:ByteArray) (⟨#[68,79,67]⟩:ByteArray) 1 1 (⟨#[114,114,100]⟩:ByteArray) (⟨#[78,79,84]⟩:ByteArray) 0 2 (⟨#[116]⟩:ByteArray)) (tab 2):=fun x=>by
  apply Evt.succ
  simp only [spec_TableOf.j0,if_true]
  exact (Evt.pure _).same rfl
 have j2:∀ x,¬ (x=1∨x=2∨x=4)→Evt (fun n=>spec_TableOf.j0 n x false (⟨#[68,79,67]⟩:ByteArray) 1 1 (⟨#[114,100]⟩:ByteArray) (⟨#[68,79,67]⟩:ByteArray) 1 1 (⟨#[114,114,100]⟩:ByteArray) (⟨#[78,79,84]⟩:ByteArray) 0 2 (⟨#[116]⟩:ByteArray)) (tab x):=fun x hx=>by
  apply Evt.succ
  simp only [spec_TableOf.j0,Bool.false_eq_true,if_false]
  by_cases h3:x=3
  ·subst h3
   exact Evt.pos rfl ((Evt.pure _).same rfl)
  refine Evt.neg h3 ?_
  by_cases h5:x=5
  ·subst h5
   exact Evt.pos rfl ((Evt.pure _).same rfl)
  refine Evt.neg h5 ?_
  by_cases h6:x=6
  ·subst h6
   exact Evt.pos rfl ((Evt.pure _).same rfl)
  refine Evt.neg h6 ?_
  by_cases h7:x=7
  ·subst h7
   exact Evt.pos rfl ((Evt.pure _).same rfl)
  refine Evt.neg h7 ((Evt.pure _).same ?_)
  unfold tab
  rw [if_neg (by omega),if_neg (by omega),if_neg (by omega),if_neg (by omega),if_neg (by omega),if_neg (by omega)]
 refine Evt.ite (fun h=>(Evt.pure _).same (by rw [h];rfl)) (fun h1=>Evt.ite (fun h=>?_) (fun h2=>?_))
 ·subst h
  exact j1 2
 ·by_cases h:k=4
  ·subst h
   exact (j1 4).same rfl
  ·rw [show (k == 4)=false by simpa using h]
   exact j2 k (by omega)
def okRow (r:S94):Prop:=1≤r.f2∧r.f2≤20∧r.f3.size≤100
theorem tab_rows (k:Int):(∀ r ∈ tab k,okRow r)∧(tab k).length≤3:=by
 rcases kinds k with h | ⟨_,h⟩
 ·rcases h with rfl|rfl|rfl|rfl|rfl|rfl|rfl <;>
   exact ⟨fun r hr=>(by simp [tab] at hr;rcases hr with rfl|rfl|rfl <;> exact ⟨by decide,by decide,by decide⟩),by decide⟩
 ·rw [h]
  exact ⟨fun r hr=>(by cases hr),by decide⟩
def Fits (body:List S62):List S94→Int→Prop
 | [],at_=>at_=(body.length:Int)
 | r :: rows,at_=>∃ e:Int,at_≤e∧e≤(body.length:Int)∧r.f1≤e - at_∧e - at_≤r.f2 ∧
   (∀ j:Int,at_≤j→j<e→(rd_T62 body j).f0=r.f0∧Evt (fun k=>impl_FormRight.f k r.f3 (rd_T62 body j).f0 (rd_T62 body j).f1) (-1))∧Fits body rows e
def fewB (l:List S62):Prop:=l.length≤1048576∧∀ x ∈ l,fewI x.f1
theorem fewB_at {l:List S62} (h:fewB l) (i:Int) (h0:0≤i) (hlt:i<(l.length:Int)):fewI (rd_T62 l i).f1:=by
 unfold rd_T62
 rw [getD_at l _ _ (by omega)]
 exact h.2 _ (List.getElem_mem _)
section
variable (body : List S62) (he : fewB body) (hl : body.length ≤ 400) (T : List S94) (hT : T.length ≤ 3)
include he hl hT
theorem tab_in (i:Int) (hi0:0≤i) (hiT:i<(T.length:Int)) (hr:okRow (rd_T94 T i))
  (next:∀ a,0≤a→a≤(body.length:Int)→∃ r,Evt (fun k=>spec_TableCheck.l0 k body T a (i+1)) r∧Evt (fun k=>impl_TableCheck.l0 k body a (rd_T94 T i).f0 T (T.length:Int) (i+1)) r∧(r.2.2=0→Fits body (T.drop (i+1).toNat) a))
  (at0:Int) (ha0:0≤at0) (d:Nat):∀ a n:Int,at0≤a→a≤(body.length:Int)→n=a - at0→n≤(rd_T94 T i).f2→(body.length:Int) - a≤d →
  (∀ j:Int,at0≤j→j<a→(rd_T62 body j).f0=(rd_T94 T i).f0∧Evt (fun k=>impl_FormRight.f k (rd_T94 T i).f3 (rd_T62 body j).f0 (rd_T62 body j).f1) (-1)) →
  ∃ r,Evt (fun k=>spec_TableCheck.l1 k body T a i n) r∧Evt (fun k=>impl_TableCheck.l1 k body a n T (T.length:Int) i (rd_T94 T i).f0 (rd_T94 T i).f1 (rd_T94 T i).f2 (rd_T94 T i).f3) r∧(r.2.2=0→Fits body (T.drop i.toNat) at0):=by
 have hdrop:T.drop i.toNat=rd_T94 T i :: T.drop (i+1).toNat:=by
  have h':i.toNat<T.length:=by omega
  rw [List.drop_eq_getElem_cons h',show (i+1).toNat=i.toNat+1 by omega]
  unfold rd_T94
  rw [getD_at T _ _ h']
 have hw:wrap64 (i+1)=i+1:=w64 (by omega) (by omega)
 have fin:∀ a n:Int,at0≤a→a≤(body.length:Int)→n=a - at0→n≤(rd_T94 T i).f2 →
   (∀ j:Int,at0≤j→j<a→(rd_T62 body j).f0=(rd_T94 T i).f0∧Evt (fun k=>impl_FormRight.f k (rd_T94 T i).f3 (rd_T62 body j).f0 (rd_T62 body j).f1) (-1)) →
   ∃ r,Evt (fun k=>spec_TableCheck.j2 k body T a i n false) r∧Evt (fun k=>impl_TableCheck.j2 k body a n T (T.length:Int) i false (rd_T94 T i).f0 (rd_T94 T i).f1 (rd_T94 T i).f2 (rd_T94 T i).f3) r∧(r.2.2=0→Fits body (T.drop i.toNat) at0):=fun a n g0 g1 g2 g3 prev=>by
  by_cases hn:n<(rd_T94 T i).f1
  ·refine ⟨(a,0,4),?_,?_,fun h=>absurd h (by simp)⟩
   ·apply Evt.succ
    simp only [spec_TableCheck.j2]
    exact Evt.neg (by decide) (Evt.pos hi0 (Evt.pos hiT (Evt.pos hn (Evt.pure _))))
   ·apply Evt.succ
    simp only [impl_TableCheck.j2]
    exact Evt.neg (by decide) (Evt.pos hn (Evt.pure _))
  ·obtain ⟨r,r1,r2,r3⟩:=next a (by omega) g1
   refine ⟨r,?_,?_,fun h=>?_⟩
   ·apply Evt.succ
    simp only [spec_TableCheck.j2,hw]
    exact Evt.neg (by decide) (Evt.pos hi0 (Evt.pos hiT (Evt.neg hn r1)))
   ·apply Evt.succ
    simp only [impl_TableCheck.j2,hw]
    exact Evt.neg (by decide) (Evt.neg hn r2)
   ·rw [hdrop]
    exact ⟨a,g0,g1,by omega,by omega,prev,r3 h⟩
 have enter:∀ (a n:Int) (b:Bool) r,0≤a→((n<(rd_T94 T i).f2∧a<(body.length:Int))→b=((rd_T62 body a).f0.toList == (rd_T94 T i).f0.toList))→(¬ (n<(rd_T94 T i).f2∧a<(body.length:Int))→b=false) →
   Evt (fun k=>spec_TableCheck.j2 k body T a i n b) r→Evt (fun k=>impl_TableCheck.j2 k body a n T (T.length:Int) i b (rd_T94 T i).f0 (rd_T94 T i).f1 (rd_T94 T i).f2 (rd_T94 T i).f3) r →
   Evt (fun k=>spec_TableCheck.l1 k body T a i n) r∧Evt (fun k=>impl_TableCheck.l1 k body a n T (T.length:Int) i (rd_T94 T i).f0 (rd_T94 T i).f1 (rd_T94 T i).f2 (rd_T94 T i).f3) r:=fun a n b r ha hb1 hb2 r1 r2=>by
  constructor
  ·apply Evt.succ
   simp only [spec_TableCheck.l1]
   refine Evt.pos hi0 (Evt.pos hiT ?_)
   by_cases h1:n<(rd_T94 T i).f2
   ·by_cases h2:a<(body.length:Int)
    ·refine Evt.pos h1 (Evt.pos h2 (Evt.pos ha ?_))
     rw [← hb1 ⟨h1,h2⟩]
     exact r1
    ·rw [hb2 (fun x=>h2 x.2)] at r1
     exact Evt.pos h1 (Evt.neg h2 r1)
   ·rw [hb2 (fun x=>h1 x.1)] at r1
    exact Evt.neg h1 r1
  ·apply Evt.succ
   simp only [impl_TableCheck.l1]
   by_cases h1:n<(rd_T94 T i).f2
   ·by_cases h2:a<(body.length:Int)
    ·refine Evt.pos h1 (Evt.pos h2 (Evt.pos ha ?_))
     rw [← hb1 ⟨h1,h2⟩]
     exact r2
    ·rw [hb2 (fun x=>h2 x.2)] at r2
     exact Evt.pos h1 (Evt.neg h2 r2)
   ·rw [hb2 (fun x=>h1 x.1)] at r2
    exact Evt.neg h1 r2
 have quit:∀ a n:Int,at0≤a→a≤(body.length:Int)→n=a - at0→n≤(rd_T94 T i).f2 →
   (∀ j:Int,at0≤j→j<a→(rd_T62 body j).f0=(rd_T94 T i).f0∧Evt (fun k=>impl_FormRight.f k (rd_T94 T i).f3 (rd_T62 body j).f0 (rd_T62 body j).f1) (-1)) →
   ((n<(rd_T94 T i).f2∧a<(body.length:Int))→false=((rd_T62 body a).f0.toList == (rd_T94 T i).f0.toList)) →
   ∃ r,Evt (fun k=>spec_TableCheck.l1 k body T a i n) r∧Evt (fun k=>impl_TableCheck.l1 k body a n T (T.length:Int) i (rd_T94 T i).f0 (rd_T94 T i).f1 (rd_T94 T i).f2 (rd_T94 T i).f3) r∧(r.2.2=0→Fits body (T.drop i.toNat) at0):=fun a n g0 g1 g2 g3 prev hb=>by
  obtain ⟨r,r1,r2,r3⟩:=fin a n g0 g1 g2 g3 prev
  obtain ⟨s1,s2⟩:=enter a n false r (by omega) hb (fun _=>rfl) r1 r2
  exact ⟨r,s1,s2,r3⟩
 induction d with
 | zero =>
  intro a n g0 g1 g2 g3 gd prev
  exact quit a n g0 g1 g2 g3 prev (fun x=>absurd x.2 (by omega))
 | succ d ih =>
  intro a n g0 g1 g2 g3 gd prev
  by_cases h1:n<(rd_T94 T i).f2∧a<(body.length:Int)
  ·by_cases htag:(rd_T62 body a).f0.toList=(rd_T94 T i).f0.toList
   ·have hb:true=((rd_T62 body a).f0.toList == (rd_T94 T i).f0.toList):=by rw [htag];simp
    have hea:wrap64 (a+1)=a+1:=w64 (by omega) (by omega)
    have hen:wrap64 (n+1)=n+1:=w64 (by omega) (by omega)
    have hf3:=hr.2.2
    obtain ⟨f,f0,f1,f2⟩:=form_both (rd_T62 body a).f0 (rd_T62 body a).f1 (rd_T94 T i).f3 (by omega) (fewB_at he a (by omega) h1.2)
    by_cases hf:f≥0
    ·obtain ⟨s1,s2⟩:=enter a n true (a,f,3) (by omega) (fun _=>hb) (fun x=>absurd h1 x) (by
      apply Evt.succ
      simp only [spec_TableCheck.j2]
      exact Evt.pos (by simp) (Evt.pos hi0 (Evt.pos hiT (Evt.pos (by omega) (Evt.pos h1.2 (Evt.bind f1 (Evt.pos hf (Evt.pure _)))))))) (by
      apply Evt.succ
      simp only [impl_TableCheck.j2]
      exact Evt.pos (by simp) (Evt.pos (by omega) (Evt.pos h1.2 (Evt.bind f2 (Evt.pos hf (Evt.pure _))))))
     exact ⟨_,s1,s2,fun h=>absurd h (by simp)⟩
    ·obtain rfl:f = -1:=f0.resolve_left (by omega)
     obtain ⟨r,r1,r2,r3⟩:=ih (a+1) (n+1) (by omega) (by omega) (by omega) (by omega) (by omega) (fun j j0 j1=>by
      by_cases e:j=a
      ·rw [e]
       exact ⟨bytes_ext.1 htag,f2⟩
      ·exact prev j j0 (by omega))
     obtain ⟨s1,s2⟩:=enter a n true r (by omega) (fun _=>hb) (fun x=>absurd h1 x) (by
      apply Evt.succ
      simp only [spec_TableCheck.j2,hea,hen]
      exact Evt.pos (by simp) (Evt.pos hi0 (Evt.pos hiT (Evt.pos (by omega) (Evt.pos h1.2 (Evt.bind f1 (Evt.neg hf r1))))))) (by
      apply Evt.succ
      simp only [impl_TableCheck.j2,hea,hen]
      exact Evt.pos (by simp) (Evt.pos (by omega) (Evt.pos h1.2 (Evt.bind f2 (Evt.neg hf r2)))))
     exact ⟨r,s1,s2,r3⟩
   ·exact quit a n g0 g1 g2 g3 prev (fun _=>by symm;simpa using htag)
  ·exact quit a n g0 g1 g2 g3 prev (fun x=>absurd x h1)
theorem tab_out (hne:T≠[]) (hrows:∀ r ∈ T,okRow r) (d:Nat):∀ (i a:Int) (last:ByteArray),0≤i→i≤(T.length:Int)→(T.length:Int) - i≤d→0≤a→a≤(body.length:Int)→(0<i→last=(rd_T94 T (i - 1)).f0) →
  ∃ r,Evt (fun k=>spec_TableCheck.l0 k body T a i) r∧Evt (fun k=>impl_TableCheck.l0 k body a last T (T.length:Int) i) r∧(r.2.2=0→Fits body (T.drop i.toNat) a):=by
 have hpos:0<T.length:=List.length_pos_iff.2 hne
 have stop:∀ (a:Int) (last:ByteArray),0≤a→a≤(body.length:Int)→last=(rd_T94 T ((T.length:Int) - 1)).f0 →
   ∃ r,Evt (fun k=>spec_TableCheck.l0 k body T a (T.length:Int)) r∧Evt (fun k=>impl_TableCheck.l0 k body a last T (T.length:Int) (T.length:Int)) r∧(r.2.2=0→Fits body (T.drop (T.length:Int).toNat) a):=fun a last a0 a1 hlast=>by
  have hw1:wrap64 ((T.length:Int) - 1)=(T.length:Int) - 1:=w64 (by omega) (by omega)
  by_cases hend:a=(body.length:Int)
  ·refine ⟨(0,0,0),?_,?_,fun _=>?_⟩
   ·apply Evt.succ
    simp only [spec_TableCheck.l0]
    exact Evt.neg (by omega) (Evt.neg (by omega) (Evt.pure _))
   ·apply Evt.succ
    simp only [impl_TableCheck.l0]
    exact Evt.neg (by omega) (Evt.pos hend (Evt.pure _))
   ·rw [Int.toNat_natCast,List.drop_length]
    exact hend
  ·have hlt:a<(body.length:Int):=by omega
   by_cases htag:(rd_T62 body a).f0.toList=(rd_T94 T ((T.length:Int) - 1)).f0.toList
   ·refine ⟨(a,0,7),?_,?_,fun h=>absurd h (by simp)⟩
    ·apply Evt.succ
     simp only [spec_TableCheck.l0,hw1]
     exact Evt.neg (by omega) (Evt.pos hlt (Evt.pos a0 (Evt.pos (by omega) (Evt.pos (by omega) (Evt.pos htag (Evt.pure _))))))
    ·apply Evt.succ
     simp only [impl_TableCheck.l0]
     exact Evt.neg (by omega) (Evt.neg hend (Evt.pos a0 (Evt.pos hlt (Evt.pos (by rw [hlast];exact htag) (Evt.pure _)))))
   ·refine ⟨(a,0,3),?_,?_,fun h=>absurd h (by simp)⟩
    ·apply Evt.succ
     simp only [spec_TableCheck.l0,hw1]
     exact Evt.neg (by omega) (Evt.pos hlt (Evt.pos a0 (Evt.pos (by omega) (Evt.pos (by omega) (Evt.neg htag (Evt.pure _))))))
    ·apply Evt.succ
     simp only [impl_TableCheck.l0]
     exact Evt.neg (by omega) (Evt.neg hend (Evt.pos a0 (Evt.pos hlt (Evt.neg (by rw [hlast];exact htag) (Evt.pure _)))))
 induction d with
 | zero =>
  intro i a last i0 i1 hd a0 a1 hlast
  obtain rfl:i=(T.length:Int):=by omega
  exact stop a last a0 a1 (hlast (by omega))
 | succ d ih =>
  intro i a last i0 i1 hd a0 a1 hlast
  by_cases hlt:i<(T.length:Int)
  ·have hr:okRow (rd_T94 T i):=by
    unfold rd_T94
    rw [getD_at T _ _ (by omega)]
    exact hrows _ (List.getElem_mem _)
   obtain ⟨r,r1,r2,r3⟩:=tab_in body he hl T hT i i0 hlt hr (fun b b0 b1=>ih (i+1) b _ (by omega) (by omega) (by omega) b0 b1 (fun _=>by rw [show i+1 - 1=i by omega])) a a0 body.length a 0 (Int.le_refl _) a1 (by omega) (by have:=hr.1;omega) (by omega) (fun j j0 j1=>absurd j1 (by omega))
   refine ⟨r,?_,?_,r3⟩
   ·apply Evt.succ
    simp only [spec_TableCheck.l0]
    exact Evt.pos hlt r1
   ·apply Evt.succ
    simp only [impl_TableCheck.l0]
    exact Evt.pos hlt (Evt.pos i0 (Evt.pos hlt r2))
  ·obtain rfl:i=(T.length:Int):=by omega
   exact stop a last a0 a1 (hlast (by omega))
end
theorem table_both (k:Int) (body:List S62) (he:fewB body):∃ r,Evt (fun n=>spec_TableCheck.f n k body) r∧Evt (fun n=>impl_TableCheck.f n k body) r∧(r.2.2=0→tab k≠[]∧body.length≤400∧Fits body (tab k) 0):=by
 have hb:=he.1
 unfold spec_TableCheck.f impl_TableCheck.f impl_Segment.f
 simp only [Option.bind_some,within_ev]
 by_cases hbig:(body.length:Int)>400
 ·exact ⟨(0,0,2),Evt.pos hbig (Evt.pure _),Evt.pos (decide_eq_true hbig) (Evt.pure _),fun h=>absurd h (by simp)⟩
 have hn:¬ decide ((body.length:Int)>400)=true:=by simpa using hbig
 rcases kinds k with h | ⟨h,h0⟩
 ·have hne:tab k≠[]:=by rcases h with rfl|rfl|rfl|rfl|rfl|rfl|rfl <;> decide
  have hpos:0<(tab k).length:=List.length_pos_iff.2 hne
  obtain ⟨r,r1,r2,r3⟩:=tab_out body he (by omega) (tab k) (tab_rows k).2 hne (tab_rows k).1 (tab k).length 0 0 (⟨#[]⟩:ByteArray) (Int.le_refl _) (by omega) (by omega) (Int.le_refl _) (by omega) (fun h=>absurd h (by omega))
  exact ⟨r,Evt.neg hbig (Evt.bind (specTab_ev k) (Evt.neg (by omega) r1)),Evt.neg hn (Evt.pos (B_true (by omega)) (Evt.bind (implTab_ev k) r2)),fun h=>⟨hne,by omega,r3 h⟩⟩
 ·refine ⟨(0,0,1),Evt.neg hbig (Evt.bind (specTab_ev k) ?_),Evt.neg hn (Evt.neg (by rw [B_false (by omega)];decide) (Evt.pure _)),fun h=>absurd h (by simp)⟩
  rw [h0]
  exact Evt.pos (by simp) (Evt.pure _)
end Go.Proofs.YtogkcllenfkdmaaGreatDoor.QR
