-- Merged by a program of this session (wip/tool/pack.py) out of its own texts for this claim.
import Derived.Lib.Strings
import Derived.Test.YtomoflpgdbjojaaGreatKFnExactGatePartner23
namespace Go.Proofs.YtomoflpgdbjojaaGreat.Ev0
open Go.RowKit Go.Proofs.YtomoflpgdbjojaaGreatW.PrintWords
def Evt {α:Type} (f:Nat→Option α) (r:α):Prop:=∃ K,∀ k,K≤k→f k=some r
namespace Evt
variable {α β : Type}
theorem const {o:Option α} {r:α} (h:o=some r):Evt (fun _=>o) r:=⟨0,fun _ _=>h⟩
theorem pure (r:α):Evt (fun _=>some r) r:=⟨0,fun _ _=>rfl⟩
theorem bind {f:Nat→Option α} {g:Nat→α→Option β} {a:α} {r:β} (h:Evt f a) (h2:Evt (fun k=>g k a) r):Evt (fun k=>(f k).bind (g k)) r:=by
 obtain ⟨K,hK⟩:=h
 obtain ⟨L,hL⟩:=h2
 refine ⟨K+L,fun k hk=>?_⟩
 show (f k).bind (g k)=some r
 rw [hK k (by omega)]
 exact hL k (by omega)
theorem succ {f:Nat→Option α} {r:α} (h:Evt (fun k=>f (k+1)) r):Evt f r:=by
 obtain ⟨K,hK⟩:=h
 refine ⟨K+1,fun k hk=>?_⟩
 obtain ⟨m,rfl⟩:∃ m,k=m+1:=⟨k - 1,by omega⟩
 exact hK m (by omega)
theorem pos {c:Prop} [Decidable c] {f g:Nat→Option α} {r:α} (hc:c) (h:Evt f r):Evt (fun k=>if c then f k else g k) r:=by
 simpa only [if_pos hc] using h
theorem neg {c:Prop} [Decidable c] {f g:Nat→Option α} {r:α} (hc:¬ c) (h:Evt g r):Evt (fun k=>if c then f k else g k) r:=by
 simpa only [if_neg hc] using h
theorem ite {c:Prop} [Decidable c] {f g:Nat→Option α} {r:α} (h1:c→Evt f r) (h2:¬ c→Evt g r):Evt (fun k=>if c then f k else g k) r:=by
 by_cases hc:c
 ·exact pos hc (h1 hc)
 ·exact neg hc (h2 hc)
theorem ex {f:Nat→Option α} {r:α} (h:Evt f r):∃ k,f k=some r:=by
 obtain ⟨K,hK⟩:=h
 exact ⟨K,hK K (Nat.le_refl _)⟩
theorem same {f:Nat→Option α} {r r':α} (h:Evt f r) (e:r=r'):Evt f r':=e ▸ h
end Evt
theorem w64 {x:Int} (h0 : -9223372036854775808≤x) (h1:x≤9223372036854775807):wrap64 x=x:=by
 unfold wrap64
 omega
noncomputable def B (p:Prop):Bool:=@decide p (Classical.propDecidable p)
theorem B_true {p:Prop} (h:p):B p=true:=by unfold B;exact @decide_eq_true p (Classical.propDecidable p) h
theorem B_false {p:Prop} (h:¬ p):B p=false:=by unfold B;exact @decide_eq_false p (Classical.propDecidable p) h
theorem B_iff {p:Prop} : B p=true ↔ p:=by unfold B;exact @decide_eq_true_iff p (Classical.propDecidable p)
theorem B_congr {p q:Prop} (h:p ↔ q):B p=B q:=by rw [propext h]
theorem decide_B (p:Prop) [Decidable p]:decide p=B p:=by
 by_cases h:p
 ·rw [decide_eq_true h,B_true h]
 ·rw [decide_eq_false h,B_false h]
theorem bool_B {b:Bool} {p:Prop} (h:b=true ↔ p):b=B p:=by
 cases b with
 | true=>exact (B_true (h.1 rfl)).symm
 | false=>exact (B_false (fun hp=>by simpa using h.2 hp)).symm
theorem and_ {c p q:Prop} [Decidable c] {f:Nat→Option Bool} (hc:c ↔ p) (h:p→Evt f (B q)):Evt (fun k=>if c then f k else some false) (B (p∧q)):=by
 by_cases e:c
 ·exact Evt.pos e ((h (hc.1 e)).same (B_congr ⟨fun x=>⟨hc.1 e,x⟩,fun x=>x.2⟩))
 ·exact Evt.neg e ((Evt.pure false).same (B_false (fun x=>e (hc.2 x.1))).symm)
theorem fail_ {c p q:Prop} [Decidable c] {f:Nat→Option Bool} (hc:c ↔ ¬ p) (h:p→Evt f (B q)):Evt (fun k=>if c then some false else f k) (B (p∧q)):=by
 by_cases e:c
 ·exact Evt.pos e ((Evt.pure false).same (B_false (fun x=>hc.1 e x.1)).symm)
 ·have hp:p:=Classical.not_not.1 (fun x=>e (hc.2 x))
  exact Evt.neg e ((h hp).same (B_congr ⟨fun x=>⟨hp,x⟩,fun x=>x.2⟩))
theorem last_ {p q:Prop} [Decidable p] (h:p ↔ q):Evt (fun _=>some (decide p)) (B q):=(Evt.pure _).same ((decide_B p).trans (B_congr h))
theorem lastB_ {p q:Prop} (h:p ↔ q):Evt (fun _=>some (B p)) (B q):=(Evt.pure _).same (B_congr h)
theorem up_loop {σ ρ:Type} (n:Int) (F:Nat→σ→Int→Option ρ) (st:Int→σ) (r:Int→ρ)
  (step:∀ i,0≤i→i<n→Evt (fun k=>F k (st (i+1)) (i+1)) (r (i+1))→Evt (fun k=>F (k+1) (st i) i) (r i))
  (stop:Evt (fun k=>F (k+1) (st n) n) (r n)) (i:Int) (h0:0≤i) (hn:i≤n):Evt (fun k=>F k (st i) i) (r i):=by
 have key:∀ (d:Nat) (i:Int),0≤i→i≤n→n - i≤d→Evt (fun k=>F k (st i) i) (r i):=by
  intro d
  induction d with
  | zero =>
   intro i h0 h1 hd
   obtain rfl:i=n:=by omega
   exact stop.succ
  | succ d ih =>
   intro i h0 h1 hd
   by_cases hlt:i<n
   ·exact (step i h0 hlt (ih (i+1) (by omega) (by omega) (by omega))).succ
   ·obtain rfl:i=n:=by omega
    exact stop.succ
 exact key (n - i).toNat i h0 hn (by omega)
def SzR (f:Nat→Option Int) (left:Int) (p:Prop):Prop:=∃ t,Evt f t∧(t<0∨(0≤t∧t≤left∧p))
theorem sz_loop (n:Nat) (hn:n≤9223372036854775807) (p:Int→Prop) (f:Nat→Option Int) (F:Nat→Int→Int→Option Int) (left:Int) (hl0:0≤left) (hl:left≤1048576)
  (hf:∀ k,f k=if wrap64 (left - (n:Int))<0 then some (-1) else F k (wrap64 (left - (n:Int))) 0)
  (step:∀ s i,0≤i→i<(n:Int)→0≤s→s≤1048576→(∃ r,r<0∧Evt (fun k=>F (k+1) s i) r)∨(∃ s',0≤s'∧s'≤s∧p i∧∀ r,Evt (fun k=>F k s' (i+1)) r→Evt (fun k=>F (k+1) s i) r))
  (stop:∀ s i,(n:Int)≤i→Evt (fun k=>F (k+1) s i) s):SzR f left (n≤1048576∧∀ i,0≤i→i<(n:Int)→p i):=by
 have hw:wrap64 (left - (n:Int))=left - (n:Int):=w64 (by omega) (by omega)
 by_cases h:left - (n:Int)<0
 ·refine ⟨-1,⟨0,fun k _=>?_⟩,.inl (by decide)⟩
  rw [hf,hw,if_pos h]
 ·have key:∀ (d:Nat) (s i:Int),0≤i→(n:Int) - i≤d→0≤s→s≤1048576→∃ t,Evt (fun k=>F k s i) t∧(t<0∨(0≤t∧t≤s∧∀ j,i≤j→j<(n:Int)→p j)):=by
   intro d
   induction d with
   | zero=>intro s i h0 hd hs0 hs1;exact ⟨s,(stop s i (by omega)).succ,.inr ⟨hs0,Int.le_refl _,fun j h1 h2=>absurd h2 (by omega)⟩⟩
   | succ d ih =>
    intro s i h0 hd hs0 hs1
    by_cases hlt:i<(n:Int)
    ·rcases step s i h0 hlt hs0 hs1 with ⟨r,hr0,hr⟩ | ⟨s',h1,h2,hp,hs⟩
     ·exact ⟨r,hr.succ,.inl hr0⟩
     ·obtain ⟨t,ht,h3⟩:=ih s' (i+1) (by omega) (by omega) h1 (by omega)
      refine ⟨t,(hs t ht).succ,h3.imp id (fun ⟨g0,g1,g2⟩=>⟨g0,by omega,fun j h1 h2=>?_⟩)⟩
      by_cases e:j=i
      ·rw [e];exact hp
      ·exact g2 j (by omega) h2
    ·exact ⟨s,(stop s i (by omega)).succ,.inr ⟨hs0,Int.le_refl _,fun j h1 h2=>absurd h2 (by omega)⟩⟩
  obtain ⟨t,⟨K,hK⟩,h3⟩:=key n (left - (n:Int)) 0 (Int.le_refl _) (by omega) (by omega) (by omega)
  refine ⟨t,⟨K,fun k hk=>?_⟩,h3.imp id (fun ⟨g0,g1,g2⟩=>⟨g0,by omega,by omega,g2⟩)⟩
  rw [hf,hw,if_neg h]
  exact hK k hk
theorem sz_step {s a:Int} {f:Option Int} {p:Prop} (hs0:0≤s) (hs1:s≤1048576) (ha0:0≤a) (ha:a≤9223372036854775807)
  (h:0≤s - a→∃ t,f=some t∧(t<0∨(0≤t∧t≤s - a∧p))):∃ t,(if wrap64 (s - a)<0 then some (-1) else f)=some t∧(t<0∨(0≤t∧t≤s∧p)):=by
 have hw:wrap64 (s - a)=s - a:=w64 (by omega) (by omega)
 rw [hw]
 by_cases hn:s - a<0
 ·exact ⟨-1,by rw [if_pos hn],.inl (by decide)⟩
 ·obtain ⟨t,ht,h2⟩:=h (by omega)
  exact ⟨t,by rw [if_neg hn];exact ht,h2.imp id (fun ⟨g0,g1,g2⟩=>⟨g0,by omega,g2⟩)⟩
theorem wsub {s a:Int} (hs0:0≤s) (hs1:s≤1048576) (ha0:0≤a) (ha:a≤9223372036854775807):wrap64 (s - a)=s - a:=w64 (by omega) (by omega)
theorem getD_at {α:Type} (l:List α) (z:α) (i:Nat) (h:i<l.length):l.getD i z=l[i]:=by
 rw [List.getD_eq_getElem?_getD,List.getElem?_eq_getElem h]
 rfl
theorem fill_loop {α β:Type} (l:List α) (zα:α) (z:β) (g:α→β) (F:Nat→List β→Int→Option (List β))
  (step:∀ acc i,0≤i→i<(l.length:Int)→acc.length=l.length→∀ r,Evt (fun k=>F k (acc.set i.toNat (g (l.getD i.toNat zα))) (i+1)) r→Evt (fun k=>F (k+1) acc i) r)
  (stop:∀ acc i,(l.length:Int)≤i→Evt (fun k=>F (k+1) acc i) acc):Evt (fun k=>F k (List.replicate l.length z) 0) (l.map g):=by
 have h:=up_loop (l.length:Int) F (fun i=>(l.take i.toNat).map g++List.replicate (l.length - i.toNat) z) (fun _=>l.map g) ?_ ?_ 0 (Int.le_refl _) (by omega)
 ·simpa using h
 ·intro i h0 hlt ih
  refine step _ i h0 hlt (by simp;omega) _ ?_
  have hi:i.toNat<l.length:=by omega
  have e:((l.take i.toNat).map g++List.replicate (l.length - i.toNat) z).set i.toNat (g (l.getD i.toNat zα))=(l.take (i+1).toNat).map g++List.replicate (l.length - (i+1).toNat) z:=by
   have e1:(i+1).toNat=i.toNat+1:=by omega
   rw [e1,List.take_succ_eq_append_getElem hi,List.map_append,getD_at l zα _ hi,List.set_append_right _ _ (by simp;omega)]
   have e2:l.length - i.toNat=(l.length - (i.toNat+1))+1:=by omega
   have e3:i.toNat - ((l.take i.toNat).map g).length=0:=by simp;omega
   rw [e2,e3,List.replicate_succ]
   simp
  rw [e]
  exact ih
 ·have h:=stop ((l.take ((l.length:Int)).toNat).map g++List.replicate (l.length - ((l.length:Int)).toNat) z) (l.length:Int) (Int.le_refl _)
  refine h.same ?_
  simp
theorem all_loop (n:Int) (h0:0≤n) (F:Nat→Int→Option Bool) (step:∀ i,0≤i→i<n→Evt (fun k=>F k (i+1)) true→Evt (fun k=>F (k+1) i) true)
  (stop:Evt (fun k=>F (k+1) n) true):Evt (fun k=>F k 0) true :=
 up_loop n (fun k (_:Unit) i=>F k i) (fun _=>()) (fun _=>true) step stop 0 (Int.le_refl _) h0
theorem right_loop (n:Int) (hn:0≤n) (ok:Int→Prop) (q:Prop) (F:Nat→Int→Option Bool)
  (step:∀ i,0≤i→i<n→(ok i→∀ r,Evt (fun k=>F k (i+1)) r→Evt (fun k=>F (k+1) i) r)∧(¬ ok i→Evt (fun k=>F (k+1) i) false))
  (stop:Evt (fun k=>F (k+1) n) (B q)):Evt (fun k=>F k 0) (B ((∀ i,0≤i→i<n→ok i)∧q)):=by
 have h:=up_loop n (fun k (_:Unit) i=>F k i) (fun _=>()) (fun i=>B ((∀ j,i≤j→j<n→ok j)∧q)) ?_ ?_ 0 (Int.le_refl _) hn
 ·exact h
 ·intro i h0 hlt ih
  by_cases hk:ok i
  ·refine ((step i h0 hlt).1 hk _ ih).same (B_congr ⟨fun h=>⟨fun j h1 h2=>?_,h.2⟩,fun h=>⟨fun j h1 h2=>h.1 j (by omega) h2,h.2⟩⟩)
   by_cases e:j=i
   ·rw [e];exact hk
   ·exact h.1 j (by omega) h2
  ·exact ((step i h0 hlt).2 hk).same (B_false (fun h=>hk (h.1 i (Int.le_refl _) hlt))).symm
 ·exact stop.same (B_congr ⟨fun h=>⟨fun j h1 h2=>absurd h2 (by omega),h⟩,fun h=>h.2⟩)
theorem find_loop (n:Int) (hn:0≤n) (p:Int→Prop) (F:Nat→Int→Option Int)
  (step:∀ i,0≤i→i<n→(p i→Evt (fun k=>F (k+1) i) i)∧(¬ p i→∀ r,Evt (fun k=>F k (i+1)) r→Evt (fun k=>F (k+1) i) r))
  (stop:Evt (fun k=>F (k+1) n) (-1)) :
  ∃ r,Evt (fun k=>F k 0) r∧((r = -1∧∀ j,0≤j→j<n→¬ p j)∨(0≤r∧r<n∧p r∧∀ j,0≤j→j<r→¬ p j)):=by
 have key:∀ (d:Nat) (i:Int),0≤i→i≤n→n - i≤d→∃ r,Evt (fun k=>F k i) r∧((r = -1∧∀ j,i≤j→j<n→¬ p j)∨(i≤r∧r<n∧p r∧∀ j,i≤j→j<r→¬ p j)):=by
  intro d
  induction d with
  | zero =>
   intro i h0 h1 hd
   obtain rfl:i=n:=by omega
   exact ⟨-1,stop.succ,.inl ⟨rfl,fun j h1 h2=>absurd h2 (by omega)⟩⟩
  | succ d ih =>
   intro i h0 h1 hd
   by_cases hlt:i<n
   ·by_cases hp:p i
    ·exact ⟨i,((step i h0 hlt).1 hp).succ,.inr ⟨Int.le_refl _,hlt,hp,fun j h1 h2=>absurd h2 (by omega)⟩⟩
    ·obtain ⟨r,hr,h⟩:=ih (i+1) (by omega) (by omega) (by omega)
     refine ⟨r,((step i h0 hlt).2 hp r hr).succ,?_⟩
     rcases h with ⟨h1,h2⟩ | ⟨h1,h2,h3,h4⟩
     ·refine .inl ⟨h1,fun j g1 g2=>?_⟩
      by_cases e:j=i
      ·rw [e];exact hp
      ·exact h2 j (by omega) g2
     ·refine .inr ⟨by omega,h2,h3,fun j g1 g2=>?_⟩
      by_cases e:j=i
      ·rw [e];exact hp
      ·exact h4 j (by omega) g2
   ·obtain rfl:i=n:=by omega
    exact ⟨-1,stop.succ,.inl ⟨rfl,fun j h1 h2=>absurd h2 (by omega)⟩⟩
 exact key n.toNat 0 (Int.le_refl _) hn (by omega)
theorem bytes_nil {a:ByteArray} : a.toList=([]:List UInt8) ↔ a.size=0:=by
 rw [Lib.toList_data]
 cases a with|mk x=>cases x with|mk x=>simp [ByteArray.size]
end Go.Proofs.YtomoflpgdbjojaaGreat.Ev0
namespace Go.Proofs.YtomoflpgdbjojaaGreat.QO
open Go.RowKit Go.Proofs.YtomoflpgdbjojaaGreatW.PrintWords Go.Proofs.YtomoflpgdbjojaaGreat.Ev0
def less (a b:ByteArray):Prop:=Op.bytesLess a.toList b.toList=true
noncomputable def cmpS (a b:ByteArray):Int:=if Op.bytesLess a.toList b.toList=true then -1 else if Op.bytesLess b.toList a.toList=true then 1 else 0
def cmpI (a b:Int):Int:=if a<b then -1 else if a>b then 1 else 0
theorem cmpS_ev (a b:ByteArray):cmp_Compare_string.f a b=some (cmpS a b):=by
 have e1:∀ x:ByteArray,cmp_isNaN_string.f x=some false:=fun x=>by simp [cmp_isNaN_string.f]
 unfold cmp_Compare_string.f cmpS
 simp only [e1,Option.bind_some,Bool.false_eq_true,if_false]
 split
 ·rfl
 ·split <;> rfl
theorem cmpI_ev (a b:Int):cmp_Compare_int64.f a b=some (cmpI a b):=by
 have e1:∀ x:Int,cmp_isNaN_int64.f x=some false:=fun x=>by simp [cmp_isNaN_int64.f]
 unfold cmp_Compare_int64.f cmpI
 simp only [e1,Option.bind_some,Bool.false_eq_true,if_false]
 split
 ·rfl
 ·split <;> rfl
theorem cmpS_cases (a b:ByteArray):(less a b∧¬ less b a∧¬ a.toList=b.toList∧cmpS a b = -1)∨(¬ less a b∧less b a∧¬ a.toList=b.toList∧cmpS a b=1)∨(¬ less a b∧¬ less b a∧a.toList=b.toList∧cmpS a b=0):=by
 have t1:=Bs.less_tri a.toList b.toList
 have t2:=Bs.less_tri b.toList a.toList
 unfold less cmpS
 cases h1:Op.bytesLess a.toList b.toList <;> cases h2:Op.bytesLess b.toList a.toList
 ·right;right
  rw [h1,h2] at t1
  refine ⟨by simp,by simp,by simpa using t1,by simp⟩
 ·right;left
  refine ⟨by simp,by simp,?_,by simp⟩
  intro e
  rw [e,Bs.less_irrefl] at h2
  cases h2
 ·left
  refine ⟨by simp,by simp,?_,by simp⟩
  intro e
  rw [e,Bs.less_irrefl] at h1
  cases h1
 ·rw [h1,h2] at t1
  simp at t1
theorem cmpI_cases (a b:Int):(a<b∧cmpI a b = -1)∨(b<a∧cmpI a b=1)∨(a=b∧cmpI a b=0):=by
 unfold cmpI
 split
 ·left;exact ⟨by assumption,rfl⟩
 ·split
  ·right;left;exact ⟨by omega,rfl⟩
  ·right;right;exact ⟨by omega,rfl⟩
def orL:List Int→Int
 | []=>0
 | x :: xs=>if x=0 then orL xs else x
theorem or_ev (l:List Int) (hl:l.length≤1000):Evt (fun k=>cmp_Or_int.f k l) (orL l):=by
 unfold cmp_Or_int.f
 have h:=up_loop (l.length:Int) (fun k (_:Unit) i=>cmp_Or_int.l0 k 0 l (l.length:Int) i) (fun _=>()) (fun i=>orL (l.drop i.toNat)) ?_ ?_ 0 (Int.le_refl _) (by omega)
 ·simpa using h
 ·intro i h0 hlt ih
  simp only [cmp_Or_int.l0]
  refine Evt.pos hlt (Evt.pos h0 (Evt.pos hlt ?_))
  rw [w64 (show -9223372036854775808≤i+1 by omega) (by omega)]
  have hi:i.toNat<l.length:=by omega
  have e:l.drop i.toNat=rd l i :: l.drop (i+1).toNat:=by
   rw [show (i+1).toNat=i.toNat+1 by omega,List.drop_eq_getElem_cons hi]
   congr 1
   unfold rd
   rw [getD_at l 0 _ hi]
  rw [e]
  unfold orL
  by_cases hz:rd l i=0
  ·rw [if_pos hz]
   exact Evt.pos hz ih
  ·rw [if_neg hz]
   exact Evt.neg hz (Evt.pure _)
 ·simp only [cmp_Or_int.l0]
  refine Evt.neg (by omega) ((Evt.pure _).same ?_)
  simp [orL]
theorem within_ev (a b c:Int):impl_within.f a b c=some (B (b≤a∧a≤c)):=by
 unfold impl_within.f
 by_cases h:b≤a
 ·rw [if_pos h,decide_B]
  exact congrArg some (B_congr ⟨fun x=>⟨h,x⟩,fun x=>x.2⟩)
 ·rw [if_neg h,B_false (fun x=>h x.1)]
theorem isGreat_ev (c:Int):impl_isGreat.f c=some (B (65≤c∧c≤90)):=by
 unfold impl_isGreat.f
 by_cases h:c≥65
 ·rw [if_pos h,decide_B]
  exact congrArg some (B_congr ⟨fun x=>⟨h,x⟩,fun x=>x.2⟩)
 ·rw [if_neg h,B_false (fun x=>h x.1)]
theorem isDigit_ev (c:Int):impl_isDigit.f c=some (B (48≤c∧c≤57)):=by
 unfold impl_isDigit.f
 by_cases h:c≥48
 ·rw [if_pos h,decide_B]
  exact congrArg some (B_congr ⟨fun x=>⟨h,x⟩,fun x=>x.2⟩)
 ·rw [if_neg h,B_false (fun x=>h x.1)]
theorem isQty_ev (n:Int):impl_isQty.f n=some (B (1≤n∧n≤1000000)):=by
 unfold impl_isQty.f
 rw [within_ev]
 rfl
theorem l01Qty_ev (n:Int):spec_l01Qty.f n=some (B (1≤n∧n≤1000000)):=by
 unfold spec_l01Qty.f
 by_cases h:n≥1
 ·rw [if_pos h,decide_B]
  exact congrArg some (B_congr ⟨fun x=>⟨h,x⟩,fun x=>x.2⟩)
 ·rw [if_neg h,B_false (fun x=>h x.1)]
def okc (c:Int):Prop:=(65≤c∧c≤90)∨(48≤c∧c≤57)∨c=45
def NameP (s:ByteArray):Prop:=1≤(s.size:Int)∧(s.size:Int)≤12∧(65≤bt s 0∧bt s 0≤90)∧∀ j:Int,0≤j→j<s.size→okc (bt s j)
noncomputable def nameB (s:ByteArray):Bool:=B (NameP s)
theorem specName_l (s:ByteArray) (hs:(s.size:Int)≤9223372036854775807) (d:Nat):∀ i:Int,0≤i→(s.size:Int) - i≤d→Evt (fun k=>spec_l01Name.l0 k s i) (B (∀ j:Int,i≤j→j<s.size→okc (bt s j))):=by
 induction d with
 | zero =>
  intro i h0 hd
  apply Evt.succ
  simp only [spec_l01Name.l0]
  refine Evt.neg (by omega) ((Evt.pure true).same (B_true ?_).symm)
  intro j h1 h2
  omega
 | succ d ih =>
  intro i h0 hd
  apply Evt.succ
  simp only [spec_l01Name.l0]
  by_cases hlt:i<(s.size:Int)
  ·refine Evt.pos hlt (Evt.pos h0 ?_)
   have hw:wrap64 (i+1)=i+1:=w64 (by omega) (by omega)
   rw [hw]
   have yes:okc (bt s i)→Evt (fun k=>spec_l01Name.l0 k s (i+1)) (B (∀ j:Int,i≤j→j<s.size→okc (bt s j))):=fun hc =>
    (ih (i+1) (by omega) (by omega)).same (B_congr ⟨fun h j h1 h2=>by
     by_cases e:j=i
     ·rw [e];exact hc
     ·exact h j (by omega) h2,fun h j h1 h2=>h j (by omega) h2⟩)
   have no:¬ okc (bt s i)→Evt (fun _=>some false) (B (∀ j:Int,i≤j→j<s.size→okc (bt s j))):=fun hc =>
    (Evt.pure false).same (B_false (fun h=>hc (h i (Int.le_refl _) hlt))).symm
   have digit:Evt (fun k=>if bt s i≥48 then (if bt s i≤57 then spec_l01Name.l0 k s (i+1) else (if bt s i=45 then spec_l01Name.l0 k s (i+1) else some false)) else (if bt s i=45 then spec_l01Name.l0 k s (i+1) else some false)) (B (∀ j:Int,i≤j→j<s.size→okc (bt s j)))∨(65≤bt s i∧bt s i≤90):=by
    by_cases hg:65≤bt s i∧bt s i≤90
    ·exact .inr hg
    ·refine .inl (Evt.ite (fun h1=>Evt.ite (fun h2=>yes (.inr (.inl ⟨h1,h2⟩))) (fun h2=>Evt.ite (fun h3=>yes (.inr (.inr h3))) (fun h3=>no (fun hk=>?_)))) (fun h1=>Evt.ite (fun h3=>yes (.inr (.inr h3))) (fun h3=>no (fun hk=>?_))))
     ·rcases hk with hk|hk|hk
      ·exact hg hk
      ·omega
      ·exact h3 hk
     ·rcases hk with hk|hk|hk
      ·exact hg hk
      ·omega
      ·exact h3 hk
   refine Evt.ite (fun h1=>Evt.ite (fun h2=>yes (.inl ⟨h1,h2⟩)) (fun h2=>?_)) (fun h1=>?_)
   ·exact digit.resolve_right (fun h=>h2 h.2)
   ·exact digit.resolve_right (fun h=>h1 h.1)
  ·refine Evt.neg hlt ((Evt.pure true).same (B_true ?_).symm)
   intro j h1 h2
   omega
theorem specName_ev (s:ByteArray) (hs:(s.size:Int)≤9223372036854775807):Evt (fun k=>spec_l01Name.f k s) (nameB s):=by
 unfold spec_l01Name.f
 have bad:¬ NameP s→Evt (fun k=>spec_l01Name.j0 k s true) (nameB s):=fun h=>by
  apply Evt.succ
  simp only [spec_l01Name.j0]
  exact (Evt.pure false).same (B_false h).symm
 refine Evt.ite (fun h=>bad (fun hn=>by have:=hn.1;omega)) (fun h1=>Evt.ite (fun h=>bad (fun hn=>by have:=hn.2.1;omega)) (fun h2=>Evt.pos (by omega) (Evt.ite (fun h=>bad (fun hn=>by have:=hn.2.2.1.1;omega)) (fun h3=>?_))))
 by_cases h4:bt s 0>90
 ·rw [decide_eq_true h4]
  exact bad (fun hn=>by have:=hn.2.2.1.2;omega)
 ·rw [decide_eq_false h4]
  apply Evt.succ
  simp only [spec_l01Name.j0]
  refine (specName_l s hs s.size 0 (Int.le_refl _) (by omega)).same (B_congr ⟨fun h=>⟨by omega,by omega,⟨by omega,by omega⟩,h⟩,fun h=>h.2.2.2⟩)
theorem implName_l (s:ByteArray) (hs:(s.size:Int)≤9223372036854775807) (d:Nat):∀ i:Int,0≤i→(s.size:Int) - i≤d →
  Evt (fun k=>impl_isName.l0 k s (s.size:Int) i) (B ((∀ j:Int,i≤j→j<s.size→(65≤bt s j∧bt s j≤90)∨(j≠0∧okc (bt s j)))∧1≤(s.size:Int)∧(s.size:Int)≤12)):=by
 induction d with
 | zero =>
  intro i h0 hd
  apply Evt.succ
  simp only [impl_isName.l0]
  refine Evt.neg (by omega) (Evt.const ?_)
  rw [within_ev]
  exact congrArg some (B_congr ⟨fun h=>⟨fun j h1 h2=>by omega,h⟩,fun h=>h.2⟩)
 | succ d ih =>
  intro i h0 hd
  apply Evt.succ
  simp only [impl_isName.l0]
  by_cases hlt:i<(s.size:Int)
  ·refine Evt.pos hlt (Evt.pos h0 (Evt.pos hlt ?_))
   have hw:wrap64 (i+1)=i+1:=w64 (by omega) (by omega)
   rw [hw,isGreat_ev,isDigit_ev]
   have yes:((65≤bt s i∧bt s i≤90)∨(i≠0∧okc (bt s i)))→Evt (fun k=>impl_isName.l0 k s (s.size:Int) (i+1)) (B ((∀ j:Int,i≤j→j<s.size→(65≤bt s j∧bt s j≤90)∨(j≠0∧okc (bt s j)))∧1≤(s.size:Int)∧(s.size:Int)≤12)):=fun hc =>
    (ih (i+1) (by omega) (by omega)).same (B_congr ⟨fun h=>⟨fun j h1 h2=>by
     by_cases e:j=i
     ·rw [e];exact hc
     ·exact h.1 j (by omega) h2,h.2⟩,fun h=>⟨fun j h1 h2=>h.1 j (by omega) h2,h.2⟩⟩)
   have no:¬ ((65≤bt s i∧bt s i≤90)∨(i≠0∧okc (bt s i)))→Evt (fun _=>some false) (B ((∀ j:Int,i≤j→j<s.size→(65≤bt s j∧bt s j≤90)∨(j≠0∧okc (bt s j)))∧1≤(s.size:Int)∧(s.size:Int)≤12)):=fun hc =>
    (Evt.pure false).same (B_false (fun h=>hc (h.1 i (Int.le_refl _) hlt))).symm
   simp only [Option.bind_some]
   refine Evt.ite (fun h1=>yes (.inl (B_iff.1 h1))) (fun h1=>?_)
   have g1:¬ (65≤bt s i∧bt s i≤90):=fun h=>h1 (B_iff.2 h)
   refine Evt.ite (fun h2=>no (fun h=>h.elim g1 (fun h=>h.1 h2))) (fun h2=>Evt.ite (fun h3=>yes (.inr ⟨h2,.inr (.inl (B_iff.1 h3))⟩)) (fun h3=>Evt.ite (fun h4=>yes (.inr ⟨h2,.inr (.inr h4)⟩)) (fun h4=>no (fun h=>?_))))
   rcases h with h | ⟨_,h|h|h⟩
   ·exact g1 h
   ·exact g1 h
   ·exact h3 (B_iff.2 h)
   ·exact h4 h
  ·refine Evt.neg hlt (Evt.const ?_)
   rw [within_ev]
   exact congrArg some (B_congr ⟨fun h=>⟨fun j h1 h2=>by omega,h⟩,fun h=>h.2⟩)
theorem implName_ev (s:ByteArray) (hs:(s.size:Int)≤9223372036854775807):Evt (fun k=>impl_isName.f k s) (nameB s):=by
 unfold impl_isName.f
 refine (implName_l s hs s.size 0 (Int.le_refl _) (by omega)).same (B_congr ⟨fun h=>⟨h.2.1,h.2.2,?_,?_⟩,fun h=>⟨?_,h.1,h.2.1⟩⟩)
 ·rcases h.1 0 (Int.le_refl _) (by omega) with h|h
  ·exact h
  ·exact absurd rfl h.1
 ·intro j h1 h2
  rcases h.1 j h1 h2 with h|h
  ·exact .inl h
  ·exact h.2
 ·intro j h1 h2
  by_cases e:j=0
  ·rw [e];exact .inl h.2.2.1
  ·exact .inr ⟨e,h.2.2.2 j h1 h2⟩
theorem longText_ev (l:List ByteArray) (hl:l.length≤1000):Evt (fun k=>impl_longText.f k l) (B (∃ x ∈ l,(x.size:Int)>20000)):=by
 unfold impl_longText.f slices_ContainsFunc_string_string_impl_longText_1.f slices_IndexFunc_string_string_impl_longText_1.f
 obtain ⟨r,hr,h⟩:=find_loop (l.length:Int) (by omega) (fun i=>((rdOf ByteArray.empty l i).size:Int)>20000) (fun k i=>slices_IndexFunc_string_string_impl_longText_1.l0 k l (l.length:Int) i) (by
   intro i h0 hlt
   have hw:wrap64 (i+1)=i+1:=w64 (by omega) (by omega)
   simp only [slices_IndexFunc_string_string_impl_longText_1.l0,impl_longText_1.f,Option.bind_some,hw]
   exact ⟨fun hp=>Evt.pos hlt (Evt.pos h0 (Evt.pos hlt (Evt.pos (decide_eq_true hp) (Evt.pure _)))),fun hp r hr=>Evt.pos hlt (Evt.pos h0 (Evt.pos hlt (Evt.neg (by simpa using hp) hr)))⟩) (by
   simp only [slices_IndexFunc_string_string_impl_longText_1.l0]
   exact Evt.neg (by omega) (Evt.pure _))
 have at_:∀ i:Int,0≤i→i<(l.length:Int)→rdOf ByteArray.empty l i ∈ l:=fun i h0 h1=>by
  unfold rdOf
  rw [getD_at l _ _ (by omega)]
  exact List.getElem_mem _
 refine Evt.bind (Evt.bind hr (Evt.pure _)) ((Evt.pure _).same ?_)
 rw [decide_B]
 refine B_congr ⟨fun hg=>?_,fun ⟨x,hx,hg⟩=>?_⟩
 ·rcases h with ⟨h1,_⟩ | ⟨h1,h2,h3,_⟩
  ·omega
  ·exact ⟨_,at_ r h1 h2,h3⟩
 ·rcases h with ⟨h1,h2⟩ | ⟨h1,_⟩
  ·obtain ⟨i,hi,rfl⟩:=List.mem_iff_getElem.1 hx
   refine absurd ?_ (h2 i (by omega) (by omega))
   show ((rdOf ByteArray.empty l (i:Int)).size:Int)>20000
   unfold rdOf
   rw [Int.toNat_natCast,getD_at l _ _ hi]
   exact hg
  ·exact h1
theorem longText1_ev (s:ByteArray):Evt (fun k=>impl_longText.f k [s]) (B ((s.size:Int)>20000)) :=
 (longText_ev [s] (by simp)).same (B_congr ⟨fun ⟨x,hx,h⟩=>by rw [List.mem_singleton.1 hx] at h;exact h,fun h=>⟨s,by simp,h⟩⟩)
end Go.Proofs.YtomoflpgdbjojaaGreat.QO
namespace Go.Proofs.YtomoflpgdbjojaaGreat.QO
open Go.RowKit Go.Proofs.YtomoflpgdbjojaaGreat Go.Proofs.YtomoflpgdbjojaaGreatW.PrintWords Go.Proofs.YtomoflpgdbjojaaGreat.Ev0
def OutP (p:ByteArray) (n:Int) (t:ByteArray) (tr due:Int):Prop:=NameP p∧(1≤n∧n≤999999)∧1≤(t.size:Int)∧(t.size:Int)≤20000∧(0≤tr∧tr≤5)∧(0≤due∧due≤100000)
noncomputable def outB (p:ByteArray) (n:Int) (t:ByteArray) (tr due:Int):Bool:=B (OutP p n t tr due)
theorem l01Control_ev (n:Int):spec_l01Control.f n=some (B (1≤n∧n≤999999)):=by
 unfold spec_l01Control.f
 by_cases h:n≥1
 ·rw [if_pos h,decide_B]
  exact congrArg some (B_congr ⟨fun x=>⟨h,x⟩,fun x=>x.2⟩)
 ·rw [if_neg h,B_false (fun x=>h x.1)]
theorem l01Day_ev (n:Int):spec_l01Day.f n=some (B (0≤n∧n≤100000)):=by
 unfold spec_l01Day.f
 by_cases h:n≥0
 ·rw [if_pos h,decide_B]
  exact congrArg some (B_congr ⟨fun x=>⟨h,x⟩,fun x=>x.2⟩)
 ·rw [if_neg h,B_false (fun x=>h x.1)]
theorem isControl_ev (n:Int):impl_isControl.f n=some (B (1≤n∧n≤999999)):=by
 unfold impl_isControl.f
 rw [within_ev]
 rfl
theorem isDay_ev (n:Int):impl_isDay.f n=some (B (0≤n∧n≤100000)):=by
 unfold impl_isDay.f
 rw [within_ev]
 rfl
theorem specOut_ev (p:ByteArray) (n:Int) (t:ByteArray) (tr due:Int) (hp:(p.size:Int)≤9223372036854775807):Evt (fun k=>spec_l12Out.f k p n t tr due) (outB p n t tr due):=by
 have key:Evt (fun k=>spec_l12Out.f k p n t tr due) (B (NameP p∧(1≤n∧n≤999999)∧1≤(t.size:Int)∧(t.size:Int)≤20000∧0≤tr∧tr≤5∧(0≤due∧due≤100000))):=by
  unfold spec_l12Out.f
  simp only [l01Control_ev,l01Day_ev,Option.bind_some]
  exact Evt.bind (specName_ev p hp) (and_ B_iff fun _=>and_ B_iff fun _=>and_ Iff.rfl fun _=>and_ Iff.rfl fun _=>and_ Iff.rfl fun _=>and_ Iff.rfl fun _=>lastB_ Iff.rfl)
 refine key.same (B_congr ⟨?_,?_⟩)
 ·rintro ⟨h1,h2,h3,h4,h5,h6,h7⟩
  exact ⟨h1,h2,h3,h4,⟨h5,h6⟩,h7⟩
 ·rintro ⟨h1,h2,h3,h4,⟨h5,h6⟩,h7⟩
  exact ⟨h1,h2,h3,h4,h5,h6,h7⟩
theorem isOut_ev (p:ByteArray) (n:Int) (t:ByteArray) (tr due:Int) (hp:(p.size:Int)≤9223372036854775807):Evt (fun k=>impl_isOut.f k p n t tr due) (outB p n t tr due):=by
 unfold impl_isOut.f outB OutP
 simp only [isControl_ev,isDay_ev,within_ev,Option.bind_some]
 refine Evt.bind (implName_ev p hp) (and_ B_iff fun _=>and_ B_iff fun _=>fail_ (p:=1≤(t.size:Int)) (by rw [bytes_nil];omega) fun _=>Evt.bind (longText1_ev t) (fail_ (p:=(t.size:Int)≤20000) ?_ fun _=>and_ B_iff fun _=>lastB_ Iff.rfl))
 rw [B_iff]
 omega
def obefore (p:ByteArray) (n:Int) (p':ByteArray) (n':Int):Prop:=less p p'∨(p.toList=p'.toList∧n<n')
theorem l12Before_ev (p:ByteArray) (n:Int) (t:ByteArray) (tr due:Int) (p':ByteArray) (n':Int) (t':ByteArray) (tr' due':Int):spec_l12Before.f p n t tr due p' n' t' tr' due'=some (B (obefore p n p' n')):=by
 unfold spec_l12Before.f obefore
 rcases cmpS_cases p p' with ⟨h1,h2,h3,_⟩ | ⟨h1,h2,h3,_⟩ | ⟨h1,h2,h3,_⟩
 ·rw [if_pos (show Op.bytesLess p.toList p'.toList=true from h1),B_true (.inl h1)]
 ·rw [if_neg (show ¬ Op.bytesLess p.toList p'.toList=true from h1),if_neg h3,B_false (fun h=>h.elim h1 (fun h=>h3 h.1))]
 ·rw [if_neg (show ¬ Op.bytesLess p.toList p'.toList=true from h1),if_pos h3,decide_B]
  exact congrArg some (B_congr ⟨fun h=>.inr ⟨h3,h⟩,fun h=>h.elim (fun h=>absurd h h1) (fun h=>h.2)⟩)
noncomputable def ocmp (p:ByteArray) (n:Int) (p':ByteArray) (n':Int):Int:=orL [cmpS p p',cmpI n n']
theorem outOrder_ev (p:ByteArray) (n:Int) (t:ByteArray) (tr due:Int) (p':ByteArray) (n':Int) (t':ByteArray) (tr' due':Int):Evt (fun k=>impl_outOrder.f k p n t tr due p' n' t' tr' due') (ocmp p n p' n'):=by
 unfold impl_outOrder.f
 simp only [cmpS_ev,cmpI_ev,Option.bind_some]
 exact Evt.bind (or_ev _ (by simp)) (Evt.pure _)
theorem ocmp_iff (p:ByteArray) (n:Int) (p':ByteArray) (n':Int):ocmp p n p' n'≥0 ↔ ¬ obefore p n p' n':=by
 unfold ocmp obefore
 rcases cmpS_cases p p' with ⟨h1,h2,h3,h4⟩ | ⟨h1,h2,h3,h4⟩ | ⟨h1,h2,h3,h4⟩
 ·simp [orL,h4,h1]
 ·simp [orL,h4,h1,h3]
 ·rcases cmpI_cases n n' with ⟨e1,e2⟩ | ⟨e1,e2⟩ | ⟨e1,e2⟩
  ·simp [orL,h4,h1,h3,e1,e2]
  ·simp [orL,h4,h1,h3,e2];omega
  ·subst e1
   simp [orL,h4,h1,h3,e2]
def okO (x:S120):Prop:=(x.f0.size:Int)≤9223372036854775807
def outAt (l:List S120) (i:Int):Prop :=
 outB (rd_T120 l i).f0 (rd_T120 l i).f1 (rd_T120 l i).f2 (rd_T120 l i).f3 (rd_T120 l i).f4=true ∧
  (0<i→obefore (rd_T120 l (i - 1)).f0 (rd_T120 l (i - 1)).f1 (rd_T120 l i).f0 (rd_T120 l i).f1)
def OutboxP (l:List S120):Prop:=(l.length:Int)≤60∧∀ i,0≤i→i<(l.length:Int)→outAt l i
noncomputable def outboxB (l:List S120):Bool:=B (OutboxP l)
theorem okO_at {l:List S120} (h:∀ x ∈ l,okO x) (i:Int) (h1:i<(l.length:Int)) (h0:0≤i):okO (rd_T120 l i):=by
 unfold rd_T120
 rw [getD_at l _ _ (by omega)]
 exact h _ (List.getElem_mem _)
theorem specOutbox_ev (l:List S120) (hs:∀ x ∈ l,okO x):Evt (fun k=>spec_OutboxRight.f k l) (outboxB l):=by
 unfold spec_OutboxRight.f
 by_cases hn:(l.length:Int)>60
 ·exact Evt.pos hn ((Evt.pure false).same (B_false (fun h=>by have:=h.1;omega)).symm)
 ·refine Evt.neg hn ?_
  refine (right_loop (l.length:Int) (by omega) (outAt l) True (fun k i=>spec_OutboxRight.l0 k l i) ?_ ?_).same (B_congr ⟨fun h=>⟨by omega,h.1⟩,fun h=>⟨h.2,trivial⟩⟩)
  ·intro i h0 hlt
   have hk:=okO_at hs i hlt h0
   have hw:wrap64 (i+1)=i+1:=w64 (by omega) (by omega)
   have hw1:wrap64 (i - 1)=i - 1:=w64 (by omega) (by omega)
   simp only [spec_OutboxRight.l0,hw,hw1,l12Before_ev,Option.bind_some]
   refine ⟨fun ok r hr=>?_,fun nok=>?_⟩
   ·refine Evt.pos hlt (Evt.pos h0 (Evt.bind (specOut_ev _ _ _ _ _ hk) (Evt.pos ok.1 (Evt.ite (fun hp=>Evt.pos (by omega) (Evt.pos (by omega) (Evt.pos (B_true (ok.2 hp)) hr))) (fun _=>hr)))))
   ·refine Evt.pos hlt (Evt.pos h0 (Evt.bind (specOut_ev _ _ _ _ _ hk) (Evt.ite (fun hl=>Evt.ite (fun hp=>Evt.pos (by omega) (Evt.pos (by omega) (Evt.neg (fun hb=>nok ⟨hl,fun _=>B_iff.1 hb⟩) (Evt.pure _)))) (fun hp=>absurd ⟨hl,fun h=>absurd h hp⟩ nok)) (fun _=>Evt.pure _))))
  ·simp only [spec_OutboxRight.l0]
   exact Evt.neg (by omega) ((Evt.pure true).same (B_true trivial).symm)
theorem implOutbox_ev (l:List S120) (hs:∀ x ∈ l,okO x):Evt (fun k=>impl_OutboxRight.f k l) (outboxB l):=by
 unfold impl_OutboxRight.f
 by_cases hn:(l.length:Int)>60
 ·exact Evt.pos hn ((Evt.pure false).same (B_false (fun h=>by have:=h.1;omega)).symm)
 ·refine Evt.neg hn ?_
  refine (right_loop (l.length:Int) (by omega) (outAt l) True (fun k i=>impl_OutboxRight.l0 k l l (l.length:Int) i) ?_ ?_).same (B_congr ⟨fun h=>⟨by omega,h.1⟩,fun h=>⟨h.2,trivial⟩⟩)
  ·intro i h0 hlt
   have hk:=okO_at hs i hlt h0
   have hw:wrap64 (i+1)=i+1:=w64 (by omega) (by omega)
   have hw1:wrap64 (i - 1)=i - 1:=w64 (by omega) (by omega)
   simp only [impl_OutboxRight.l0,hw,hw1]
   refine ⟨fun ok r hr=>?_,fun nok=>?_⟩
   ·refine Evt.pos hlt (Evt.pos h0 (Evt.pos hlt (Evt.bind (isOut_ev _ _ _ _ _ hk) (Evt.pos ok.1 (Evt.ite (fun hp=>Evt.pos (by omega) (Evt.pos (by omega) (Evt.bind (outOrder_ev _ _ _ _ _ _ _ _ _ _) (Evt.neg (fun h=>(ocmp_iff _ _ _ _).1 h (ok.2 hp)) hr)))) (fun _=>hr))))))
   ·refine Evt.pos hlt (Evt.pos h0 (Evt.pos hlt (Evt.bind (isOut_ev _ _ _ _ _ hk) (Evt.ite (fun hl=>Evt.ite (fun hp=>Evt.pos (by omega) (Evt.pos (by omega) (Evt.bind (outOrder_ev _ _ _ _ _ _ _ _ _ _) (Evt.pos ((ocmp_iff _ _ _ _).2 (fun hb=>nok ⟨hl,fun _=>hb⟩)) (Evt.pure _))))) (fun hp=>absurd ⟨hl,fun h=>absurd h hp⟩ nok)) (fun _=>Evt.pure _)))))
  ·simp only [impl_OutboxRight.l0]
   exact Evt.neg (by omega) ((Evt.pure true).same (B_true trivial).symm)
theorem isCode_ev (n:Int):impl_isCode.f n=some (B (0≤n∧n≤13)):=by
 unfold impl_isCode.f
 rw [within_ev]
 rfl
def seenAt (a:Int) (l:List S155) (i:Int):Prop :=
 a≤(rd_T155 l i).f0∧(rd_T155 l i).f0<a+32∧(rd_T155 l i).f0≤999999∧(0<i→(rd_T155 l (i - 1)).f0<(rd_T155 l i).f0) ∧
  (1≤(rd_T155 l i).f1∧(rd_T155 l i).f1≤999999)∧(0≤(rd_T155 l i).f2∧(rd_T155 l i).f2≤13)
def PartP (p:ByteArray) (a b:Int) (l:List S155):Prop :=
 nameB p=true∧(1≤a∧a≤999999)∧(1≤b∧b≤999999)∧(l.length:Int)≤32∧∀ i,0≤i→i<(l.length:Int)→seenAt a l i
noncomputable def partB (p:ByteArray) (a b:Int) (l:List S155):Bool:=B (PartP p a b l)
theorem specPart_ev (p:ByteArray) (a b:Int) (l:List S155) (hp:(p.size:Int)≤9223372036854775807):Evt (fun k=>spec_PartnerRight.f k p a b l) (partB p a b l):=by
 unfold spec_PartnerRight.f
 have bad:¬ PartP p a b l→Evt (fun k=>spec_PartnerRight.j0 k true p a b l) (partB p a b l):=fun h=>by
  apply Evt.succ
  simp only [spec_PartnerRight.j0,if_true]
  exact (Evt.pure false).same (B_false h).symm
 refine Evt.bind (specName_ev _ hp) (Evt.ite (fun g1=>?_) (fun g1=>bad (fun h=>g1 h.1)))
 refine Evt.bind (Evt.const (l01Control_ev a)) (Evt.ite (fun g2=>?_) (fun g2=>bad (fun h=>g2 (B_true h.2.1))))
 refine Evt.bind (Evt.const (l01Control_ev b)) (Evt.ite (fun g3=>?_) (fun g3=>bad (fun h=>g3 (B_true h.2.2.1))))
 have h2:=B_iff.1 g2
 have h3:=B_iff.1 g3
 by_cases g4:(l.length:Int)>32
 ·rw [decide_eq_true g4]
  exact bad (fun h=>by have:=h.2.2.2.1;omega)
 ·rw [decide_eq_false g4]
  apply Evt.succ
  simp only [spec_PartnerRight.j0,Bool.false_eq_true,if_false]
  refine (right_loop (l.length:Int) (by omega) (seenAt a l) True (fun k i=>spec_PartnerRight.l0 k i p a b l) ?_ ?_).same (B_congr ⟨fun h=>⟨g1,h2,h3,by omega,h.1⟩,fun h=>⟨h.2.2.2.2,trivial⟩⟩)
  ·intro i h0 hlt
   have hw:wrap64 (i+1)=i+1:=w64 (by omega) (by omega)
   have hw1:wrap64 (i - 1)=i - 1:=w64 (by omega) (by omega)
   have hw2:wrap64 (a+32)=a+32:=w64 (by omega) (by omega)
   simp only [spec_PartnerRight.l0,hw,hw1,hw2,l01Control_ev,Option.bind_some]
   refine ⟨fun ok r hr=>?_,fun nok=>?_⟩
   ·obtain ⟨o1,o2,o3,o4,o5,o6⟩:=ok
    have last:Evt (fun k=>if B (1≤(rd_T155 l i).f1∧(rd_T155 l i).f1≤999999)=true then (if (rd_T155 l i).f2<0 then some false else (if (rd_T155 l i).f2>13 then some false else spec_PartnerRight.l0 k (i+1) p a b l)) else some false) r :=
     Evt.pos (B_true o5) (Evt.neg (by omega) (Evt.neg (by omega) hr))
    exact Evt.pos hlt (Evt.pos h0 (Evt.neg (by omega) (Evt.neg (by omega) (Evt.neg (by omega) (Evt.ite (fun hp=>Evt.pos (by omega) (Evt.pos (by omega) (Evt.neg (by have:=o4 hp;omega) last))) (fun _=>last))))))
   ·refine Evt.pos hlt (Evt.pos h0 (Evt.ite (fun _=>Evt.pure _) (fun e1=>Evt.ite (fun _=>Evt.pure _) (fun e2=>Evt.ite (fun _=>Evt.pure _) (fun e3=>?_)))))
    have last:(0<i→(rd_T155 l (i - 1)).f0<(rd_T155 l i).f0)→Evt (fun k=>if B (1≤(rd_T155 l i).f1∧(rd_T155 l i).f1≤999999)=true then (if (rd_T155 l i).f2<0 then some false else (if (rd_T155 l i).f2>13 then some false else spec_PartnerRight.l0 k (i+1) p a b l)) else some false) false:=fun e4 =>
     Evt.ite (fun e5=>Evt.ite (fun _=>Evt.pure _) (fun e6=>Evt.ite (fun _=>Evt.pure _) (fun e7=>absurd ⟨by omega,by omega,by omega,e4,B_iff.1 e5,by omega,by omega⟩ nok))) (fun _=>Evt.pure _)
    exact Evt.ite (fun hp=>Evt.pos (by omega) (Evt.pos (by omega) (Evt.ite (fun _=>Evt.pure _) (fun e4=>last (fun _=>by omega))))) (fun hp=>last (fun h=>absurd h hp))
  ·simp only [spec_PartnerRight.l0]
   exact Evt.neg (by omega) ((Evt.pure true).same (B_true trivial).symm)
def seenI (a:Int) (l:List S155) (i:Int):Prop :=
 (a≤(rd_T155 l i).f0∧(rd_T155 l i).f0≤999999)∧¬ (wrap64 ((rd_T155 l i).f0 - a)≥32)∧(1≤(rd_T155 l i).f1∧(rd_T155 l i).f1≤999999)∧(0≤(rd_T155 l i).f2∧(rd_T155 l i).f2≤13) ∧
  (0<i→(rd_T155 l (i - 1)).f0<(rd_T155 l i).f0)
theorem seen_up {a:Int} {l:List S155} (h:∀ i,0≤i→i<(l.length:Int)→seenAt a l i) (d:Nat) (hd:(d:Int)<(l.length:Int)):a+d≤(rd_T155 l (d:Int)).f0:=by
 induction d with
 | zero=>have:=(h 0 (Int.le_refl _) hd).1;simpa using this
 | succ d ih =>
  have h1:=ih (by omega)
  have h2:=(h ((d+1:Nat):Int) (by omega) hd).2.2.2.1 (by omega)
  rw [show ((d+1:Nat):Int) - 1=(d:Int) by omega] at h2
  omega
theorem part_iff (p:ByteArray) (a b:Int) (l:List S155):((∀ i,0≤i→i<(l.length:Int)→seenI a l i)∧nameB p=true∧(1≤a∧a≤999999)∧(1≤b∧b≤999999)) ↔ PartP p a b l:=by
 constructor
 ·rintro ⟨h,h1,h2,h3⟩
  have h4:∀ i,0≤i→i<(l.length:Int)→seenAt a l i:=fun i h0 hlt=>by
   obtain ⟨g1,g2,g3,g4,g5⟩:=h i h0 hlt
   rw [w64 (by omega) (by omega)] at g2
   exact ⟨g1.1,by omega,g1.2,g5,g3,g4⟩
  refine ⟨h1,h2,h3,?_,h4⟩
  by_cases hl:l.length=0
  ·omega
  ·have h5:=seen_up h4 (l.length - 1) (by omega)
   have h6:=(h4 ((l.length - 1:Nat):Int) (by omega) (by omega)).2.1
   omega
 ·rintro ⟨h1,h2,h3,h4,h5⟩
  refine ⟨fun i h0 hlt=>?_,h1,h2,h3⟩
  obtain ⟨g1,g2,g3,g4,g5,g6⟩:=h5 i h0 hlt
  refine ⟨⟨g1,g3⟩,?_,g5,g6,g4⟩
  rw [w64 (by omega) (by omega)]
  omega
theorem implPart_ev (p:ByteArray) (a b:Int) (l:List S155) (hp:(p.size:Int)≤9223372036854775807) (hl:(l.length:Int)≤9000000):Evt (fun k=>impl_PartnerRight.f k p a b l) (partB p a b l):=by
 unfold impl_PartnerRight.f
 refine (right_loop (l.length:Int) (by omega) (seenI a l) (nameB p=true∧(1≤a∧a≤999999)∧(1≤b∧b≤999999)) (fun k i=>impl_PartnerRight.l0 k l (l.length:Int) i p a b l) ?_ ?_).same (B_congr (part_iff p a b l))
 ·intro i h0 hlt
  have hw:wrap64 (i+1)=i+1:=w64 (by omega) (by omega)
  have hw1:wrap64 (i - 1)=i - 1:=w64 (by omega) (by omega)
  simp only [impl_PartnerRight.l0,hw,hw1,within_ev,isControl_ev,isCode_ev,Option.bind_some]
  refine ⟨fun ok r hr=>?_,fun nok=>?_⟩
  ·obtain ⟨o1,o2,o3,o4,o5⟩:=ok
   exact Evt.pos hlt (Evt.pos h0 (Evt.pos hlt (Evt.pos (B_true o1) (Evt.neg o2 (Evt.pos (B_true o3) (Evt.pos (B_true o4) (Evt.ite (fun hp=>Evt.pos (by omega) (Evt.pos (by omega) (Evt.neg (by have:=o5 hp;omega) hr))) (fun _=>hr))))))))
  ·exact Evt.pos hlt (Evt.pos h0 (Evt.pos hlt (Evt.ite (fun e1=>Evt.ite (fun _=>Evt.pure _) (fun e2=>Evt.ite (fun e3=>Evt.ite (fun e4=>Evt.ite (fun hp=>Evt.pos (by omega) (Evt.pos (by omega) (Evt.ite (fun _=>Evt.pure _) (fun e5=>absurd ⟨B_iff.1 e1,e2,B_iff.1 e3,B_iff.1 e4,fun _=>by omega⟩ nok)))) (fun hp=>absurd ⟨B_iff.1 e1,e2,B_iff.1 e3,B_iff.1 e4,fun h=>absurd h hp⟩ nok)) (fun _=>Evt.pure _)) (fun _=>Evt.pure _))) (fun _=>Evt.pure _))))
 ·simp only [impl_PartnerRight.l0]
  exact Evt.neg (by omega) (Evt.bind (implName_ev p hp) (and_ Iff.rfl (fun _=>Evt.bind (Evt.const (isControl_ev a)) (and_ B_iff (fun _=>Evt.bind (Evt.const (isControl_ev b)) (lastB_ Iff.rfl))))))
theorem szSeenS_ev (l:List S179) (hl:l.length≤9223372036854775807) (x:Int) (h0:0≤x) (h1:x≤1048576):∃ r,laws_szSeenS.f l x=some r∧(r<0∨(0≤r∧r≤x∧l.length≤1048576)):=by
 unfold laws_szSeenS.f
 rw [wsub h0 h1 (by omega) (by omega)]
 by_cases h:x - (l.length:Int)<0
 ·exact ⟨-1,by rw [if_pos h],.inl (by decide)⟩
 ·exact ⟨_,by rw [if_neg h],.inr ⟨by omega,by omega,by omega⟩⟩
theorem szPartner_ev (p:ByteArray) (a b:Int) (l:List S179) (x:Int) (h0:0≤x) (h1:x≤1048576) (hp:(p.size:Int)≤9223372036854775807) (hl:l.length≤9223372036854775807) :
  ∃ r,laws_szPartner.f p a b l x=some r∧(r<0∨(0≤r∧r≤x∧l.length≤1048576)):=by
 unfold laws_szPartner.f
 refine sz_step h0 h1 (by omega) hp (fun g1=>?_)
 rw [wsub h0 h1 (by omega) hp]
 obtain ⟨t,ht,h2⟩:=szSeenS_ev l hl (x - (p.size:Int)) g1 (by omega)
 rw [ht]
 simp only [Option.bind_some]
 rcases h2 with h2 | ⟨h2,h3,h4⟩
 ·exact ⟨-1,by rw [if_pos h2],.inl (by decide)⟩
 ·exact ⟨t,by rw [if_neg (by omega)],.inr ⟨h2,h3,h4⟩⟩
def okLP (x:S93):Prop:=(x.f0.size:Int)≤9223372036854775807∧x.f3.length≤9223372036854775807
theorem okLP_of {x:S93} (h:wf93 x):okLP x:=by
 have g0:x.f0.size≤2 ^ 63 - 1:=h.1
 have g1:x.f3.length≤2 ^ 63 - 1:=h.2.2.2.1
 exact ⟨by omega,by omega⟩
theorem szPartnerS_ev (l:List S93) (hl:l.length≤9223372036854775807) (hx:∀ x ∈ l,okLP x) (left:Int) (h0:0≤left) (h1:left≤1048576) :
  SzR (fun k=>laws_szPartnerS.f k l left) left (l.length≤1048576∧∀ i:Int,0≤i→i<(l.length:Int)→(rd_T93 l i).f3.length≤1048576):=by
 refine sz_loop l.length hl (fun i=>(rd_T93 l i).f3.length≤1048576) _ (fun k s i=>laws_szPartnerS.l0 k l s i) left h0 h1 (fun k=>rfl) ?_ ?_
 ·intro s i h0 hlt hs0 hs1
  have hw:wrap64 (i+1)=i+1:=w64 (by omega) (by omega)
  have hk:okLP (rd_T93 l i):=by
   unfold rd_T93
   rw [getD_at l _ _ (by omega)]
   exact hx _ (List.getElem_mem _)
  obtain ⟨t,ht,h2⟩:=szPartner_ev (rd_T93 l i).f0 (rd_T93 l i).f1 (rd_T93 l i).f2 (rd_T93 l i).f3 s hs0 hs1 hk.1 hk.2
  simp only [laws_szPartnerS.l0,ht,Option.bind_some,hw]
  rcases h2 with h2 | ⟨h2,h3,h4⟩
  ·exact .inl ⟨-1,by decide,Evt.pos hlt (Evt.pos h0 (Evt.pos h2 (Evt.pure _)))⟩
  ·exact .inr ⟨t,h2,h3,h4,fun r hr=>Evt.pos hlt (Evt.pos h0 (Evt.neg (by omega) hr))⟩
 ·intro s i hi
  simp only [laws_szPartnerS.l0]
  exact Evt.neg (by omega) (Evt.pure _)
def cvSeen (x:S179):S155:=⟨x.f0,x.f1,x.f2⟩
def cvPart (x:S93):S83:=⟨x.f0,x.f1,x.f2,x.f3.map cvSeen⟩
theorem toSeenS_ev (l:List S179) (hl:l.length≤1048576):Evt (fun k=>laws_toSeenS.f k l) (l.map cvSeen):=by
 unfold laws_toSeenS.f
 refine Evt.pos (by omega) (Evt.pos (by omega) ?_)
 rw [Int.toNat_natCast]
 refine fill_loop l z179 z155 cvSeen (fun k acc i=>laws_toSeenS.l0 k l acc i) ?_ ?_
 ·intro acc i h0 hlt ha r hr
  have hw:wrap64 (i+1)=i+1:=w64 (by omega) (by omega)
  simp only [laws_toSeenS.l0,laws_toSeen.f,Option.bind_some,hw]
  exact Evt.pos hlt (Evt.pos h0 (Evt.pos (by omega) hr))
 ·intro acc i hi
  simp only [laws_toSeenS.l0]
  exact Evt.neg (by omega) (Evt.pure _)
theorem toPartnerS_ev (l:List S93) (hl:l.length≤1048576) (hi:∀ i:Int,0≤i→i<(l.length:Int)→(rd_T93 l i).f3.length≤1048576):Evt (fun k=>laws_toPartnerS.f k l) (l.map cvPart):=by
 unfold laws_toPartnerS.f
 refine Evt.pos (by omega) (Evt.pos (by omega) ?_)
 rw [Int.toNat_natCast]
 refine fill_loop l z93 z83 cvPart (fun k acc i=>laws_toPartnerS.l0 k l acc i) ?_ ?_
 ·intro acc i h0 hlt ha r hr
  have hw:wrap64 (i+1)=i+1:=w64 (by omega) (by omega)
  simp only [laws_toPartnerS.l0,laws_toPartner.f,hw]
  exact Evt.pos hlt (Evt.pos h0 (Evt.bind (Evt.bind (toSeenS_ev _ (hi i h0 hlt)) (Evt.pure _)) (Evt.pos (by omega) hr)))
 ·intro acc i hi
  simp only [laws_toPartnerS.l0]
  exact Evt.neg (by omega) (Evt.pure _)
theorem eqSeenS_refl (l:List S155) (hl:l.length≤9000000):Evt (fun k=>laws_eqSeenS.f k l l) true:=by
 unfold laws_eqSeenS.f
 refine Evt.pos rfl (all_loop (l.length:Int) (by omega) (fun k i=>laws_eqSeenS.l0 k l l i) ?_ ?_)
 ·intro i h0 hlt ih
  have hw:wrap64 (i+1)=i+1:=w64 (by omega) (by omega)
  simp only [laws_eqSeenS.l0,laws_eqSeen.f,if_true,Option.bind_some,hw]
  exact Evt.pos hlt (Evt.pos h0 (Evt.pos hlt ih))
 ·simp only [laws_eqSeenS.l0]
  exact Evt.neg (by omega) (Evt.pure _)
def okP (x:S83):Prop:=(x.f0.size:Int)≤9223372036854775807∧(x.f3.length:Int)≤9000000
theorem okP_at {l:List S83} (h:∀ x ∈ l,okP x) (i:Int) (h1:i<(l.length:Int)) (h0:0≤i):okP (rd_T83 l i):=by
 unfold rd_T83
 rw [getD_at l _ _ (by omega)]
 exact h _ (List.getElem_mem _)
theorem okP_map (l:List S93) (h:∀ x ∈ l,okLP x) (hi:∀ i:Int,0≤i→i<(l.length:Int)→(rd_T93 l i).f3.length≤1048576):∀ x ∈ l.map cvPart,okP x:=by
 intro x hx
 obtain ⟨y,hy,rfl⟩:=List.mem_map.1 hx
 obtain ⟨q,hq,rfl⟩:=List.mem_iff_getElem.1 hy
 have h1:=hi (q:Int) (by omega) (by omega)
 unfold rd_T93 at h1
 rw [Int.toNat_natCast,getD_at l _ _ hq] at h1
 refine ⟨(h _ hy).1,?_⟩
 show ((l[q].f3.map cvSeen).length:Int)≤9000000
 rw [List.length_map]
 omega
theorem eqPartnerS_refl (l:List S83) (hl:l.length≤9000000) (h:∀ x ∈ l,okP x):Evt (fun k=>laws_eqPartnerS.f k l l) true:=by
 unfold laws_eqPartnerS.f
 refine Evt.pos rfl (all_loop (l.length:Int) (by omega) (fun k i=>laws_eqPartnerS.l0 k l l i) ?_ ?_)
 ·intro i h0 hlt ih
  have hw:wrap64 (i+1)=i+1:=w64 (by omega) (by omega)
  have hk:=okP_at h i hlt h0
  simp only [laws_eqPartnerS.l0,laws_eqPartner.f,if_true,hw]
  exact Evt.pos hlt (Evt.pos h0 (Evt.pos hlt (Evt.bind (Evt.bind (eqSeenS_refl _ (by have:=hk.2;omega)) (Evt.pos rfl (Evt.pure true))) (Evt.pos rfl ih))))
 ·simp only [laws_eqPartnerS.l0]
  exact Evt.neg (by omega) (Evt.pure _)
theorem first_of (p:Int→Prop) (n:Int) (h:∃ j,0≤j∧j<n∧p j):∃ j,0≤j∧j<n∧p j∧∀ i,0≤i→i<j→¬ p i:=by
 have key:∀ d:Nat,∀ j:Int,0≤j→j<n→p j→j.toNat≤d→∃ j,0≤j∧j<n∧p j∧∀ i,0≤i→i<j→¬ p i:=by
  intro d
  induction d with
  | zero=>intro j h0 h1 hp hd;exact ⟨j,h0,h1,hp,fun i hi hj=>by omega⟩
  | succ d ih =>
   intro j h0 h1 hp hd
   by_cases h:∃ i,0≤i∧i<j∧p i
   ·obtain ⟨i,a,b,c⟩:=h
    exact ih i a (by omega) c (by omega)
   ·exact ⟨j,h0,h1,hp,fun i a b c=>h ⟨i,a,b,c⟩⟩
 obtain ⟨j,h0,h1,hp⟩:=h
 exact key j.toNat j h0 h1 hp (Nat.le_refl _)
def xbefore (a b a' b':ByteArray):Prop:=less a a'∨(a.toList=a'.toList∧less b b')
theorem l08Before_ev (a b c a' b' c':ByteArray):spec_l08Before.f a b c a' b' c'=some (B (xbefore a b a' b')):=by
 unfold spec_l08Before.f xbefore
 rcases cmpS_cases a a' with ⟨h1,h2,h3,_⟩ | ⟨h1,h2,h3,_⟩ | ⟨h1,h2,h3,_⟩
 ·rw [if_pos (show Op.bytesLess a.toList a'.toList=true from h1),B_true (.inl h1)]
 ·rw [if_neg (show ¬ Op.bytesLess a.toList a'.toList=true from h1),if_neg h3,B_false (fun h=>h.elim h1 (fun h=>h3 h.1))]
 ·rw [if_neg (show ¬ Op.bytesLess a.toList a'.toList=true from h1),if_pos h3]
  exact congrArg some (bool_B ⟨fun h=>.inr ⟨h3,h⟩,fun h=>h.elim (fun h=>absurd h h1) (fun h=>h.2)⟩)
noncomputable def xcmp (a b a' b':ByteArray):Int:=orL [cmpS a a',cmpS b b']
theorem crossOrder_ev (a b c a' b' c':ByteArray):Evt (fun k=>impl_crossOrder.f k a b c a' b' c') (xcmp a b a' b'):=by
 unfold impl_crossOrder.f
 simp only [cmpS_ev,Option.bind_some]
 exact Evt.bind (or_ev _ (by simp)) (Evt.pure _)
theorem xcmp_iff (a b a' b':ByteArray):xcmp a b a' b'≥0 ↔ ¬ xbefore a b a' b':=by
 unfold xcmp xbefore
 rcases cmpS_cases a a' with ⟨h1,h2,h3,h4⟩ | ⟨h1,h2,h3,h4⟩ | ⟨h1,h2,h3,h4⟩
 ·simp [orL,h4,h1]
 ·simp [orL,h4,h1,h3]
 ·rcases cmpS_cases b b' with ⟨e1,e2,e3,e4⟩ | ⟨e1,e2,e3,e4⟩ | ⟨e1,e2,e3,e4⟩
  ·simp [orL,h4,h1,h3,e1,e4]
  ·simp [orL,h4,h1,e1,e4]
  ·simp [orL,h4,h1,e1,e4]
def okX (x:S114):Prop:=(x.f0.size:Int)≤9223372036854775807∧(x.f1.size:Int)≤9223372036854775807∧(x.f2.size:Int)≤9223372036854775807
def dupAt (l:List S114) (a c:ByteArray) (j:Int):Prop:=(rd_T114 l j).f0.toList=a.toList∧(rd_T114 l j).f2.toList=c.toList
def crossAt (l:List S114) (i:Int):Prop :=
 (nameB (rd_T114 l i).f0=true∧nameB (rd_T114 l i).f1=true∧nameB (rd_T114 l i).f2=true ∧
  (0<i→xbefore (rd_T114 l (i - 1)).f0 (rd_T114 l (i - 1)).f1 (rd_T114 l i).f0 (rd_T114 l i).f1)) ∧
  ∀ j,0≤j→j<i→¬ dupAt l (rd_T114 l i).f0 (rd_T114 l i).f2 j
def CrossP (l:List S114):Prop:=(l.length:Int)≤200∧∀ i,0≤i→i<(l.length:Int)→crossAt l i
noncomputable def crossB (l:List S114):Bool:=B (CrossP l)
theorem okX_at {l:List S114} (h:∀ x ∈ l,okX x) (i:Int) (h1:i<(l.length:Int)) (h0:0≤i):okX (rd_T114 l i):=by
 unfold rd_T114
 rw [getD_at l _ _ (by omega)]
 exact h _ (List.getElem_mem _)
theorem specIn_ok (l:List S114) (i:Int) (a b c:ByteArray) (h0:0≤i) (hlt:i<(l.length:Int)) (hl:(l.length:Int)≤200) (hn:∀ j,0≤j→j<i→¬ dupAt l a c j) (r:Bool) (hr:Evt (fun k=>spec_CrossRight.l0 k l (i+1)) r) :
  Evt (fun k=>spec_CrossRight.l1 k l i 0 a b c) r:=by
 have hw0:wrap64 (i+1)=i+1:=w64 (by omega) (by omega)
 refine up_loop i (fun k (_:Unit) j=>spec_CrossRight.l1 k l i j a b c) (fun _=>()) (fun _=>r) ?_ ?_ 0 (Int.le_refl _) h0
 ·intro j g0 g1 ih
  have hw:wrap64 (j+1)=j+1:=w64 (by omega) (by omega)
  simp only [spec_CrossRight.l1,hw]
  exact Evt.pos g1 (Evt.pos g0 (Evt.pos (by omega) (Evt.ite (fun e1=>Evt.ite (fun e2=>absurd ⟨e1,e2⟩ (hn j g0 g1)) (fun _=>ih)) (fun _=>ih))))
 ·simp only [spec_CrossRight.l1,hw0]
  exact Evt.neg (by omega) hr
theorem specIn_no (l:List S114) (i:Int) (a b c:ByteArray) (_h0:0≤i) (hlt:i<(l.length:Int)) (hl:(l.length:Int)≤200) (hn:∃ j,0≤j∧j<i∧dupAt l a c j):Evt (fun k=>spec_CrossRight.l1 k l i 0 a b c) false:=by
 obtain ⟨m,m0,m1,mp,mn⟩:=first_of _ _ hn
 refine up_loop m (fun k (_:Unit) j=>spec_CrossRight.l1 k l i j a b c) (fun _=>()) (fun _=>false) ?_ ?_ 0 (Int.le_refl _) m0
 ·intro j g0 g1 ih
  have hw:wrap64 (j+1)=j+1:=w64 (by omega) (by omega)
  simp only [spec_CrossRight.l1,hw]
  exact Evt.pos (by omega) (Evt.pos g0 (Evt.pos (by omega) (Evt.ite (fun e1=>Evt.ite (fun _=>Evt.pure _) (fun _=>ih)) (fun _=>ih))))
 ·simp only [spec_CrossRight.l1]
  exact Evt.pos m1 (Evt.pos m0 (Evt.pos (by omega) (Evt.pos mp.1 (Evt.pos mp.2 (Evt.pure _)))))
theorem specCross_ev (l:List S114) (hs:∀ x ∈ l,okX x):Evt (fun k=>spec_CrossRight.f k l) (crossB l):=by
 unfold spec_CrossRight.f
 by_cases hn:(l.length:Int)>200
 ·exact Evt.pos hn ((Evt.pure false).same (B_false (fun h=>by have:=h.1;omega)).symm)
 ·refine Evt.neg hn ?_
  refine (right_loop (l.length:Int) (by omega) (crossAt l) True (fun k i=>spec_CrossRight.l0 k l i) ?_ ?_).same (B_congr ⟨fun h=>⟨by omega,h.1⟩,fun h=>⟨h.2,trivial⟩⟩)
  ·intro i h0 hlt
   obtain ⟨k0,k1,k2⟩:=okX_at hs i hlt h0
   have hw1:wrap64 (i - 1)=i - 1:=w64 (by omega) (by omega)
   have bad:Evt (fun k=>spec_CrossRight.j1 k l i true (rd_T114 l i).f0 (rd_T114 l i).f1 (rd_T114 l i).f2) false:=by
    apply Evt.succ
    simp only [spec_CrossRight.j1,if_true]
    exact Evt.pure _
   simp only [spec_CrossRight.l0,hw1,l08Before_ev,Option.bind_some]
   refine ⟨fun ok r hr=>?_,fun nok=>?_⟩
   ·obtain ⟨⟨o1,o2,o3,o4⟩,o5⟩:=ok
    have go:Evt (fun k=>spec_CrossRight.j1 k l i false (rd_T114 l i).f0 (rd_T114 l i).f1 (rd_T114 l i).f2) r:=by
     apply Evt.succ
     simp only [spec_CrossRight.j1,Bool.false_eq_true,if_false]
     exact specIn_ok l i _ _ _ h0 hlt (by omega) o5 r hr
    refine Evt.pos hlt (Evt.pos h0 (Evt.bind (specName_ev _ k0) (Evt.pos o1 (Evt.bind (specName_ev _ k1) (Evt.pos o2 (Evt.bind (specName_ev _ k2) (Evt.pos o3 (Evt.ite (fun hp=>Evt.pos (by omega) (Evt.pos (by omega) ?_)) (fun _=>go)))))))))
    rw [B_true (o4 hp)]
    exact go
   ·refine Evt.pos hlt (Evt.pos h0 (Evt.bind (specName_ev _ k0) (Evt.ite (fun e1=>Evt.bind (specName_ev _ k1) (Evt.ite (fun e2=>Evt.bind (specName_ev _ k2) (Evt.ite (fun e3=>?_) (fun _=>bad))) (fun _=>bad))) (fun _=>bad))))
    have dup:(0<i→xbefore (rd_T114 l (i - 1)).f0 (rd_T114 l (i - 1)).f1 (rd_T114 l i).f0 (rd_T114 l i).f1)→Evt (fun k=>spec_CrossRight.j1 k l i false (rd_T114 l i).f0 (rd_T114 l i).f1 (rd_T114 l i).f2) false:=fun e4=>by
     apply Evt.succ
     simp only [spec_CrossRight.j1,Bool.false_eq_true,if_false]
     refine specIn_no l i _ _ _ h0 hlt (by omega) (Classical.not_not.1 (fun hno=>nok ⟨⟨e1,e2,e3,e4⟩,fun j g0 g1 gd=>hno ⟨j,g0,g1,gd⟩⟩))
    refine Evt.ite (fun hp=>Evt.pos (by omega) (Evt.pos (by omega) ?_)) (fun hp=>dup (fun h=>absurd h hp))
    by_cases e4:xbefore (rd_T114 l (i - 1)).f0 (rd_T114 l (i - 1)).f1 (rd_T114 l i).f0 (rd_T114 l i).f1
    ·rw [B_true e4]
     exact dup (fun _=>e4)
    ·rw [B_false e4]
     exact bad
  ·simp only [spec_CrossRight.l0]
   exact Evt.neg (by omega) ((Evt.pure true).same (B_true trivial).symm)
theorem crossLit_ev (a b c a' b' c':ByteArray):impl_CrossRight_1.f a b c a' b' c'=some (B (a.toList=a'.toList∧c.toList=c'.toList),a',b',c'):=by
 unfold impl_CrossRight_1.f
 by_cases h:a.toList=a'.toList
 ·rw [if_pos h]
  congr 2
  exact bool_B ⟨fun h2=>⟨h,by simpa using h2⟩,fun h2=>by simpa using h2.2⟩
 ·rw [if_neg h,B_false (fun h2=>h h2.1)]
theorem rd_take (l:List S114) (n:Nat) (j:Int) (h0:0≤j) (h:j<(n:Int)):rd_T114 (l.take n) j=rd_T114 l j:=by
 unfold rd_T114
 rw [List.getD_eq_getElem?_getD,List.getD_eq_getElem?_getD,List.getElem?_take_of_lt (by omega)]
theorem crossIn_ev (l:List S114) (i:Int) (a b c:ByteArray) (h0:0≤i) (hlt:i<(l.length:Int)) (hl:(l.length:Int)≤200) :
  Evt (fun k=>impl_Cross_impl_CrossRight_1_129.f k (l.take i.toNat) a b c) (B (∃ j,0≤j∧j<i∧dupAt l a c j),a,b,c):=by
 unfold impl_Cross_impl_CrossRight_1_129.f
 unfold impl_Cross_impl_CrossRight_1_146.f
 have hlen:((l.take i.toNat).length:Int)=i:=by rw [List.length_take];omega
 rw [hlen]
 by_cases hd:∃ j,0≤j∧j<i∧dupAt l a c j
 ·rw [B_true hd]
  obtain ⟨m,m0,m1,mp,mn⟩:=first_of _ _ hd
  refine Evt.bind (a:=(m,a,b,c)) ?_ ((Evt.pure _).same (by simp;omega))
  refine up_loop m (fun k (_:Unit) j=>impl_Cross_impl_CrossRight_1_146.l0 k (l.take i.toNat) i j a b c) (fun _=>()) (fun _=>(m,a,b,c)) ?_ ?_ 0 (Int.le_refl _) m0
  ·intro j g0 g1 ih
   have hw:wrap64 (j+1)=j+1:=w64 (by omega) (by omega)
   simp only [impl_Cross_impl_CrossRight_1_146.l0,hw,crossLit_ev,Option.bind_some,hlen]
   refine Evt.pos (by omega) (Evt.pos g0 (Evt.pos (by omega) (Evt.neg ?_ ih)))
   rw [rd_take l _ j g0 (by omega)]
   exact fun e=>mn j g0 g1 (B_iff.1 e)
  ·simp only [impl_Cross_impl_CrossRight_1_146.l0,crossLit_ev,Option.bind_some,hlen]
   refine Evt.pos m1 (Evt.pos m0 (Evt.pos m1 (Evt.pos ?_ (Evt.pure _))))
   rw [rd_take l _ m m0 (by omega)]
   exact B_true mp
 ·rw [B_false hd]
  refine Evt.bind (a:=(-1,a,b,c)) ?_ ((Evt.pure _).same (by simp))
  refine up_loop i (fun k (_:Unit) j=>impl_Cross_impl_CrossRight_1_146.l0 k (l.take i.toNat) i j a b c) (fun _=>()) (fun _=>(-1,a,b,c)) ?_ ?_ 0 (Int.le_refl _) h0
  ·intro j g0 g1 ih
   have hw:wrap64 (j+1)=j+1:=w64 (by omega) (by omega)
   simp only [impl_Cross_impl_CrossRight_1_146.l0,hw,crossLit_ev,Option.bind_some,hlen]
   refine Evt.pos g1 (Evt.pos g0 (Evt.pos g1 (Evt.neg ?_ ih)))
   rw [rd_take l _ j g0 (by omega)]
   exact fun e=>hd ⟨j,g0,g1,B_iff.1 e⟩
  ·simp only [impl_Cross_impl_CrossRight_1_146.l0]
   exact Evt.neg (by omega) (Evt.pure _)
theorem implCross_ev (l:List S114) (hs:∀ x ∈ l,okX x):Evt (fun k=>impl_CrossRight.f k l) (crossB l):=by
 unfold impl_CrossRight.f
 by_cases hn:(l.length:Int)>200
 ·exact Evt.pos hn ((Evt.pure false).same (B_false (fun h=>by have:=h.1;omega)).symm)
 ·refine Evt.neg hn ?_
  refine (right_loop (l.length:Int) (by omega) (crossAt l) True (fun k i=>impl_CrossRight.l0 k l l (l.length:Int) i) ?_ ?_).same (B_congr ⟨fun h=>⟨by omega,h.1⟩,fun h=>⟨h.2,trivial⟩⟩)
  ·intro i h0 hlt
   obtain ⟨k0,k1,k2⟩:=okX_at hs i hlt h0
   have hw:wrap64 (i+1)=i+1:=w64 (by omega) (by omega)
   have hw1:wrap64 (i - 1)=i - 1:=w64 (by omega) (by omega)
   have bad:Evt (fun k=>impl_CrossRight.j1 k l i l (l.length:Int) i true (rd_T114 l i).f0 (rd_T114 l i).f1 (rd_T114 l i).f2) false:=by
    apply Evt.succ
    simp only [impl_CrossRight.j1,if_true]
    exact Evt.pure _
   simp only [impl_CrossRight.l0,hw1]
   refine ⟨fun ok r hr=>?_,fun nok=>?_⟩
   ·obtain ⟨⟨o1,o2,o3,o4⟩,o5⟩:=ok
    have go:Evt (fun k=>impl_CrossRight.j1 k l i l (l.length:Int) i false (rd_T114 l i).f0 (rd_T114 l i).f1 (rd_T114 l i).f2) r:=by
     apply Evt.succ
     simp only [impl_CrossRight.j1,Bool.false_eq_true,if_false,hw]
     refine Evt.pos h0 (Evt.pos (by omega) (Evt.bind (crossIn_ev l i _ _ _ h0 hlt (by omega)) (Evt.neg ?_ hr)))
     rw [B_false (fun ⟨j,g0,g1,gd⟩=>o5 j g0 g1 gd)]
     simp
    refine Evt.pos hlt (Evt.pos h0 (Evt.pos hlt (Evt.bind (implName_ev _ k0) (Evt.pos o1 (Evt.bind (implName_ev _ k1) (Evt.pos o2 (Evt.bind (implName_ev _ k2) (Evt.pos o3 (Evt.ite (fun hp=>Evt.pos (by omega) (Evt.pos (by omega) (Evt.bind (crossOrder_ev _ _ _ _ _ _) ?_))) (fun _=>go))))))))))
    rw [decide_eq_false (fun h=>(xcmp_iff _ _ _ _).1 h (o4 hp))]
    exact go
   ·refine Evt.pos hlt (Evt.pos h0 (Evt.pos hlt (Evt.bind (implName_ev _ k0) (Evt.ite (fun e1=>Evt.bind (implName_ev _ k1) (Evt.ite (fun e2=>Evt.bind (implName_ev _ k2) (Evt.ite (fun e3=>?_) (fun _=>bad))) (fun _=>bad))) (fun _=>bad)))))
    have dup:(0<i→xbefore (rd_T114 l (i - 1)).f0 (rd_T114 l (i - 1)).f1 (rd_T114 l i).f0 (rd_T114 l i).f1)→Evt (fun k=>impl_CrossRight.j1 k l i l (l.length:Int) i false (rd_T114 l i).f0 (rd_T114 l i).f1 (rd_T114 l i).f2) false:=fun e4=>by
     apply Evt.succ
     simp only [impl_CrossRight.j1,Bool.false_eq_true,if_false,hw]
     refine Evt.pos h0 (Evt.pos (by omega) (Evt.bind (crossIn_ev l i _ _ _ h0 hlt (by omega)) (Evt.pos ?_ (Evt.pure _))))
     exact B_true (Classical.not_not.1 (fun hno=>nok ⟨⟨e1,e2,e3,e4⟩,fun j g0 g1 gd=>hno ⟨j,g0,g1,gd⟩⟩))
    refine Evt.ite (fun hp=>Evt.pos (by omega) (Evt.pos (by omega) (Evt.bind (crossOrder_ev _ _ _ _ _ _) ?_))) (fun hp=>dup (fun h=>absurd h hp))
    by_cases e4:xbefore (rd_T114 l (i - 1)).f0 (rd_T114 l (i - 1)).f1 (rd_T114 l i).f0 (rd_T114 l i).f1
    ·rw [decide_eq_false (fun h=>(xcmp_iff _ _ _ _).1 h e4)]
     exact dup (fun _=>e4)
    ·rw [decide_eq_true ((xcmp_iff _ _ _ _).2 e4)]
     exact bad
  ·simp only [impl_CrossRight.l0]
   exact Evt.neg (by omega) ((Evt.pure true).same (B_true trivial).symm)
theorem szCross_ev (b c e:ByteArray) (x:Int) (h0:0≤x) (h1:x≤1048576) (hb:(b.size:Int)≤9223372036854775807) (hc:(c.size:Int)≤9223372036854775807) (he:(e.size:Int)≤9223372036854775807) :
  ∃ r,laws_szCross.f b c e x=some r∧(r<0∨(0≤r∧r≤x∧True)):=by
 unfold laws_szCross.f
 refine sz_step h0 h1 (by omega) hb (fun g1=>?_)
 rw [wsub h0 h1 (by omega) hb]
 refine sz_step g1 (by omega) (by omega) hc (fun g2=>?_)
 rw [wsub g1 (by omega) (by omega) hc]
 refine sz_step g2 (by omega) (by omega) he (fun g3=>?_)
 rw [wsub g2 (by omega) (by omega) he]
 exact ⟨_,rfl,.inr ⟨g3,Int.le_refl _,trivial⟩⟩
def okLX (x:S96):Prop:=(x.f0.size:Int)≤9223372036854775807∧(x.f1.size:Int)≤9223372036854775807∧(x.f2.size:Int)≤9223372036854775807
theorem okLX_of {x:S96} (h:wf96 x):okLX x:=by
 have g0:x.f0.size≤2 ^ 63 - 1:=h.1
 have g1:x.f1.size≤2 ^ 63 - 1:=h.2.1
 have g2:x.f2.size≤2 ^ 63 - 1:=h.2.2
 exact ⟨by omega,by omega,by omega⟩
theorem szCrossS_ev (l:List S96) (hl:l.length≤9223372036854775807) (hx:∀ x ∈ l,okLX x) (left:Int) (h0:0≤left) (h1:left≤1048576):SzR (fun k=>laws_szCrossS.f k l left) left (l.length≤1048576∧∀ i:Int,0≤i→i<(l.length:Int)→True):=by
 refine sz_loop l.length hl (fun _=>True) _ (fun k s i=>laws_szCrossS.l0 k l s i) left h0 h1 (fun k=>rfl) ?_ ?_
 ·intro s i h0 hlt hs0 hs1
  have hw:wrap64 (i+1)=i+1:=w64 (by omega) (by omega)
  have hk:okLX (rd_T96 l i):=by
   unfold rd_T96
   rw [getD_at l _ _ (by omega)]
   exact hx _ (List.getElem_mem _)
  obtain ⟨t,ht,h2⟩:=szCross_ev (rd_T96 l i).f0 (rd_T96 l i).f1 (rd_T96 l i).f2 s hs0 hs1 hk.1 hk.2.1 hk.2.2
  simp only [laws_szCrossS.l0,ht,Option.bind_some,hw]
  rcases h2 with h2 | ⟨h2,h3,_⟩
  ·exact .inl ⟨-1,by decide,Evt.pos hlt (Evt.pos h0 (Evt.pos h2 (Evt.pure _)))⟩
  ·exact .inr ⟨t,h2,h3,trivial,fun r hr=>Evt.pos hlt (Evt.pos h0 (Evt.neg (by omega) hr))⟩
 ·intro s i hi
  simp only [laws_szCrossS.l0]
  exact Evt.neg (by omega) (Evt.pure _)
def cvCross (x:S96):S114:=⟨x.f0,x.f1,x.f2⟩
theorem toCrossS_ev (l:List S96) (hl:l.length≤1048576):Evt (fun k=>laws_toCrossS.f k l) (l.map cvCross):=by
 unfold laws_toCrossS.f
 refine Evt.pos (by omega) (Evt.pos (by omega) ?_)
 rw [Int.toNat_natCast]
 refine fill_loop l z96 z114 cvCross (fun k acc i=>laws_toCrossS.l0 k l acc i) ?_ ?_
 ·intro acc i h0 hlt ha r hr
  have hw:wrap64 (i+1)=i+1:=w64 (by omega) (by omega)
  simp only [laws_toCrossS.l0,laws_toCross.f,Option.bind_some,hw]
  exact Evt.pos hlt (Evt.pos h0 (Evt.pos (by omega) hr))
 ·intro acc i hi
  simp only [laws_toCrossS.l0]
  exact Evt.neg (by omega) (Evt.pure _)
theorem eqCrossS_refl (l:List S114) (hl:l.length≤9000000):Evt (fun k=>laws_eqCrossS.f k l l) true:=by
 unfold laws_eqCrossS.f
 refine Evt.pos rfl (all_loop (l.length:Int) (by omega) (fun k i=>laws_eqCrossS.l0 k l l i) ?_ ?_)
 ·intro i h0 hlt ih
  have hw:wrap64 (i+1)=i+1:=w64 (by omega) (by omega)
  simp only [laws_eqCrossS.l0,laws_eqCross.f,if_true,Option.bind_some,hw]
  exact Evt.pos hlt (Evt.pos h0 (Evt.pos hlt ih))
 ·simp only [laws_eqCrossS.l0]
  exact Evt.neg (by omega) (Evt.pure _)
theorem okX_map (l:List S96) (h:∀ x ∈ l,okLX x):∀ x ∈ l.map cvCross,okX x:=by
 intro x hx
 obtain ⟨y,hy,rfl⟩:=List.mem_map.1 hx
 exact h y hy
end Go.Proofs.YtomoflpgdbjojaaGreat.QO
namespace Go.Proofs.YtomoflpgdbjojaaGreat.QO
open Go.RowKit Go.Proofs.YtomoflpgdbjojaaGreatW.PrintWords Go.Proofs.YtomoflpgdbjojaaGreat.Ev0
def LineP (a b:ByteArray) (n:Int) (i:ByteArray) (o s g c:Int):Prop :=
 NameP a∧NameP b∧NameP i∧(1≤n∧n≤999)∧(1≤o∧o≤1000000)∧(0≤s∧s≤o)∧(0≤g∧g≤s)∧(0≤c∧c≤wrap64 (o - s))
noncomputable def lineB (a b:ByteArray) (n:Int) (i:ByteArray) (o s g c:Int):Bool:=B (LineP a b n i o s g c)
theorem specLine_ev (a b:ByteArray) (n:Int) (i:ByteArray) (o s g c:Int) (ha:(a.size:Int)≤9223372036854775807) (hb:(b.size:Int)≤9223372036854775807) (hi:(i.size:Int)≤9223372036854775807) :
  Evt (fun k=>spec_LineRight.f k a b n i o s g c) (lineB a b n i o s g c):=by
 unfold spec_LineRight.f
 have key:Evt (fun k=>spec_LineRight.f k a b n i o s g c) (B (NameP a∧NameP b∧NameP i∧1≤n∧n≤999∧(1≤o∧o≤1000000)∧0≤s∧0≤g∧0≤c∧g≤s∧s≤o∧c≤wrap64 (o - s))):=by
  unfold spec_LineRight.f
  refine Evt.bind (specName_ev a ha) (and_ B_iff fun _=>Evt.bind (specName_ev b hb) (and_ B_iff fun _=>Evt.bind (specName_ev i hi) (and_ B_iff fun _=>and_ Iff.rfl fun _=>and_ Iff.rfl fun _=>?_)))
  rw [l01Qty_ev]
  simp only [Option.bind_some]
  exact and_ B_iff fun _=>and_ Iff.rfl fun _=>and_ Iff.rfl fun _=>and_ Iff.rfl fun _=>and_ Iff.rfl fun _=>and_ Iff.rfl fun _=>last_ Iff.rfl
 refine key.same (B_congr ⟨?_,?_⟩)
 ·rintro ⟨h1,h2,h3,h4,h5,h6,h7,h8,h9,h10,h11,h12⟩
  exact ⟨h1,h2,h3,⟨h4,h5⟩,h6,⟨h7,h11⟩,⟨h8,h10⟩,⟨h9,h12⟩⟩
 ·rintro ⟨h1,h2,h3,⟨h4,h5⟩,h6,⟨h7,h11⟩,⟨h8,h10⟩,⟨h9,h12⟩⟩
  exact ⟨h1,h2,h3,h4,h5,h6,h7,h8,h9,h10,h11,h12⟩
theorem implLine_ev (a b:ByteArray) (n:Int) (i:ByteArray) (o s g c:Int) (ha:(a.size:Int)≤9223372036854775807) (hb:(b.size:Int)≤9223372036854775807) (hi:(i.size:Int)≤9223372036854775807) :
  Evt (fun k=>impl_LineRight.f k a b n i o s g c) (lineB a b n i o s g c):=by
 unfold impl_LineRight.f lineB LineP
 simp only [within_ev,isQty_ev,Option.bind_some]
 exact Evt.bind (implName_ev a ha) (and_ B_iff fun _=>Evt.bind (implName_ev b hb) (and_ B_iff fun _=>Evt.bind (implName_ev i hi) (and_ B_iff fun _=>and_ B_iff fun _=>and_ B_iff fun _=>and_ B_iff fun _=>and_ B_iff fun _=>lastB_ Iff.rfl)))
def lbefore (a b:ByteArray) (n:Int) (a' b':ByteArray) (n':Int):Prop:=less a a'∨(a.toList=a'.toList∧(less b b'∨(b.toList=b'.toList∧n<n')))
theorem l09Before_ev (a b:ByteArray) (n:Int) (i:ByteArray) (o s g c:Int) (a' b':ByteArray) (n':Int) (i':ByteArray) (o' s' g' c':Int) :
  spec_l09Before.f a b n i o s g c a' b' n' i' o' s' g' c'=some (B (lbefore a b n a' b' n')):=by
 unfold spec_l09Before.f lbefore
 rcases cmpS_cases a a' with ⟨h1,h2,h3,_⟩ | ⟨h1,h2,h3,_⟩ | ⟨h1,h2,h3,_⟩
 ·rw [if_neg h3,B_true (.inl h1)]
  exact congrArg some h1
 ·rw [if_neg h3,B_false (fun h=>h.elim h1 (fun h=>h3 h.1))]
  exact congrArg some (Bool.eq_false_iff.2 h1)
 ·rw [if_pos h3]
  rcases cmpS_cases b b' with ⟨g1,g2,g3,_⟩ | ⟨g1,g2,g3,_⟩ | ⟨g1,g2,g3,_⟩
  ·rw [if_neg g3,B_true (.inr ⟨h3,.inl g1⟩)]
   exact congrArg some g1
  ·rw [if_neg g3,B_false (fun h=>h.elim h1 (fun h=>h.2.elim g1 (fun h=>g3 h.1)))]
   exact congrArg some (Bool.eq_false_iff.2 g1)
  ·rw [if_pos g3,decide_B]
   exact congrArg some (B_congr ⟨fun h=>.inr ⟨h3,.inr ⟨g3,h⟩⟩,fun h=>h.elim (fun h=>absurd h h1) (fun h=>h.2.elim (fun h=>absurd h g1) (fun h=>h.2))⟩)
noncomputable def lcmp (a b:ByteArray) (n:Int) (a' b':ByteArray) (n':Int):Int:=orL [cmpS a a',cmpS b b',cmpI n n']
theorem lineOrder_ev (a b:ByteArray) (n:Int) (i:ByteArray) (o s g c:Int) (a' b':ByteArray) (n':Int) (i':ByteArray) (o' s' g' c':Int) :
  Evt (fun k=>impl_lineOrder.f k a b n i o s g c a' b' n' i' o' s' g' c') (lcmp a b n a' b' n'):=by
 unfold impl_lineOrder.f
 simp only [cmpS_ev,cmpI_ev,Option.bind_some]
 exact Evt.bind (or_ev _ (by simp)) (Evt.pure _)
theorem lcmp_iff (a b:ByteArray) (n:Int) (a' b':ByteArray) (n':Int):lcmp a b n a' b' n'≥0 ↔ ¬ lbefore a b n a' b' n':=by
 unfold lcmp lbefore
 rcases cmpS_cases a a' with ⟨h1,h2,h3,h4⟩ | ⟨h1,h2,h3,h4⟩ | ⟨h1,h2,h3,h4⟩
 ·simp [orL,h4,h1]
 ·simp [orL,h4,h1,h3]
 ·rcases cmpS_cases b b' with ⟨g1,g2,g3,g4⟩ | ⟨g1,g2,g3,g4⟩ | ⟨g1,g2,g3,g4⟩
  ·simp [orL,h4,h1,h3,g4,g1]
  ·simp [orL,h4,h1,h3,g4,g1,g3]
  ·rcases cmpI_cases n n' with ⟨e1,e2⟩ | ⟨e1,e2⟩ | ⟨e1,e2⟩
   ·simp [orL,h4,h1,h3,g4,g1,g3,e1,e2]
   ·simp [orL,h4,h1,h3,g4,g1,g3,e2];omega
   ·subst e1
    simp [orL,h4,h1,h3,g4,g1,g3,e2]
def okS (x:S161):Prop:=(x.f0.size:Int)≤9223372036854775807∧(x.f1.size:Int)≤9223372036854775807∧(x.f3.size:Int)≤9223372036854775807
def lineOk (l:List S161) (i:Int):Prop :=
 lineB (rd_T161 l i).f0 (rd_T161 l i).f1 (rd_T161 l i).f2 (rd_T161 l i).f3 (rd_T161 l i).f4 (rd_T161 l i).f5 (rd_T161 l i).f6 (rd_T161 l i).f7=true ∧
  (0<i→lbefore (rd_T161 l (i - 1)).f0 (rd_T161 l (i - 1)).f1 (rd_T161 l (i - 1)).f2 (rd_T161 l i).f0 (rd_T161 l i).f1 (rd_T161 l i).f2)
def LinesP (l:List S161):Prop:=(l.length:Int)≤200∧∀ i,0≤i→i<(l.length:Int)→lineOk l i
noncomputable def linesB (l:List S161):Bool:=B (LinesP l)
theorem okS_at {l:List S161} (h:∀ x ∈ l,okS x) (i:Int) (h1:i<(l.length:Int)) (h0:0≤i):okS (rd_T161 l i):=by
 unfold rd_T161
 rw [getD_at l _ _ (by omega)]
 exact h _ (List.getElem_mem _)
theorem specLines_ev (l:List S161) (hs:∀ x ∈ l,okS x):Evt (fun k=>spec_LinesRight.f k l) (linesB l):=by
 unfold spec_LinesRight.f
 by_cases hn:(l.length:Int)>200
 ·exact Evt.pos hn ((Evt.pure false).same (B_false (fun h=>by have:=h.1;omega)).symm)
 ·refine Evt.neg hn ?_
  refine (right_loop (l.length:Int) (by omega) (lineOk l) True (fun k i=>spec_LinesRight.l0 k l i) ?_ ?_).same (B_congr ⟨fun h=>⟨by omega,h.1⟩,fun h=>⟨h.2,trivial⟩⟩)
  ·intro i h0 hlt
   have hk:=okS_at hs i hlt h0
   have hw:wrap64 (i+1)=i+1:=w64 (by omega) (by omega)
   have hw1:wrap64 (i - 1)=i - 1:=w64 (by omega) (by omega)
   simp only [spec_LinesRight.l0,hw,hw1,l09Before_ev,Option.bind_some]
   refine ⟨fun ok r hr=>?_,fun nok=>?_⟩
   ·refine Evt.pos hlt (Evt.pos h0 (Evt.bind (specLine_ev _ _ _ _ _ _ _ _ hk.1 hk.2.1 hk.2.2) (Evt.pos ok.1 (Evt.ite (fun hp=>Evt.pos (by omega) (Evt.pos (by omega) (Evt.pos (B_true (ok.2 hp)) hr))) (fun _=>hr)))))
   ·refine Evt.pos hlt (Evt.pos h0 (Evt.bind (specLine_ev _ _ _ _ _ _ _ _ hk.1 hk.2.1 hk.2.2) (Evt.ite (fun hl=>Evt.ite (fun hp=>Evt.pos (by omega) (Evt.pos (by omega) (Evt.neg (fun hb=>nok ⟨hl,fun _=>B_iff.1 hb⟩) (Evt.pure _)))) (fun hp=>absurd ⟨hl,fun h=>absurd h hp⟩ nok)) (fun _=>Evt.pure _))))
  ·simp only [spec_LinesRight.l0]
   exact Evt.neg (by omega) ((Evt.pure true).same (B_true trivial).symm)
theorem implLines_ev (l:List S161) (hs:∀ x ∈ l,okS x):Evt (fun k=>impl_LinesRight.f k l) (linesB l):=by
 unfold impl_LinesRight.f
 by_cases hn:(l.length:Int)>200
 ·exact Evt.pos hn ((Evt.pure false).same (B_false (fun h=>by have:=h.1;omega)).symm)
 ·refine Evt.neg hn ?_
  refine (right_loop (l.length:Int) (by omega) (lineOk l) True (fun k i=>impl_LinesRight.l0 k l l (l.length:Int) i) ?_ ?_).same (B_congr ⟨fun h=>⟨by omega,h.1⟩,fun h=>⟨h.2,trivial⟩⟩)
  ·intro i h0 hlt
   have hk:=okS_at hs i hlt h0
   have hw:wrap64 (i+1)=i+1:=w64 (by omega) (by omega)
   have hw1:wrap64 (i - 1)=i - 1:=w64 (by omega) (by omega)
   simp only [impl_LinesRight.l0,hw,hw1]
   refine ⟨fun ok r hr=>?_,fun nok=>?_⟩
   ·refine Evt.pos hlt (Evt.pos h0 (Evt.pos hlt (Evt.bind (implLine_ev _ _ _ _ _ _ _ _ hk.1 hk.2.1 hk.2.2) (Evt.pos ok.1 (Evt.ite (fun hp=>Evt.pos (by omega) (Evt.pos (by omega) (Evt.bind (lineOrder_ev _ _ _ _ _ _ _ _ _ _ _ _ _ _ _ _) (Evt.neg (fun h=>(lcmp_iff _ _ _ _ _ _).1 h (ok.2 hp)) hr)))) (fun _=>hr))))))
   ·refine Evt.pos hlt (Evt.pos h0 (Evt.pos hlt (Evt.bind (implLine_ev _ _ _ _ _ _ _ _ hk.1 hk.2.1 hk.2.2) (Evt.ite (fun hl=>Evt.ite (fun hp=>Evt.pos (by omega) (Evt.pos (by omega) (Evt.bind (lineOrder_ev _ _ _ _ _ _ _ _ _ _ _ _ _ _ _ _) (Evt.pos ((lcmp_iff _ _ _ _ _ _).2 (fun hb=>nok ⟨hl,fun _=>hb⟩)) (Evt.pure _))))) (fun hp=>absurd ⟨hl,fun h=>absurd h hp⟩ nok)) (fun _=>Evt.pure _)))))
  ·simp only [impl_LinesRight.l0]
   exact Evt.neg (by omega) ((Evt.pure true).same (B_true trivial).symm)
end Go.Proofs.YtomoflpgdbjojaaGreat.QO
