import Derived.Lib.Strings
import Derived.Lib.ItoaNum
import Derived.Lib.AtoiAll
import Derived.Lib.ParseIntBTie
import Derived.Lib.IndexMore
import Derived.Test.YtapilmimgiaglaaGreatDoorKFnExactParcelIx21
namespace Go.Proofs.YtapilmimgiaglaaGreatDoor.Ev0
open Go.RowKit Go.Proofs.bB.eH
theorem om {p:Prop} (h:p:=by omega):p:=h
def aa {α:Type}(f:Nat→Option α)(r:α):Prop:=∃ K,∀ k,K≤k→f k=some r
namespace aa
variable {α β : Type}
theorem const {o:Option α}{r:α}(h:o=some r):aa (fun _=>o) r:=⟨0,fun _ _=>h⟩
theorem pure (r:α):aa (fun _=>some r) r:=⟨0,fun _ _=>rfl⟩
theorem bind {f:Nat→Option α}{g:Nat→α→Option β}{a:α}{r:β}(h:aa f a)(h2:aa (fun k=>g k a) r):aa (fun k=>(f k).bind (g k)) r:=by
 obtain ⟨K,hK⟩:=h
 obtain ⟨L,hL⟩:=h2
 refine ⟨K+L,fun k hk=>?_⟩
 show (f k).bind (g k)=some r
 rw [hK k om]
 exact hL k om
theorem succ {f:Nat→Option α}{r:α}(h:aa (fun k=>f (k+1)) r):aa f r:=by
 obtain ⟨K,hK⟩:=h
 refine ⟨K+1,fun k hk=>?_⟩
 obtain ⟨m,rfl⟩:∃ m,k=m+1:=⟨k - 1,by omega⟩
 exact hK m om
theorem pos {c:Prop}[Decidable c]{f g:Nat→Option α}{r:α}(hc:c)(h:aa f r):aa (fun k=>if c then f k else g k) r:=by
 simpa only [if_pos hc] using h
theorem neg {c:Prop}[Decidable c]{f g:Nat→Option α}{r:α}(hc:¬ c)(h:aa g r):aa (fun k=>if c then f k else g k) r:=by
 simpa only [if_neg hc] using h
theorem ite {c:Prop}[Decidable c]{f g:Nat→Option α}{r:α}(h1:c→aa f r)(h2:¬ c→aa g r):aa (fun k=>if c then f k else g k) r:=by
 by_cases hc:c
 ·exact pos hc (h1 hc)
 ·exact neg hc (h2 hc)
theorem ex {f:Nat→Option α}{r:α}(h:aa f r):∃ k,f k=some r:=by
 obtain ⟨K,hK⟩:=h
 exact ⟨K,hK K (Nat.le_refl _)⟩
theorem same {f:Nat→Option α}{r r':α}(h:aa f r)(e:r=r'):aa f r':=e ▸ h
end aa
theorem bP {x:Int}(h0: -9223372036854775808≤x)(h1:x≤9223372036854775807):wrap64 x=x:=by
 unfold wrap64
 omega
noncomputable def B (p:Prop):Bool:=@decide p (Classical.propDecidable p)
theorem fT {p:Prop}(h:p):B p=true:=by unfold B;exact @decide_eq_true p (Classical.propDecidable p) h
theorem gq {p:Prop}(h:¬ p):B p=false:=by unfold B;exact @decide_eq_false p (Classical.propDecidable p) h
theorem Gu {p:Prop} : B p=true ↔ p:=by unfold B;exact @decide_eq_true_iff p (Classical.propDecidable p)
theorem kw {p q:Prop}(h:p ↔ q):B p=B q:=by rw [propext h]
theorem Dt (p:Prop)[Decidable p]:decide p=B p:=by
 by_cases h:p
 ·rw [decide_eq_true h,fT h]
 ·rw [decide_eq_false h,gq h]
theorem Kj {b:Bool}{p:Prop}(h:b=true ↔ p):b=B p:=by
 cases b with
 | true=>exact (fT (h.1 rfl)).symm
 | false=>exact (gq (fun hp=>by simpa using h.2 hp)).symm
theorem atb {c p q:Prop}[Decidable c]{f:Nat→Option Bool}(hc:c ↔ p)(h:p→aa f (B q)):aa (fun k=>if c then f k else some false) (B (p∧q)):=by
 by_cases e:c
 ·exact aa.pos e ((h (hc.1 e)).same (kw ⟨fun x=>⟨hc.1 e,x⟩,fun x=>x.2⟩))
 ·exact aa.neg e ((aa.pure false).same (gq (fun x=>e (hc.2 x.1))).symm)
theorem avC {c p q:Prop}[Decidable c]{f:Nat→Option Bool}(hc:c ↔ ¬ p)(h:p→aa f (B q)):aa (fun k=>if c then some false else f k) (B (p∧q)):=by
 by_cases e:c
 ·exact aa.pos e ((aa.pure false).same (gq (fun x=>hc.1 e x.1)).symm)
 ·have hp:p:=Classical.not_not.1 (fun x=>e (hc.2 x))
  exact aa.neg e ((h hp).same (kw ⟨fun x=>⟨hp,x⟩,fun x=>x.2⟩))
theorem IB {p q:Prop}[Decidable p](h:p ↔ q):aa (fun _=>some (decide p)) (B q):=(aa.pure _).same ((Dt p).trans (kw h))
theorem qR {σ ρ:Type}(n:Int)(F:Nat→σ→Int→Option ρ)(st:Int→σ)(r:Int→ρ)
  (step:∀ i,0≤i→i<n→aa (fun k=>F k (st (i+1)) (i+1)) (r (i+1))→aa (fun k=>F (k+1) (st i) i) (r i))
  (stop:aa (fun k=>F (k+1) (st n) n) (r n)) (i:Int) (h0:0≤i) (hn:i≤n):aa (fun k=>F k (st i) i) (r i):=by
 have key:∀ (d:Nat) (i:Int),0≤i→i≤n→n - i≤d→aa (fun k=>F k (st i) i) (r i):=by
  intro d
  induction d with
  | zero =>
   intro i h0 h1 hd
   obtain rfl:i=n:=by omega
   exact stop.succ
  | succ d ih =>
   intro i h0 h1 hd
   by_cases hlt:i<n
   ·exact (step i h0 hlt (ih (i+1) om om om)).succ
   ·obtain rfl:i=n:=by omega
    exact stop.succ
 exact key (n - i).toNat i h0 hn om
def GQ (f:Nat→Option Int)(left:Int)(p:Prop):Prop:=∃ t,aa f t∧(t<0∨(0≤t∧t≤left∧p))
theorem agv (n:Nat)(hn:n≤9223372036854775807)(p:Int→Prop)(f:Nat→Option Int)(F:Nat→Int→Int→Option Int)(left:Int)(hl0:0≤left)(hl:left≤1048576)
  (hf:∀ k,f k=if wrap64 (left - (n:Int))<0 then some (-1) else F k (wrap64 (left - (n:Int))) 0)
  (step:∀ s i,0≤i→i<(n:Int)→0≤s→s≤1048576→(∃ r,r<0∧aa (fun k=>F (k+1) s i) r)∨(∃ s',0≤s'∧s'≤s∧p i∧∀ r,aa (fun k=>F k s' (i+1)) r→aa (fun k=>F (k+1) s i) r))
  (stop:∀ s i,(n:Int)≤i→aa (fun k=>F (k+1) s i) s):GQ f left (n≤1048576∧∀ i,0≤i→i<(n:Int)→p i):=by
 have hw:wrap64 (left - (n:Int))=left - (n:Int):=bP om om
 by_cases h:left - (n:Int)<0
 ·refine ⟨-1,⟨0,fun k _=>?_⟩,.inl (by decide)⟩
  rw [hf,hw,if_pos h]
 ·have key:∀ (d:Nat) (s i:Int),0≤i→(n:Int) - i≤d→0≤s→s≤1048576→∃ t,aa (fun k=>F k s i) t∧(t<0∨(0≤t∧t≤s∧∀ j,i≤j→j<(n:Int)→p j)):=by
   intro d
   induction d with
   | zero=>intro s i h0 hd hs0 hs1;exact ⟨s,(stop s i om).succ,.inr ⟨hs0,Int.le_refl _,fun j h1 h2=>absurd h2 om⟩⟩
   | succ d ih =>
    intro s i h0 hd hs0 hs1
    by_cases hlt:i<(n:Int)
    ·rcases step s i h0 hlt hs0 hs1 with ⟨r,hr0,hr⟩ | ⟨s',h1,h2,hp,hs⟩
     ·exact ⟨r,hr.succ,.inl hr0⟩
     ·obtain ⟨t,ht,h3⟩:=ih s' (i+1) om om h1 om
      refine ⟨t,(hs t ht).succ,h3.imp id (fun ⟨g0,g1,g2⟩=>⟨g0,by omega,fun j h1 h2=>?_⟩)⟩
      by_cases e:j=i
      ·rw [e];exact hp
      ·exact g2 j om h2
    ·exact ⟨s,(stop s i om).succ,.inr ⟨hs0,Int.le_refl _,fun j h1 h2=>absurd h2 om⟩⟩
  obtain ⟨t,⟨K,hK⟩,h3⟩:=key n (left - (n:Int)) 0 (Int.le_refl _) om om om
  refine ⟨t,⟨K,fun k hk=>?_⟩,h3.imp id (fun ⟨g0,g1,g2⟩=>⟨g0,by omega,by omega,g2⟩)⟩
  rw [hf,hw,if_neg h]
  exact hK k hk
theorem MR {s a:Int}(hs0:0≤s)(hs1:s≤1048576)(ha0:0≤a)(ha:a≤9223372036854775807):wrap64 (s - a)=s - a:=bP om om
theorem getD_at {α:Type}(l:List α)(z:α)(i:Nat)(h:i<l.length):l.getD i z=l[i]:=by
 rw [List.getD_eq_getElem?_getD,List.getElem?_eq_getElem h]
 rfl
theorem adV {α β:Type}(l:List α)(zα:α)(z:β)(g:α→β)(F:Nat→List β→Int→Option (List β))
  (step:∀ acc i,0≤i→i<(l.length:Int)→acc.length=l.length→∀ r,aa (fun k=>F k (acc.set i.toNat (g (l.getD i.toNat zα))) (i+1)) r→aa (fun k=>F (k+1) acc i) r)
  (stop:∀ acc i,(l.length:Int)≤i→aa (fun k=>F (k+1) acc i) acc):aa (fun k=>F k (List.replicate l.length z) 0) (l.map g):=by
 have h:=qR (l.length:Int) F (fun i=>(l.take i.toNat).map g++List.replicate (l.length - i.toNat) z) (fun _=>l.map g) ?_ ?_ 0 (Int.le_refl _) om
 ·simpa using h
 ·intro i h0 hlt ih
  refine step _ i h0 hlt (by simp;omega) _ ?_
  have hi:i.toNat<l.length:=by omega
  have e:((l.take i.toNat).map g++List.replicate (l.length - i.toNat) z).set i.toNat (g (l.getD i.toNat zα))=(l.take (i+1).toNat).map g++List.replicate (l.length - (i+1).toNat) z:=by
   have e1:(i+1).toNat=i.toNat+1:=by omega
   rw [e1,List.take_succ_eq_append_getElem hi,List.map_append,getD_at l zα _ hi,List.set_append_right _ _ (by simp;omega)]
   have e2:l.length - i.toNat=(l.length - (i.toNat+1))+1:=by omega
   have e3:i.toNat - ((l.take i.toNat).map g).length=0:=by simp;omega
   rw [e2,e3,List.replicate_succ]
   simp
  rw [e]
  exact ih
 ·have h:=stop ((l.take ((l.length:Int)).toNat).map g++List.replicate (l.length - ((l.length:Int)).toNat) z) (l.length:Int) (Int.le_refl _)
  refine h.same ?_
  simp
theorem BA (n:Int)(h0:0≤n)(F:Nat→Int→Option Bool)(step:∀ i,0≤i→i<n→aa (fun k=>F k (i+1)) true→aa (fun k=>F (k+1) i) true)
  (stop:aa (fun k=>F (k+1) n) true):aa (fun k=>F k 0) true :=
 qR n (fun k (_:Unit) i=>F k i) (fun _=>()) (fun _=>true) step stop 0 (Int.le_refl _) h0
theorem IX (n:Int)(hn:0≤n)(ok:Int→Prop)(q:Prop)(F:Nat→Int→Option Bool)
  (step:∀ i,0≤i→i<n→(ok i→∀ r,aa (fun k=>F k (i+1)) r→aa (fun k=>F (k+1) i) r)∧(¬ ok i→aa (fun k=>F (k+1) i) false))
  (stop:aa (fun k=>F (k+1) n) (B q)):aa (fun k=>F k 0) (B ((∀ i,0≤i→i<n→ok i)∧q)):=by
 have h:=qR n (fun k (_:Unit) i=>F k i) (fun _=>()) (fun i=>B ((∀ j,i≤j→j<n→ok j)∧q)) ?_ ?_ 0 (Int.le_refl _) hn
 ·exact h
 ·intro i h0 hlt ih
  by_cases hk:ok i
  ·refine ((step i h0 hlt).1 hk _ ih).same (kw ⟨fun h=>⟨fun j h1 h2=>?_,h.2⟩,fun h=>⟨fun j h1 h2=>h.1 j om h2,h.2⟩⟩)
   by_cases e:j=i
   ·rw [e];exact hk
   ·exact h.1 j om h2
  ·exact ((step i h0 hlt).2 hk).same (gq (fun h=>hk (h.1 i (Int.le_refl _) hlt))).symm
 ·exact stop.same (kw ⟨fun h=>⟨fun j h1 h2=>absurd h2 om,h⟩,fun h=>h.2⟩)
theorem ZB (n:Int)(hn:0≤n)(p:Int→Prop)(F:Nat→Int→Option Int)
  (step:∀ i,0≤i→i<n→(p i→aa (fun k=>F (k+1) i) i)∧(¬ p i→∀ r,aa (fun k=>F k (i+1)) r→aa (fun k=>F (k+1) i) r))
  (stop:aa (fun k=>F (k+1) n) (-1)) :
  ∃ r,aa (fun k=>F k 0) r∧((r = -1∧∀ j,0≤j→j<n→¬ p j)∨(0≤r∧r<n∧p r∧∀ j,0≤j→j<r→¬ p j)):=by
 have key:∀ (d:Nat) (i:Int),0≤i→i≤n→n - i≤d→∃ r,aa (fun k=>F k i) r∧((r = -1∧∀ j,i≤j→j<n→¬ p j)∨(i≤r∧r<n∧p r∧∀ j,i≤j→j<r→¬ p j)):=by
  intro d
  induction d with
  | zero =>
   intro i h0 h1 hd
   obtain rfl:i=n:=by omega
   exact ⟨-1,stop.succ,.inl ⟨rfl,fun j h1 h2=>absurd h2 om⟩⟩
  | succ d ih =>
   intro i h0 h1 hd
   by_cases hlt:i<n
   ·by_cases hp:p i
    ·exact ⟨i,((step i h0 hlt).1 hp).succ,.inr ⟨Int.le_refl _,hlt,hp,fun j h1 h2=>absurd h2 om⟩⟩
    ·obtain ⟨r,hr,h⟩:=ih (i+1) om om om
     refine ⟨r,((step i h0 hlt).2 hp r hr).succ,?_⟩
     rcases h with ⟨h1,h2⟩ | ⟨h1,h2,h3,h4⟩
     ·refine .inl ⟨h1,fun j g1 g2=>?_⟩
      by_cases e:j=i
      ·rw [e];exact hp
      ·exact h2 j om g2
     ·refine .inr ⟨by omega,h2,h3,fun j g1 g2=>?_⟩
      by_cases e:j=i
      ·rw [e];exact hp
      ·exact h4 j om g2
   ·obtain rfl:i=n:=by omega
    exact ⟨-1,stop.succ,.inl ⟨rfl,fun j h1 h2=>absurd h2 om⟩⟩
 exact key n.toNat 0 (Int.le_refl _) hn om
theorem Km {a b:ByteArray} : a.toList=b.toList ↔ a=b:=by
 constructor
 ·intro h
  rw [Lib.toList_data,Lib.toList_data] at h
  cases a with|mk x=>cases b with|mk y=>cases x with|mk x=>cases y with|mk y=>simp at h;rw [h]
 ·rintro rfl
  rfl
theorem Sb {a:ByteArray} : a.toList=([]:List UInt8) ↔ a.size=0:=by
 rw [Lib.toList_data]
 cases a with|mk x=>cases x with|mk x=>simp [ByteArray.size]
end Go.Proofs.YtapilmimgiaglaaGreatDoor.Ev0
namespace Go.Proofs.YtapilmimgiaglaaGreatDoor.QX
open Go.RowKit Go.Proofs.bB.eH Go.Proofs.YtapilmimgiaglaaGreatDoor.Ev0
def bY (l:List UInt8):ByteArray:=⟨l.toArray⟩
theorem NV (a b:List UInt8):bY a++bY b=bY (a++b):=by
 apply ByteArray.ext
 simp [bY]
theorem tO (l:List UInt8):(bY l).size=l.length:=by simp [bY,ByteArray.size]
def dg (u:Nat):List UInt8:=if u=0 then [] else Lib.decDigits u
theorem aj3 (u:Nat)(h:u≠0):dg u=dg (u / 10)++[UInt8.ofNat (48+u % 10)]:=by
 unfold dg
 rw [if_neg h,Lib.decDigits]
 by_cases g:u<10
 ·rw [dif_pos g,if_pos om,show u % 10=u by omega]
  rfl
 ·rw [dif_neg g,if_neg om]
theorem auG (d:Nat):∀ u:Nat,u<10 ^ d→(dg u).length≤d:=by
 induction d with
 | zero =>
  intro u h
  have:u=0:=by (simpa using h)
  subst this
  simp [dg]
 | succ d ih =>
  intro u h
  by_cases g:u=0
  ·subst g;simp [dg]
  ·rw [aj3 u g,List.length_append,List.length_singleton]
   have:=ih (u / 10) (by rw [Nat.pow_succ] at h;omega)
   omega
theorem az4 (v:Nat)(h:v<10):strOfNums [((48+v:Nat):Int)]=bY [UInt8.ofNat (48+v)]:=by
 have:v=0∨v=1∨v=2∨v=3∨v=4∨v=5∨v=6∨v=7∨v=8∨v=9:=by omega
 rcases this with rfl|rfl|rfl|rfl|rfl|rfl|rfl|rfl|rfl|rfl <;> rfl
theorem aj2 (d:Nat):∀ (n:Nat) (a:Int) (neg:Bool) (x:List UInt8),(a=(n:Int)∨a = -(n:Int))→n<10 ^ d→n≤9223372036854775808→(a=(n:Int)→n≤9223372036854775807)→x.length+d≤1000 →
  aa (fun k=>fK.l0 k a neg (bY x)) (bY ((if neg=true then [45] else [])++(dg n++x))):=by
 have fin:∀ (a:Int) (neg:Bool) (x:List UInt8),a=0→x.length≤1000→aa (fun k=>fK.l0 k a neg (bY x)) (bY ((if neg=true then [45] else [])++(dg 0++x))):=by
  intro a neg x ha hx
  apply aa.succ
  simp only [fK.l0]
  refine aa.pos ha ?_
  cases neg with
  | true=>exact aa.pos rfl (aa.pos (by rw [tO];omega) ((aa.pure _).same (NV [45] x)))
  | false=>exact aa.neg (by decide) ((aa.pure _).same (by simp [dg]))
 induction d with
 | zero =>
  intro n a neg x ha hn h1 h2 hx
  have:n=0:=by simpa using hn
  subst this
  exact fin a neg x om om
 | succ d ih =>
  intro n a neg x ha hn h1 h2 hx
  by_cases g:n=0
  ·subst g
   exact fin a neg x om om
  have hd:n / 10<10 ^ d:=by rw [Nat.pow_succ] at hn;omega
  apply aa.succ
  simp only [fK.l0,Option.bind_some]
  refine aa.neg om ?_
  have hv:n % 10<10:=by omega
  have one:∀ v:Int,v=((n % 10:Nat):Int)→strOfNums [(wrap64 (48+v)) % 256]=bY [UInt8.ofNat (48+n % 10)]:=fun v e=>by
   rw [e,bP om om,← az4 _ hv]
   congr 2
   omega
  have ends:bY ((if neg=true then [45] else [])++(dg (n / 10)++([UInt8.ofNat (48+n % 10)]++x)))=bY ((if neg=true then [45] else [])++(dg n++x)):=by
   rw [aj3 n g,List.append_assoc]
  rcases ha with ha|ha
  ·have e1:Int.tmod a 10=((n % 10:Nat):Int):=by rw [ha,Int.tmod_eq_emod_of_nonneg om];omega
   have e2:Int.tdiv a 10=((n / 10:Nat):Int):=by rw [ha,Int.tdiv_eq_ediv_of_nonneg om];omega
   refine aa.neg om ?_
   rw [one _ e1,e2,bP om om,NV]
   refine aa.pos (by rw [tO,tO,List.length_singleton];omega) ((ih (n / 10) _ neg _ (.inl rfl) hd om (fun _=>by omega) (by simp;omega)).same ends)
  ·have e1:Int.tmod a 10 = -((n % 10:Nat):Int):=by rw [ha,Int.neg_tmod,Int.tmod_eq_emod_of_nonneg om];omega
   have e2:Int.tdiv a 10 = -((n / 10:Nat):Int):=by rw [ha,Int.neg_tdiv,Int.tdiv_eq_ediv_of_nonneg om];omega
   have hm:wrap64 (-(Int.tmod a 10))=((n % 10:Nat):Int):=by rw [e1,bP om om];omega
   have go:aa (fun k=>fK.l0 k (-((n / 10:Nat):Int)) neg (bY ([UInt8.ofNat (48+n % 10)]++x))) (bY ((if neg=true then [45] else [])++(dg n++x))) :=
    (ih (n / 10) _ neg _ (.inr rfl) hd om (fun h=>by omega) (by simp;omega)).same ends
   by_cases hz:Int.tmod a 10<0
   ·refine aa.pos hz ?_
    rw [hm,one _ rfl,e2,bP om om,NV]
    exact aa.pos (by rw [tO,tO,List.length_singleton];omega) go
   ·refine aa.neg hz ?_
    rw [one _ om,e2,bP om om,NV]
    exact aa.pos (by rw [tO,tO,List.length_singleton];omega) go
theorem Px (a:Int)(h0: -9223372036854775808≤a)(h1:a≤9223372036854775807):aa (fun k=>fK.f k a) (bY (Lib.itoa a)):=by
 unfold fK.f
 by_cases e:a=0
 ·refine aa.pos e ((aa.pure _).same ?_)
  subst e
  unfold Lib.itoa
  rw [if_neg (by decide),show (0:Int).toNat=0 from rfl,Lib.decDigits,dif_pos (by decide)]
  rfl
 ·refine aa.neg e ?_
  by_cases g:a<0
  ·rw [decide_eq_true g]
   have h:=aj2 20 a.natAbs a true [] (.inr om) om om (fun h=>by omega) (by decide)
   refine (show aa (fun k=>fK.l0 k a true (⟨#[]⟩:ByteArray)) _ from h).same ?_
   unfold Lib.itoa dg
   rw [if_pos g,if_pos rfl,if_neg om,List.append_nil]
   rfl
  ·rw [decide_eq_false g]
   have h:=aj2 20 a.natAbs a false [] (.inl om) om om (fun h=>by omega) (by decide)
   refine (show aa (fun k=>fK.l0 k a false (⟨#[]⟩:ByteArray)) _ from h).same ?_
   unfold Lib.itoa dg
   rw [if_neg g,if_neg (by decide),if_neg om,List.append_nil,List.nil_append,show a.toNat=a.natAbs by omega]
theorem axT (a:Int)(h0: -9223372036854775808≤a)(h1:a≤9223372036854775807):(Lib.itoa a).length≤25:=by
 have hd:∀ u:Nat,u<10 ^ 20→(Lib.decDigits u).length≤20:=fun u hu=>by
  by_cases g:u=0
  ·subst g
   rw [Lib.decDigits,dif_pos (by decide)]
   decide
  ·have:=auG 20 u hu
   unfold dg at this
   rwa [if_neg g] at this
 unfold Lib.itoa
 by_cases g:a<0
 ·rw [if_pos g,List.length_cons]
  have:=hd a.natAbs om
  omega
 ·rw [if_neg g]
  have:=hd a.toNat om
  omega
theorem AR (a b c:Int):l9.f a b c=some (B (b≤a∧a≤c)):=by
 unfold l9.f
 by_cases h:b≤a
 ·rw [if_pos h,Dt]
  exact congrArg some (kw ⟨fun x=>⟨h,x⟩,fun x=>x.2⟩)
 ·rw [if_neg h,gq (fun x=>h x.1)]
theorem am4 (c:Int):zA.f c=some (B (65≤c∧c≤90)):=by
 unfold zA.f
 by_cases h:c≥65
 ·rw [if_pos h,Dt]
  exact congrArg some (kw ⟨fun x=>⟨h,x⟩,fun x=>x.2⟩)
 ·rw [if_neg h,gq (fun x=>h x.1)]
theorem am3 (c:Int):FJ.f c=some (B (48≤c∧c≤57)):=by
 unfold FJ.f
 by_cases h:c≥48
 ·rw [if_pos h,Dt]
  exact congrArg some (kw ⟨fun x=>⟨h,x⟩,fun x=>x.2⟩)
 ·rw [if_neg h,gq (fun x=>h x.1)]
theorem ayn (n:Int):I4.f n=some (B (1≤n∧n≤1000000)):=by
 unfold I4.f
 by_cases h:n≥1
 ·rw [if_pos h,Dt]
  exact congrArg some (kw ⟨fun x=>⟨h,x⟩,fun x=>x.2⟩)
 ·rw [if_neg h,gq (fun x=>h x.1)]
def Aw (c:Int):Prop:=(65≤c∧c≤90)∨(48≤c∧c≤57)∨c=45
def acX (s:ByteArray):Prop:=1≤(s.size:Int)∧(s.size:Int)≤12∧(65≤bt s 0∧bt s 0≤90)∧∀ j:Int,0≤j→j<s.size→Aw (bt s j)
noncomputable def Pz (s:ByteArray):Bool:=B (acX s)
theorem az1 (s:ByteArray)(hs:(s.size:Int)≤9223372036854775807)(d:Nat):∀ i:Int,0≤i→(s.size:Int) - i≤d→aa (fun k=>jQ.l0 k s i) (B (∀ j:Int,i≤j→j<s.size→Aw (bt s j))):=by
 induction d with
 | zero =>
  intro i h0 hd
  apply aa.succ
  simp only [jQ.l0]
  refine aa.neg om ((aa.pure true).same (fT ?_).symm)
  intro j h1 h2
  omega
 | succ d ih =>
  intro i h0 hd
  apply aa.succ
  simp only [jQ.l0]
  by_cases hlt:i<(s.size:Int)
  ·refine aa.pos hlt (aa.pos h0 ?_)
   have hw:wrap64 (i+1)=i+1:=bP om om
   rw [hw]
   have yes:Aw (bt s i)→aa (fun k=>jQ.l0 k s (i+1)) (B (∀ j:Int,i≤j→j<s.size→Aw (bt s j))):=fun hc =>
    (ih (i+1) om om).same (kw ⟨fun h j h1 h2=>by
     by_cases e:j=i
     ·rw [e];exact hc
     ·exact h j om h2,fun h j h1 h2=>h j om h2⟩)
   have no:¬ Aw (bt s i)→aa (fun _=>some false) (B (∀ j:Int,i≤j→j<s.size→Aw (bt s j))):=fun hc =>
    (aa.pure false).same (gq (fun h=>hc (h i (Int.le_refl _) hlt))).symm
   have digit:aa (fun k=>if bt s i≥48 then (if bt s i≤57 then jQ.l0 k s (i+1) else (if bt s i=45 then jQ.l0 k s (i+1) else some false)) else (if bt s i=45 then jQ.l0 k s (i+1) else some false)) (B (∀ j:Int,i≤j→j<s.size→Aw (bt s j)))∨(65≤bt s i∧bt s i≤90):=by
    by_cases hg:65≤bt s i∧bt s i≤90
    ·exact .inr hg
    ·refine .inl (aa.ite (fun h1=>aa.ite (fun h2=>yes (.inr (.inl ⟨h1,h2⟩))) (fun h2=>aa.ite (fun h3=>yes (.inr (.inr h3))) (fun h3=>no (fun hk=>?_)))) (fun h1=>aa.ite (fun h3=>yes (.inr (.inr h3))) (fun h3=>no (fun hk=>?_))))
     ·rcases hk with hk|hk|hk
      ·exact hg hk
      ·omega
      ·exact h3 hk
     ·rcases hk with hk|hk|hk
      ·exact hg hk
      ·omega
      ·exact h3 hk
   refine aa.ite (fun h1=>aa.ite (fun h2=>yes (.inl ⟨h1,h2⟩)) (fun h2=>?_)) (fun h1=>?_)
   ·exact digit.resolve_right (fun h=>h2 h.2)
   ·exact digit.resolve_right (fun h=>h1 h.1)
  ·refine aa.neg hlt ((aa.pure true).same (fT ?_).symm)
   intro j h1 h2
   omega
theorem agu (s:ByteArray)(hs:(s.size:Int)≤9223372036854775807):aa (fun k=>jQ.f k s) (Pz s):=by
 unfold jQ.f
 have bad:¬ acX s→aa (fun k=>jQ.j0 k s true) (Pz s):=fun h=>by
  apply aa.succ
  simp only [jQ.j0]
  exact (aa.pure false).same (gq h).symm
 refine aa.ite (fun h=>bad (fun hn=>by have:=hn.1;omega)) (fun h1=>aa.ite (fun h=>bad (fun hn=>by have:=hn.2.1;omega)) (fun h2=>aa.pos om (aa.ite (fun h=>bad (fun hn=>by have:=hn.2.2.1.1;omega)) (fun h3=>?_))))
 by_cases h4:bt s 0>90
 ·rw [decide_eq_true h4]
  exact bad (fun hn=>by have:=hn.2.2.1.2;omega)
 ·rw [decide_eq_false h4]
  apply aa.succ
  simp only [jQ.j0]
  refine (az1 s hs s.size 0 (Int.le_refl _) om).same (kw ⟨fun h=>⟨by omega,by omega,⟨by omega,by omega⟩,h⟩,fun h=>h.2.2.2⟩)
theorem axM (s:ByteArray)(hs:(s.size:Int)≤9223372036854775807)(d:Nat):∀ i:Int,0≤i→(s.size:Int) - i≤d →
  aa (fun k=>qP.l0 k s (s.size:Int) i) (B ((∀ j:Int,i≤j→j<s.size→(65≤bt s j∧bt s j≤90)∨(j≠0∧Aw (bt s j)))∧1≤(s.size:Int)∧(s.size:Int)≤12)):=by
 induction d with
 | zero =>
  intro i h0 hd
  apply aa.succ
  simp only [qP.l0]
  refine aa.neg om (aa.const ?_)
  rw [AR]
  exact congrArg some (kw ⟨fun h=>⟨fun j h1 h2=>by omega,h⟩,fun h=>h.2⟩)
 | succ d ih =>
  intro i h0 hd
  apply aa.succ
  simp only [qP.l0]
  by_cases hlt:i<(s.size:Int)
  ·refine aa.pos hlt (aa.pos h0 (aa.pos hlt ?_))
   have hw:wrap64 (i+1)=i+1:=bP om om
   rw [hw,am4,am3]
   have yes:((65≤bt s i∧bt s i≤90)∨(i≠0∧Aw (bt s i)))→aa (fun k=>qP.l0 k s (s.size:Int) (i+1)) (B ((∀ j:Int,i≤j→j<s.size→(65≤bt s j∧bt s j≤90)∨(j≠0∧Aw (bt s j)))∧1≤(s.size:Int)∧(s.size:Int)≤12)):=fun hc =>
    (ih (i+1) om om).same (kw ⟨fun h=>⟨fun j h1 h2=>by
     by_cases e:j=i
     ·rw [e];exact hc
     ·exact h.1 j om h2,h.2⟩,fun h=>⟨fun j h1 h2=>h.1 j om h2,h.2⟩⟩)
   have no:¬ ((65≤bt s i∧bt s i≤90)∨(i≠0∧Aw (bt s i)))→aa (fun _=>some false) (B ((∀ j:Int,i≤j→j<s.size→(65≤bt s j∧bt s j≤90)∨(j≠0∧Aw (bt s j)))∧1≤(s.size:Int)∧(s.size:Int)≤12)):=fun hc =>
    (aa.pure false).same (gq (fun h=>hc (h.1 i (Int.le_refl _) hlt))).symm
   simp only [Option.bind_some]
   refine aa.ite (fun h1=>yes (.inl (Gu.1 h1))) (fun h1=>?_)
   have g1:¬ (65≤bt s i∧bt s i≤90):=fun h=>h1 (Gu.2 h)
   refine aa.ite (fun h2=>no (fun h=>h.elim g1 (fun h=>h.1 h2))) (fun h2=>aa.ite (fun h3=>yes (.inr ⟨h2,.inr (.inl (Gu.1 h3))⟩)) (fun h3=>aa.ite (fun h4=>yes (.inr ⟨h2,.inr (.inr h4)⟩)) (fun h4=>no (fun h=>?_))))
   rcases h with h | ⟨_,h|h|h⟩
   ·exact g1 h
   ·exact g1 h
   ·exact h3 (Gu.2 h)
   ·exact h4 h
  ·refine aa.neg hlt (aa.const ?_)
   rw [AR]
   exact congrArg some (kw ⟨fun h=>⟨fun j h1 h2=>by omega,h⟩,fun h=>h.2⟩)
theorem aaq (s:ByteArray)(hs:(s.size:Int)≤9223372036854775807):aa (fun k=>qP.f k s) (Pz s):=by
 unfold qP.f
 refine (axM s hs s.size 0 (Int.le_refl _) om).same (kw ⟨fun h=>⟨h.2.1,h.2.2,?_,?_⟩,fun h=>⟨?_,h.1,h.2.1⟩⟩)
 ·rcases h.1 0 (Int.le_refl _) om with h|h
  ·exact h
  ·exact absurd rfl h.1
 ·intro j h1 h2
  rcases h.1 j h1 h2 with h|h
  ·exact .inl h
  ·exact h.2
 ·intro j h1 h2
  by_cases e:j=0
  ·rw [e];exact .inl h.2.2.1
  ·exact .inr ⟨e,h.2.2.2 j h1 h2⟩
end Go.Proofs.YtapilmimgiaglaaGreatDoor.QX
namespace Go.Proofs.YtapilmimgiaglaaGreatDoor.Num
def mQ (c:UInt8):Prop:=48≤c.toNat∧c.toNat≤57
def val (acc:Nat):List UInt8→Nat
 | []=>acc
 | c :: r=>val (acc * 10+(c.toNat - 48)) r
theorem aom (l:List UInt8):∀ acc,acc≤val acc l:=by
 induction l with
 | nil=>intro acc;exact Nat.le_refl _
 | cons c r ih=>intro acc;exact Nat.le_trans (by omega) (ih _)
theorem agL (l:List UInt8)(c:UInt8):∀ acc,val acc (l++[c])=val acc l * 10+(c.toNat - 48):=by
 induction l with
 | nil=>intro acc;rfl
 | cons a r ih=>intro acc;exact ih _
theorem anG (l:List UInt8):∀ acc,(∀ c ∈ l,mQ c)→val acc l≤1000000000000000000→Lib.parseUint10 acc l=.ok (val acc l):=by
 induction l with
 | nil=>intro acc _ _;rfl
 | cons c r ih =>
  intro acc hd hv
  have hc:=hd c (List.mem_cons_self ..)
  have hg:=aom r (acc * 10+(c.toNat - 48))
  have hv':val (acc * 10+(c.toNat - 48)) r≤1000000000000000000:=hv
  unfold Lib.parseUint10
  rw [if_pos (show 48≤c.toNat∧c.toNat≤57 from hc),if_neg (by omega),if_neg (by omega)]
  exact ih _ (fun x hx=>hd x (List.mem_cons_of_mem _ hx)) hv'
theorem anE (l:List UInt8):∀ acc u,Lib.parseUint10 acc l=.ok u→(∀ c ∈ l,mQ c)∧u=val acc l:=by
 induction l with
 | nil =>
  intro acc u h
  simp only [Lib.parseUint10] at h
  injection h with h
  exact ⟨by simp,h.symm⟩
 | cons c r ih =>
  intro acc u h
  unfold Lib.parseUint10 at h
  by_cases hc:48≤c.toNat∧c.toNat≤57
  ·rw [if_pos hc] at h
   by_cases h1:1844674407370955162≤acc
   ·rw [if_pos h1] at h;cases h
   ·rw [if_neg h1] at h
    by_cases h2:18446744073709551616≤acc * 10+(c.toNat - 48)
    ·rw [if_pos h2] at h;cases h
    ·rw [if_neg h2] at h
     obtain ⟨g1,g2⟩:=ih _ _ h
     refine ⟨fun x hx=>?_,g2⟩
     rcases List.mem_cons.1 hx with rfl|hx
     ·exact hc
     ·exact g1 x hx
  ·rw [if_neg hc] at h;cases h
theorem byte_of (v:Nat)(h:v<10):(UInt8.ofNat (48+v)).toNat=48+v:=by
 have:v=0∨v=1∨v=2∨v=3∨v=4∨v=5∨v=6∨v=7∨v=8∨v=9:=by omega
 rcases this with rfl|rfl|rfl|rfl|rfl|rfl|rfl|rfl|rfl|rfl <;> rfl
theorem akG {a b:List UInt8}(h:a≠[]):(a++b).head? = a.head?:=by
 cases a with
 | nil=>exact absurd rfl h
 | cons c r=>rfl
theorem Zr (u:Nat):(∀ c ∈ Lib.decDigits u,mQ c)∧val 0 (Lib.decDigits u)=u∧Lib.decDigits u≠[]∧(0<u→(Lib.decDigits u).head? ≠ some 48):=by
 induction u using Nat.strongRecOn with
 | ind u ih =>
  rw [Lib.decDigits]
  by_cases g:u<10
  ·rw [dif_pos g]
   have hb:=byte_of u g
   refine ⟨fun c hc=>?_,?_,by simp,fun hp=>?_⟩
   ·rw [List.mem_singleton.1 hc]
    unfold mQ
    omega
   ·show 0 * 10+((UInt8.ofNat (48+u)).toNat - 48)=u
    omega
   ·intro h
    have h2:UInt8.ofNat (48+u)=48:=by simpa using h
    have h3:=congrArg UInt8.toNat h2
    rw [hb] at h3
    have h4:(48:UInt8).toNat=48:=rfl
    omega
  ·rw [dif_neg g]
   obtain ⟨i1,i2,i3,i4⟩:=ih (u / 10) (by omega)
   have hb:=byte_of (u % 10) (by omega)
   refine ⟨fun c hc=>?_,?_,by simp,fun hp=>?_⟩
   ·rcases List.mem_append.1 hc with hc|hc
    ·exact i1 c hc
    ·rw [List.mem_singleton.1 hc]
     unfold mQ
     omega
   ·rw [agL,i2,hb]
    omega
   ·rw [akG i3]
    exact i4 (by omega)
theorem aon (l:List UInt8):∀ c r,l=c :: r→mQ c→c≠48→0<val 0 l:=by
 intro c r hl hc hn
 subst hl
 have h1:=aom r (0 * 10+(c.toNat - 48))
 have h2:c.toNat≠48:=fun h=>hn (UInt8.toNat_inj.1 h)
 have h3:val 0 (c :: r)=val (0 * 10+(c.toNat - 48)) r:=rfl
 unfold mQ at hc
 omega
theorem adI (n:Nat):∀ l:List UInt8,l.length=n→l≠[]→(∀ c ∈ l,mQ c)→(l.head? ≠ some 48∨l=[48])→Lib.decDigits (val 0 l)=l:=by
 induction n with
 | zero=>intro l hl hn;exact absurd (List.eq_nil_of_length_eq_zero hl) hn
 | succ n ih =>
  intro l hl hn hd hh
  obtain ⟨m,c,rfl⟩:∃ m c,l=m++[c]:=⟨l.dropLast,l.getLast hn,(List.dropLast_concat_getLast hn).symm⟩
  have hc:=hd c (by simp)
  have hcb:UInt8.ofNat (48+(c.toNat - 48))=c:=by
   unfold mQ at hc
   rw [show 48+(c.toNat - 48)=c.toNat by omega]
   exact UInt8.ofNat_toNat
  rw [agL]
  by_cases hm:m=[]
  ·subst hm
   have e:val 0 [] * 10+(c.toNat - 48)=c.toNat - 48:=by show 0 * 10+_=_;omega
   rw [e,Lib.decDigits,dif_pos (by unfold mQ at hc;omega),hcb]
   rfl
  ·have alO:m.head? ≠ some 48:=by
    rcases hh with h|h
    ·rwa [akG hm] at h
    ·exfalso
     have:=congrArg List.length h
     exact hm (by simpa using this)
   have ih':=ih m (by simp at hl;exact hl) hm (fun x hx=>hd x (List.mem_append_left _ hx)) (.inl alO)
   have hp:0<val 0 m:=by
    cases m with
    | nil=>exact absurd rfl hm
    | cons a r=>exact aon _ a r rfl (hd a (by simp)) (fun h=>alO (by rw [h];rfl))
   have hlt:c.toNat - 48<10:=by unfold mQ at hc;omega
   rw [Lib.decDigits,dif_neg (by omega),show (val 0 m * 10+(c.toNat - 48)) / 10=val 0 m by omega,show (val 0 m * 10+(c.toNat - 48)) % 10=c.toNat - 48 by omega,ih',hcb]
def jb (t:List UInt8):List UInt8:=if t.head? = some 45 then t.tail else t
def jN (t:List UInt8):Prop:=jb t≠[]∧(∀ c ∈ jb t,mQ c)∧((jb t).head? ≠ some 48∨t=[48])
def jf (t:List UInt8):Int:=if t.head? = some 45 then -(val 0 (jb t):Int) else (val 0 (jb t):Int)
theorem anz (t:List UInt8)(h:jN t):Lib.itoa (jf t)=t:=by
 obtain ⟨h1,h2,h3⟩:=h
 unfold jf jb at *
 by_cases hn:t.head? = some 45
 ·rw [if_pos hn] at h1 h2 h3 ⊢
  rw [if_pos hn]
  cases t with
  | nil=>cases hn
  | cons a r =>
   have ha:a=45:=by simpa using hn
   subst ha
   have h4:r.head? ≠ some 48:=h3.resolve_right (by simp)
   have hb:=adI r.length r rfl h1 h2 (.inl h4)
   have hp:0<val 0 r:=by
    cases r with
    | nil=>exact absurd rfl h1
    | cons b q=>exact aon _ b q rfl (h2 b (by simp)) (fun h=>h4 (by rw [h];rfl))
   unfold Lib.itoa
   show (if (-(val 0 r:Int))<0 then 45 :: Lib.decDigits (-(val 0 r:Int)).natAbs else _)=45 :: r
   rw [if_pos (by omega),show (-(val 0 r:Int)).natAbs=val 0 r by omega,hb]
 ·rw [if_neg hn] at h1 h2 h3 ⊢
  rw [if_neg hn]
  have hb:=adI t.length t rfl h1 h2 (h3.imp id id)
  unfold Lib.itoa
  rw [if_neg (by omega),show ((val 0 t:Int)).toNat=val 0 t by omega,hb]
theorem axU (t:List UInt8)(hd:∀ c ∈ jb t,mQ c)(h:Lib.itoa (jf t)=t):jN t:=by
 unfold jN
 unfold jf jb at *
 by_cases hn:t.head? = some 45
 ·rw [if_pos hn] at hd h ⊢
  rw [if_pos hn] at h
  cases t with
  | nil=>cases hn
  | cons a r =>
   have ha:a=45:=by simpa using hn
   subst ha
   have h':Lib.itoa (-(val 0 r:Int))=45 :: r:=h
   unfold Lib.itoa at h'
   by_cases hz:val 0 r=0
   ·rw [hz,if_neg (by omega)] at h'
    have e:(-((0:Nat):Int)).toNat=0:=rfl
    rw [e,Lib.decDigits,dif_pos (by decide)] at h'
    have:=congrArg List.head? h'
    simp at this
   ·rw [if_pos (by omega),show (-(val 0 r:Int)).natAbs=val 0 r by omega] at h'
    have hr:Lib.decDigits (val 0 r)=r:=by simpa using h'
    obtain ⟨_,_,d3,d4⟩:=Zr (val 0 r)
    rw [hr] at d3 d4
    exact ⟨d3,hd,.inl (d4 (by omega))⟩
 ·rw [if_neg hn] at hd h ⊢
  rw [if_neg hn] at h
  unfold Lib.itoa at h
  rw [if_neg (by omega),show ((val 0 t:Int)).toNat=val 0 t by omega] at h
  obtain ⟨_,_,d3,d4⟩:=Zr (val 0 t)
  rw [h] at d3 d4
  refine ⟨d3,hd,?_⟩
  by_cases hz:val 0 t=0
  ·rw [hz,Lib.decDigits,dif_pos (by decide)] at h
   exact .inr h.symm
  ·exact .inl (d4 (by omega))
theorem ayW (t:List UInt8)(h:jN t)(hv:val 0 (jb t)≤1000000000000000000):Lib.atoiAll t=.ok (jf t):=by
 obtain ⟨h1,h2,h3⟩:=h
 unfold jf jb at *
 cases t with
 | nil=>simp at h1
 | cons a r =>
  by_cases ha:a=45
  ·subst ha
   have hn:((45:UInt8) :: r).head? = some 45:=rfl
   rw [if_pos hn] at h1 h2 hv ⊢
   rw [if_pos hn]
   have hr:r≠[]:=h1
   have hp:=anG r 0 h2 hv
   have hv':val 0 r≤1000000000000000000:=hv
   unfold Lib.atoiAll Lib.parseMag
   have e45:(45:UInt8).toNat=45:=rfl
   simp only [e45,or_true,if_true,if_neg hr,hp,not_true,false_and,if_false,true_and]
   rw [if_neg (by omega)]
   rfl
  ·have hn:¬ (a :: r).head? = some 45:=by simpa using ha
   rw [if_neg hn] at h1 h2 hv ⊢
   rw [if_neg hn]
   have hda:=h2 a (by simp)
   unfold mQ at hda
   have hp:=anG (a :: r) 0 h2 hv
   unfold Lib.atoiAll Lib.parseMag
   have e2:¬ a.toNat=45:=by omega
   have e5:¬ a.toNat=43:=by omega
   have e4:¬ (a :: r)=[]:=by simp
   simp only [e5,e2,or_self,if_false,if_neg e4,hp,not_false_eq_true,true_and,false_and]
   rw [if_neg (by omega)]
theorem anF (t:List UInt8)(h:jN t)(v:Int)(hp:Lib.atoiAll t=.ok v):v=jf t:=by
 obtain ⟨h1,h2,h3⟩:=h
 unfold jf jb at *
 cases t with
 | nil=>simp at h1
 | cons a r =>
  unfold Lib.atoiAll Lib.parseMag at hp
  by_cases ha:a=45
  ·subst ha
   have hn:((45:UInt8) :: r).head? = some 45:=rfl
   rw [if_pos hn] at h1 h2 ⊢
   rw [if_pos hn]
   have e45:(45:UInt8).toNat=45:=rfl
   have hr:r≠[]:=h1
   simp only [e45,or_true,if_true,if_neg hr,not_true,false_and,if_false,true_and] at hp
   cases hq:Lib.parseUint10 0 r with
   | «syntax»=>rw [hq] at hp;cases hp
   | range=>rw [hq] at hp;cases hp
   | ok u =>
    rw [hq] at hp
    simp only at hp
    obtain ⟨_,rfl⟩:=anE r 0 u hq
    by_cases hb:9223372036854775808<val 0 r
    ·rw [if_pos hb] at hp;cases hp
    ·rw [if_neg hb] at hp
     injection hp with hp
     exact hp.symm
  ·have hn:¬ (a :: r).head? = some 45:=by simpa using ha
   rw [if_neg hn] at h1 h2 ⊢
   rw [if_neg hn]
   have hda:=h2 a (by simp)
   unfold mQ at hda
   have e2:¬ a.toNat=45:=by omega
   have e5:¬ a.toNat=43:=by omega
   have e4:¬ (a :: r)=[]:=by simp
   simp only [e5,e2,or_self,if_false,if_neg e4,not_false_eq_true,true_and,false_and] at hp
   cases hq:Lib.parseUint10 0 (a :: r) with
   | «syntax»=>rw [hq] at hp;cases hp
   | range=>rw [hq] at hp;cases hp
   | ok u =>
    rw [hq] at hp
    simp only at hp
    obtain ⟨_,rfl⟩:=anE (a :: r) 0 u hq
    by_cases hb:9223372036854775808≤val 0 (a :: r)
    ·rw [if_pos hb] at hp;cases hp
    ·rw [if_neg hb] at hp
     injection hp with hp
     exact hp.symm
theorem auF (d:Nat):∀ u:Nat,0<d→u<10 ^ d→(Lib.decDigits u).length≤d:=by
 induction d with
 | zero=>intro u h;omega
 | succ d ih =>
  intro u _ hu
  rw [Lib.decDigits]
  by_cases g:u<10
  ·rw [dif_pos g];simp
  ·rw [dif_neg g,List.length_append,List.length_singleton]
   have h1:u / 10<10 ^ d:=by rw [Nat.pow_succ] at hu;omega
   have h2:0<d:=by
    rcases Nat.eq_zero_or_pos d with z|z
    ·subst z;simp at h1;omega
    ·exact z
   have:=ih (u / 10) h2 h1
   omega
theorem ayV (t:List UInt8)(h:jN t)(hv:val 0 (jb t)<1000000000000):(jb t).length≤12:=by
 obtain ⟨h1,h2,h3⟩:=h
 have h4:(jb t).head? ≠ some 48∨jb t=[48]:=h3.imp id (fun h=>by subst h;rfl)
 rw [← adI _ _ rfl h1 h2 h4]
 exact auF 12 _ (by decide) (by omega)
end Go.Proofs.YtapilmimgiaglaaGreatDoor.Num
namespace Go.Proofs.YtapilmimgiaglaaGreatDoor.QX
open Go.RowKit Go.Proofs.bB.eH Go.Proofs.YtapilmimgiaglaaGreatDoor.Ev0 Go.Proofs.YtapilmimgiaglaaGreatDoor.Num
theorem EN (s:ByteArray)(i:Int)(h0:0≤i)(h:i<(s.size:Int)):∃ c,s.data.toList[i.toNat]? = some c∧bt s i=(c.toNat:Int):=by
 have h':i.toNat<s.size:=by omega
 have h2:i.toNat<s.data.toList.length:=by rw [uB];exact h'
 refine ⟨s.data.toList[i.toNat],List.getElem?_eq_getElem h2,?_⟩
 rw [← gX s i h']
 simp only [Array.getElem_toList]
 rfl
theorem RZ (s:ByteArray)(p:Int→Prop):(∀ i,0≤i→i<(s.size:Int)→p (bt s i)) ↔ ∀ c ∈ s.data.toList,p (c.toNat:Int):=by
 constructor
 ·intro h c hc
  obtain ⟨j,hj,rfl⟩:=List.mem_iff_getElem.1 hc
  have hj':j<s.size:=by rw [← uB];exact hj
  obtain ⟨c',h1,h2⟩:=EN s (j:Int) om om
  rw [Int.toNat_natCast,List.getElem?_eq_getElem hj] at h1
  rw [Option.some.inj h1,← h2]
  exact h _ om om
 ·intro h i h0 h1
  obtain ⟨c,h2,h3⟩:=EN s i h0 h1
  rw [h3]
  exact h c (List.mem_of_getElem? h2)
theorem Ox (s:ByteArray)(h:0<s.size)(b:UInt8):s.data.toList.head? = some b ↔ bt s 0=(b.toNat:Int):=by
 obtain ⟨c,h1,h2⟩:=EN s 0 om om
 rw [h2,List.head?_eq_getElem?]
 rw [show ((0:Int).toNat)=0 from rfl] at h1
 rw [h1]
 constructor
 ·intro e;rw [Option.some.inj e]
 ·intro e
  congr 1
  exact UInt8.toNat_inj.1 om
theorem aoh (s:ByteArray):(s.extract 1 s.size).data.toList=s.data.toList.tail:=by
 cases s with|mk x =>
 cases x with|mk l =>
 cases l with
 | nil=>simp [ByteArray.size]
 | cons a r=>simp [ByteArray.size]
theorem F4 (s:ByteArray)(l:List UInt8):s.toList=l ↔ s.data.toList=l:=by rw [Lib.toList_data]
theorem Cz (s:ByteArray):s.data.toList=[] ↔ s.size=0:=by
 rw [← uB]
 exact List.eq_nil_iff_length_eq_zero
theorem Zt (c:UInt8):mQ c ↔ 48≤(c.toNat:Int)∧(c.toNat:Int)≤57:=by unfold mQ;omega
theorem SL (s:ByteArray):(s.size≠0∧bt s 0=45→jb s.data.toList=(s.extract 1 s.size).data.toList)∧(¬ (s.size≠0∧bt s 0=45)→jb s.data.toList=s.data.toList):=by
 unfold jb
 constructor
 ·rintro ⟨h0,h⟩
  rw [if_pos ((Ox s om 45).2 h),aoh]
 ·intro h
  rw [if_neg]
  intro e
  have h0:s.size≠0:=fun z=>by rw [(Cz s).2 z] at e;cases e
  exact h ⟨h0,(Ox s om 45).1 e⟩
theorem amW (s d:ByteArray)(hd:(d.size:Int)≤9223372036854775807)(hdig:jb s.data.toList=d.data.toList) :
  aa (fun k=>lD.l0 k s d (d.size:Int) 0) (B (jN s.data.toList)):=by
 refine (IX (d.size:Int) om (fun i=>48≤bt d i∧bt d i≤57) (d.size≠0∧(bt d 0≠48∨s.data.toList=[48])) (fun k i=>lD.l0 k s d (d.size:Int) i) ?_ ?_).same (kw ?_)
 ·intro i h0 hlt
  have hw:wrap64 (i+1)=i+1:=bP om om
  simp only [lD.l0,am3,Option.bind_some,hw]
  exact ⟨fun hk r hr=>aa.pos hlt (aa.pos h0 (aa.pos hlt (aa.pos (fT hk) hr))),fun hk=>aa.pos hlt (aa.pos h0 (aa.pos hlt (aa.neg (by rw [gq hk];decide) (aa.pure _))))⟩
 ·simp only [lD.l0]
  refine aa.neg om (aa.ite (fun h=>(aa.pure _).same (gq (fun x=>x.1 ((Cz d).1 ((F4 d _).1 h)))).symm) (fun h=>?_))
  have hz:d.size≠0:=fun z=>h ((F4 d _).2 ((Cz d).2 z))
  refine aa.pos om (aa.ite (fun h1=>(aa.pure _).same ?_) (fun h1=>(aa.pure _).same (fT ⟨hz,.inl h1⟩).symm))
  refine Kj ?_
  rw [beq_iff_eq,F4]
  exact ⟨fun e=>⟨hz,.inr e⟩,fun e=>e.2.resolve_left (fun x=>x h1)⟩
 ·unfold jN
  rw [hdig]
  constructor
  ·rintro ⟨h1,h2,h3⟩
   refine ⟨fun e=>h2 ((Cz d).1 e),fun c hc=>(Zt c).2 ((RZ d (fun x=>48≤x∧x≤57)).1 h1 c hc),h3.imp (fun h e=>h ((Ox d om 48).1 e)) id⟩
  ·rintro ⟨h1,h2,h3⟩
   have hz:d.size≠0:=fun z=>h1 ((Cz d).2 z)
   exact ⟨(RZ d (fun x=>48≤x∧x≤57)).2 (fun c hc=>(Zt c).1 (h2 c hc)),hz,h3.imp (fun h e=>h ((Ox d om 48).2 e)) id⟩
theorem extract_size (s:ByteArray):((s.extract 1 s.size).size:Int)≤s.size:=by
 rw [← uB,aoh,List.length_tail,uB]
 omega
theorem axN (s:ByteArray)(hs:(s.size:Int)≤9223372036854775807):aa (fun k=>lD.f k s) (B (jN s.data.toList)):=by
 unfold lD.f
 have he:=extract_size s
 have no:¬ (s.size≠0∧bt s 0=45)→aa (fun k=>lD.j0 k s s false) (B (jN s.data.toList)):=fun h=>by
  apply aa.succ
  simp only [lD.j0]
  refine aa.neg (by decide) ?_
  apply aa.succ
  simp only [lD.j1]
  exact amW s s hs ((SL s).2 h)
 refine aa.ite (fun h=>no (fun x=>x.1 ((Cz s).1 ((F4 s _).1 h)))) (fun h=>?_)
 have hz:s.size≠0:=fun z=>h ((F4 s _).2 ((Cz s).2 z))
 refine aa.pos om ?_
 by_cases h1:bt s 0=45
 ·rw [show (bt s 0 == 45)=true by rw [h1];rfl]
  apply aa.succ
  simp only [lD.j0]
  refine aa.pos (by simp) (aa.pos om ?_)
  apply aa.succ
  simp only [lD.j1]
  exact amW s _ om ((SL s).1 ⟨hz,h1⟩)
 ·rw [show (bt s 0 == 45)=false by simpa using h1]
  exact no (fun x=>h1 x.2)
theorem aCx (l:List UInt8):∀ acc,(∀ c ∈ l,mQ c)→val acc l+1≤(acc+1) * 10 ^ l.length:=by
 induction l with
 | nil =>
  intro acc _
  show acc+1≤(acc+1) * 1
  omega
 | cons c r ih =>
  intro acc h
  have hc:=h c (List.mem_cons_self ..)
  have:=ih (acc * 10+(c.toNat - 48)) (fun x hx=>h x (List.mem_cons_of_mem _ hx))
  unfold mQ at hc
  have e:val acc (c :: r)=val (acc * 10+(c.toNat - 48)) r:=rfl
  rw [e,List.length_cons,Nat.pow_succ]
  refine Nat.le_trans this ?_
  have h2:acc * 10+(c.toNat - 48)+1≤(acc+1) * 10:=by omega
  calc (acc * 10+(c.toNat - 48)+1) * 10 ^ r.length≤((acc+1) * 10) * 10 ^ r.length:=Nat.mul_le_mul_right _ h2
   _=(acc+1) * (10 ^ r.length * 10):=by rw [Nat.mul_assoc,Nat.mul_comm 10]
theorem aoo (l:List UInt8)(h:∀ c ∈ l,mQ c)(hl:l.length≤12):val 0 l<1000000000000:=by
 have h1:=aCx l 0 h
 have h2:10 ^ l.length≤10 ^ 12:=Nat.pow_le_pow_right (by decide) hl
 omega
theorem az2 (s d:ByteArray)(neg:Bool)(hd:d.size≤12)(post:List UInt8):∀ pre,d.data.toList=pre++post→(∀ c ∈ pre,mQ c) →
  ((∀ c ∈ post,mQ c)→∀ r,aa (fun k=>if neg=true then ((fK.f k (wrap64 (-(val 0 d.data.toList:Int)))).bind fun t139=>(some (wrap64 (-(val 0 d.data.toList:Int)),(t139.toList == s.toList)))) else ((fK.f k (val 0 d.data.toList:Int)).bind fun aAe=>(some ((val 0 d.data.toList:Int),(aAe.toList == s.toList))))) r→aa (fun k=>il.l0 k s neg d (val 0 pre:Int) (pre.length:Int)) r) ∧
  (¬ (∀ c ∈ post,mQ c)→aa (fun k=>il.l0 k s neg d (val 0 pre:Int) (pre.length:Int)) (0,false)):=by
 induction post with
 | nil =>
  intro pre hp hpre
  have hp':d.data.toList=pre:=by simpa using hp
  have hl:d.size=pre.length:=by rw [← uB,hp']
  refine ⟨fun _ r hr=>?_,fun h=>absurd (by simp) h⟩
  apply aa.succ
  simp only [il.l0]
  refine aa.neg om ?_
  rw [hp'] at hr
  exact hr
 | cons c post ih =>
  intro pre hp hpre
  have hl:d.size=pre.length+(post.length+1):=by rw [← uB,hp];simp
  have hlt:(pre.length:Int)<(d.size:Int):=by omega
  obtain ⟨c',h1,h2⟩:=EN d (pre.length:Int) om hlt
  have hc:c'=c:=by
   rw [hp,Int.toNat_natCast] at h1
   simpa using h1.symm
  subst hc
  have go:mQ c'→∀ r,aa (fun k=>il.l0 k s neg d (val 0 (pre++[c']):Int) ((pre++[c']).length:Int)) r→aa (fun k=>il.l0 k s neg d (val 0 pre:Int) (pre.length:Int)) r:=fun hg r hr=>by
   have hs:=aoo pre hpre om
   have hg':=hg
   unfold mQ at hg'
   apply aa.succ
   simp only [il.l0,h2]
   refine aa.pos hlt (aa.pos om (aa.neg om (aa.neg om ?_)))
   have e1:wrap64 (wrap64 (10 * (val 0 pre:Int))+(((c'.toNat:Int) - 48) % 256))=(val 0 (pre++[c']):Int):=by
    rw [agL,bP (x:=10 * (val 0 pre:Int)) om om,bP om om]
    omega
   have e2:wrap64 ((pre.length:Int)+1)=((pre++[c']).length:Int):=by
    rw [bP om om]
    simp
   rw [e1,e2]
   exact hr
  refine ⟨fun h r hr=>?_,fun h=>?_⟩
  ·have hg:=h c' (List.mem_cons_self ..)
   exact go hg r ((ih (pre++[c']) (by rw [hp];simp) (fun x hx=>(List.mem_append.1 hx).elim (hpre x) (fun y=>by rw [List.mem_singleton.1 y];exact hg))).1 (fun x hx=>h x (List.mem_cons_of_mem _ hx)) r hr)
  ·by_cases hg:mQ c'
   ·exact go hg _ ((ih (pre++[c']) (by rw [hp];simp) (fun x hx=>(List.mem_append.1 hx).elim (hpre x) (fun y=>by rw [List.mem_singleton.1 y];exact hg))).2 (fun x=>h (fun y hy=>(List.mem_cons.1 hy).elim (fun e=>by rw [e];exact hg) (x y))))
   ·apply aa.succ
    simp only [il.l0,h2]
    refine aa.pos hlt (aa.pos om ?_)
    by_cases g:(c'.toNat:Int)<48
    ·exact aa.pos g (aa.pure _)
    ·refine aa.neg g (aa.pos ?_ (aa.pure _))
     rw [Zt] at hg
     omega
theorem afT (s:ByteArray)(hs:(s.size:Int)≤9223372036854775807):∃ v,aa (fun k=>il.f k s) (v,B (jN s.data.toList∧(jb s.data.toList).length≤12))∧(jN s.data.toList→(jb s.data.toList).length≤12→v=jf s.data.toList):=by
 unfold il.f
 have core:∀ (neg:Bool) (d:ByteArray),jb s.data.toList=d.data.toList→(neg=true ↔ s.data.toList.head? = some 45) →
   ∃ v,aa (fun k=>il.j1 k s neg d) (v,B (jN s.data.toList∧(jb s.data.toList).length≤12))∧(jN s.data.toList→(jb s.data.toList).length≤12→v=jf s.data.toList):=fun neg d hdig hneg=>by
  have hdl:(jb s.data.toList).length=d.size:=by rw [hdig,uB]
  by_cases h1:d.size<1
  ·refine ⟨0,?_,fun h=>absurd ?_ h.1⟩
   ·apply aa.succ
    simp only [il.j1]
    refine aa.pos om ?_
    apply aa.succ
    simp only [il.j2]
    refine aa.pos (by simp) ((aa.pure _).same (congrArg _ (gq (fun h=>h.1.1 ?_)).symm))
    rw [hdig];exact (Cz d).2 om
   ·rw [hdig];exact (Cz d).2 om
  ·by_cases h2:12<d.size
   ·refine ⟨0,?_,fun _ h=>absurd h om⟩
    apply aa.succ
    simp only [il.j1]
    refine aa.neg om ?_
    rw [decide_eq_true (show (d.size:Int)>12 by omega)]
    apply aa.succ
    simp only [il.j2]
    exact aa.pos (by simp) ((aa.pure _).same (congrArg _ (gq (fun h=>by have:=h.2;omega)).symm))
   ·have head:∀ r,aa (fun k=>il.l0 k s neg d 0 0) r→aa (fun k=>il.j1 k s neg d) r:=fun r hr=>by
     apply aa.succ
     simp only [il.j1]
     refine aa.neg om ?_
     rw [decide_eq_false (show ¬ (d.size:Int)>12 by omega)]
     apply aa.succ
     simp only [il.j2]
     exact aa.neg (by decide) hr
    obtain ⟨l1,l2⟩:=az2 s d neg om d.data.toList [] rfl (by simp)
    by_cases hd:∀ c ∈ d.data.toList,mQ c
    ·have hv:=aoo d.data.toList hd (by rw [uB];omega)
     have hvT:jf s.data.toList=if neg=true then -(val 0 d.data.toList:Int) else (val 0 d.data.toList:Int):=by
      unfold jf
      rw [hdig]
      by_cases hn:neg=true
      ·rw [if_pos (hneg.1 hn),if_pos hn]
      ·rw [if_neg (fun e=>hn (hneg.2 e)),if_neg hn]
     have hB:∀ x:List UInt8,x=Lib.itoa (jf s.data.toList)→((bY x).toList == s.toList)=B (jN s.data.toList∧(jb s.data.toList).length≤12):=fun x hx=>by
      refine Kj ?_
      rw [beq_iff_eq,Lib.toList_data,Lib.toList_data,show (bY x).data.toList=x by simp [bY],hx]
      exact ⟨fun e=>⟨axU _ (by rw [hdig];exact hd) e,by omega⟩,fun e=>anz _ e.1⟩
     refine ⟨jf s.data.toList,head _ (l1 hd _ ?_),fun _ _=>rfl⟩
     cases neg with
     | true =>
      rw [if_pos rfl] at hvT
      refine aa.pos (by simp) ?_
      rw [bP om om]
      refine aa.bind (Px _ om om) ((aa.pure _).same ?_)
      rw [hB _ (by rw [hvT]),hvT]
     | false =>
      rw [if_neg (by decide)] at hvT
      refine aa.neg (by decide) (aa.bind (Px _ om om) ((aa.pure _).same ?_))
      rw [hB _ (by rw [hvT]),hvT]
    ·exact ⟨0,head _ ((l2 hd).same (congrArg _ (gq (fun h=>hd (by have:=h.1.2.1;rwa [hdig] at this))).symm)),fun h=>absurd (by have:=h.2.1;rwa [hdig] at this) hd⟩
 by_cases hz:s.size=0
 ·obtain ⟨v,h1,h2⟩:=core false s ((SL s).2 (fun x=>x.1 hz)) ⟨fun e=>(by cases e),fun e=>by rw [(Cz s).2 hz] at e;cases e⟩
  refine ⟨v,aa.neg om ?_,h2⟩
  apply aa.succ
  simp only [il.j0]
  exact aa.neg (by decide) h1
 ·by_cases h0:bt s 0=45
  ·obtain ⟨v,h1,h2⟩:=core true _ ((SL s).1 ⟨hz,h0⟩) ⟨fun _=>(Ox s om 45).2 h0,fun _=>rfl⟩
   refine ⟨v,aa.pos om (aa.pos om ?_),h2⟩
   rw [show (bt s 0 == 45)=true by rw [h0];rfl]
   apply aa.succ
   simp only [il.j0]
   exact aa.pos (by simp) (aa.pos om h1)
  ·obtain ⟨v,h1,h2⟩:=core false s ((SL s).2 (fun x=>h0 x.2)) ⟨fun e=>(by cases e),fun e=>absurd ((Ox s om 45).1 e) h0⟩
   refine ⟨v,aa.pos om (aa.pos om ?_),h2⟩
   rw [show (bt s 0 == 45)=false by simpa using h0]
   apply aa.succ
   simp only [il.j0]
   exact aa.neg (by decide) h1
theorem af0 (s:ByteArray)(hs:s.size≤281474976710656)(lo hi:Int)(h0: -1000000000≤lo)(h1:hi≤1000000000) :
  ∃ v,aa (fun k=>oz.f k s lo hi) (v,B (jN s.data.toList∧lo≤jf s.data.toList∧jf s.data.toList≤hi))∧(jN s.data.toList∧lo≤jf s.data.toList∧jf s.data.toList≤hi→v=jf s.data.toList):=by
 unfold oz.f
 rw [Lib.parseIntB_64]
 have small:jN s.data.toList→lo≤jf s.data.toList→jf s.data.toList≤hi→Lib.atoiAll s.data.toList=.ok (jf s.data.toList):=fun h g0 g1=>by
  refine ayW _ h ?_
  unfold jf at g0 g1
  split at g0 <;> rename_i e
  ·rw [if_pos e] at g1;omega
  ·rw [if_neg e] at g1;omega
 cases ha:Lib.atoiAll s.data.toList with
 | ok v =>
  refine ⟨v,aa.pos hs (aa.bind (axN s om) ?_),fun h=>anF _ h.1 v ha⟩
  by_cases hn:jN s.data.toList
  ·have hv:=anF _ hn v ha
   refine aa.pos (fT hn) ?_
   rw [AR,hv]
   exact (aa.pure _).same (congrArg _ (kw ⟨fun h=>⟨hn,h⟩,fun h=>h.2⟩))
  ·exact aa.neg (by rw [gq hn];decide) ((aa.pure _).same (congrArg _ (gq (fun h=>hn h.1)).symm))
 | «syntax»=>exact ⟨0,aa.pos hs ((aa.pure _).same (congrArg _ (gq (fun h=>by rw [small h.1 h.2.1 h.2.2] at ha;cases ha)).symm)),fun h=>by rw [small h.1 h.2.1 h.2.2] at ha;cases ha⟩
 | range=>exact ⟨_,aa.pos hs ((aa.pure _).same (congrArg _ (gq (fun h=>by rw [small h.1 h.2.1 h.2.2] at ha;cases ha)).symm)),fun h=>by rw [small h.1 h.2.1 h.2.2] at ha;cases ha⟩
end Go.Proofs.YtapilmimgiaglaaGreatDoor.QX
namespace Go.Proofs.YtapilmimgiaglaaGreatDoor.QX
open Go.RowKit Go.Proofs.bB.eH Go.Proofs.YtapilmimgiaglaaGreatDoor.Ev0
def okT (l:List ByteArray):Prop:=l.length≤9223372036854775807∧∀ x ∈ l,x.size≤9223372036854775807
def ZA (l:List ByteArray):Prop:=l.length≤1048576∧∀ x ∈ l,x.size≤1048576
theorem IU (l:List ByteArray)(i:Int)(h0:0≤i)(h:i<(l.length:Int)):bA ByteArray.empty l i ∈ l:=by
 unfold bA
 rw [getD_at l _ _ om]
 exact List.getElem_mem _
theorem YI {α:Type}(l:List α)(z:α)(p:α→Prop)(h:∀ i:Int,0≤i→i<(l.length:Int)→p (l.getD i.toNat z)):∀ x ∈ l,p x:=by
 intro x hx
 obtain ⟨q,hq,rfl⟩:=List.mem_iff_getElem.1 hx
 have:=h (q:Int) om om
 rw [Int.toNat_natCast,getD_at l z _ hq] at this
 exact this
theorem aAb (l:List ByteArray)(hl:okT l)(left:Int)(h0:0≤left)(h1:left≤1048576):GQ (fun k=>wP.f k l left) left (ZA l):=by
 have key:=agv l.length hl.1 (fun i=>(bA ByteArray.empty l i).size≤1048576) (fun k=>wP.f k l left) (fun k s i=>wP.l0 k l s i) left h0 h1 (fun k=>rfl) ?_ ?_
 ·obtain ⟨t,ht,h⟩:=key
  exact ⟨t,ht,h.imp id (fun ⟨g0,g1,g2,g3⟩=>⟨g0,g1,g2,YI l ByteArray.empty _ g3⟩)⟩
 ·intro s i h0 hlt hs0 hs1
  have hw:wrap64 (i+1)=i+1:=bP om (by have:=hl.1;omega)
  have hk:=hl.2 _ (IU l i h0 hlt)
  simp only [wP.l0,hw]
  rw [MR hs0 hs1 om om]
  by_cases g:s - ((bA ByteArray.empty l i).size:Int)<0
  ·exact .inl ⟨-1,by decide,aa.pos hlt (aa.pos h0 (aa.pos g (aa.pure _)))⟩
  ·exact .inr ⟨_,by omega,by omega,by omega,fun r hr=>aa.pos hlt (aa.pos h0 (aa.neg g hr))⟩
 ·intro s i hi
  simp only [wP.l0]
  exact aa.neg om (aa.pure _)
theorem aCo (l:List ByteArray)(hl:l.length≤1048576):aa (fun k=>uL.f k l) l:=by
 unfold uL.f
 refine aa.pos om (aa.pos om ?_)
 rw [Int.toNat_natCast]
 refine (adV l ByteArray.empty (⟨#[]⟩:ByteArray) id (fun k acc i=>uL.l0 k l acc i) ?_ ?_).same (List.map_id l)
 ·intro acc i h0 hlt ha r hr
  have hw:wrap64 (i+1)=i+1:=bP om om
  simp only [uL.l0,hw]
  exact aa.pos hlt (aa.pos h0 (aa.pos om hr))
 ·intro acc i hi
  simp only [uL.l0]
  exact aa.neg om (aa.pure _)
def zX (l:List bN):Prop:=l.length≤1048576∧∀ x ∈ l,ZA x.f0
theorem adU {l:List bN}(h:zX l)(i:Int)(h0:0≤i)(hlt:i<(l.length:Int)):ZA (aK l i).f0:=by
 unfold aK
 rw [getD_at l _ _ om]
 exact h.2 _ (List.getElem_mem _)
theorem akf (l:List ByteArray)(hl:l.length≤9000000):aa (fun k=>uJ.f k l l) true:=by
 unfold uJ.f
 refine aa.pos rfl (BA (l.length:Int) om (fun k i=>uJ.l0 k l l i) ?_ ?_)
 ·intro i h0 hlt ih
  have hw:wrap64 (i+1)=i+1:=bP om om
  simp only [uJ.l0,if_true,hw]
  exact aa.pos hlt (aa.pos h0 (aa.pos hlt ih))
 ·simp only [uJ.l0]
  exact aa.neg om (aa.pure _)
theorem avs (l:List bN)(hl:zX l):aa (fun k=>nR.f k l l) true:=by
 have hn:=hl.1
 unfold nR.f
 refine aa.pos rfl (BA (l.length:Int) om (fun k i=>nR.l0 k l l i) ?_ ?_)
 ·intro i h0 hlt ih
  have hw:wrap64 (i+1)=i+1:=bP om om
  have hk:=(adU hl i h0 hlt).1
  simp only [nR.l0,Lu.f,hw]
  exact aa.pos hlt (aa.pos h0 (aa.pos hlt (aa.bind (aa.bind (akf _ om) (aa.pos (by simp) (aa.pure true))) (aa.pos (by simp) ih))))
 ·simp only [nR.l0]
  exact aa.neg om (aa.pure _)
theorem avz (a:ByteArray)(l:List bN)(hl:zX l):aa (fun k=>IG.f k a l a l) true:=by
 unfold IG.f
 exact aa.pos rfl (aa.bind (avs l hl) (aa.pos (by simp) (aa.pure true)))
theorem ayE (l:List ByteArray)(hl:l.length≤1000):aa (fun k=>FM.f k l) (B (∃ x ∈ l,(x.size:Int)>20000)):=by
 unfold FM.f PS.f xK.f
 obtain ⟨r,hr,h⟩:=ZB (l.length:Int) om (fun i=>((bA ByteArray.empty l i).size:Int)>20000) (fun k i=>xK.l0 k l (l.length:Int) i) (by
   intro i h0 hlt
   have hw:wrap64 (i+1)=i+1:=bP om om
   simp only [xK.l0,Pn.f,Option.bind_some,hw]
   exact ⟨fun hp=>aa.pos hlt (aa.pos h0 (aa.pos hlt (aa.pos (decide_eq_true hp) (aa.pure _)))),fun hp r hr=>aa.pos hlt (aa.pos h0 (aa.pos hlt (aa.neg (by simpa using hp) hr)))⟩) (by
   simp only [xK.l0]
   exact aa.neg om (aa.pure _))
 have at_:∀ i:Int,0≤i→i<(l.length:Int)→bA ByteArray.empty l i ∈ l:=fun i h0 h1=>by
  unfold bA
  rw [getD_at l _ _ om]
  exact List.getElem_mem _
 refine aa.bind (aa.bind hr (aa.pure _)) ((aa.pure _).same ?_)
 rw [Dt]
 refine kw ⟨fun hg=>?_,fun ⟨x,hx,hg⟩=>?_⟩
 ·rcases h with ⟨h1,_⟩ | ⟨h1,h2,h3,_⟩
  ·omega
  ·exact ⟨_,at_ r h1 h2,h3⟩
 ·rcases h with ⟨h1,h2⟩ | ⟨h1,_⟩
  ·obtain ⟨i,hi,rfl⟩:=List.mem_iff_getElem.1 hx
   refine absurd ?_ (h2 i om om)
   show ((bA ByteArray.empty l (i:Int)).size:Int)>20000
   unfold bA
   rw [Int.toNat_natCast,getD_at l _ _ hi]
   exact hg
  ·exact h1
theorem afX (s:ByteArray):aa (fun k=>FM.f k [s]) (B ((s.size:Int)>20000)) :=
 (ayE [s] (by simp)).same (kw ⟨fun ⟨x,hx,h⟩=>by rw [List.mem_singleton.1 hx] at h;exact h,fun h=>⟨s,by simp,h⟩⟩)
end Go.Proofs.YtapilmimgiaglaaGreatDoor.QX
namespace Go.Proofs.YtapilmimgiaglaaGreatDoor.QX
open Go.RowKit Go.Proofs.bB.eH Go.Proofs.YtapilmimgiaglaaGreatDoor.Ev0 Go.Proofs.YtapilmimgiaglaaGreatDoor.Num
theorem ayX (t:List UInt8)(h:jN t):jf t=0 ↔ t=[48]:=by
 constructor
 ·intro e
  have:=anz t h
  rw [e] at this
  rw [← this]
  unfold Lib.itoa
  rw [if_neg (by decide),show (0:Int).toNat=0 from rfl,Lib.decDigits,dif_pos (by decide)]
  rfl
 ·rintro rfl
  rfl
theorem afZ (t:List UInt8)(h:jN t)(g0: -1000000000≤jf t)(g1:jf t≤1000000000):(jb t).length≤12:=by
 refine ayV t h ?_
 unfold jf at g0 g1
 split at g0 <;> rename_i e
 ·rw [if_pos e] at g1;omega
 ·rw [if_neg e] at g1;omega
def za (s:ByteArray):Prop:=(s.size:Int)≤40∧∀ i:Int,0≤i→i<(s.size:Int)→32≤bt s i∧bt s i≤126
theorem afK (s:ByteArray)(hs:(s.size:Int)≤9223372036854775806):aa (fun k=>FL.f k s) (B (za s)):=by
 unfold FL.f xE.f
 refine atb Iff.rfl (fun h=>?_)
 refine (aa.bind (IX (s.size:Int) om (fun i=>32≤bt s i∧bt s i≤126) True (fun k i=>xE.l0 k s (s.size:Int) i) ?_ ?_) (aa.pure _)).same (kw ⟨fun x=>x.1,fun x=>⟨x,trivial⟩⟩)
 ·intro i h0 hlt
  have hw:wrap64 (i+1)=i+1:=bP om om
  simp only [xE.l0,hw]
  refine ⟨fun hk r hr=>aa.pos hlt (aa.pos h0 (aa.pos hlt (aa.neg om (aa.neg om hr)))),fun hk=>aa.pos hlt (aa.pos h0 (aa.pos hlt (aa.ite (fun _=>aa.pure _) (fun _=>aa.pos om (aa.pure _)))))⟩
 ·simp only [xE.l0]
  exact aa.neg om ((aa.pure _).same (fT trivial).symm)
theorem anY (s:ByteArray)(hs:(s.size:Int)≤9223372036854775806):aa (fun k=>ui.f k s) (B (za s)):=by
 unfold ui.f
 refine avC om (fun h=>?_)
 refine (IX (s.size:Int) om (fun i=>32≤bt s i∧bt s i≤126) True (fun k i=>ui.l0 k s i) ?_ ?_).same (kw ⟨fun x=>x.1,fun x=>⟨x,trivial⟩⟩)
 ·intro i h0 hlt
  have hw:wrap64 (i+1)=i+1:=bP om om
  simp only [ui.l0,hw]
  refine ⟨fun hk r hr=>aa.pos hlt (aa.pos h0 (aa.neg om (aa.neg om hr))),fun hk=>aa.pos hlt (aa.pos h0 (aa.ite (fun _=>aa.pure _) (fun _=>aa.pos om (aa.pure _))))⟩
 ·simp only [ui.l0]
  exact aa.neg om ((aa.pure _).same (fT trivial).symm)
def okF (c:Int):Prop:=c=114∨c=110∨c=113∨c=122∨c=100∨c=116
theorem ayk (n:Int):I1.f n=some (B (0≤n∧n≤100000)):=by
 unfold I1.f
 by_cases h:n≥0
 ·rw [if_pos h,Dt]
  exact congrArg some (kw ⟨fun x=>⟨h,x⟩,fun x=>x.2⟩)
 ·rw [if_neg h,gq (fun x=>h x.1)]
theorem au0 (c: Int)(hc: okF c)(l: List ByteArray)(hl: (l.length : Int) = 1)(hs: (bA ByteArray.empty l 0).size ≤ 1048576) :
    ∃ b, aa (fun k => AP.f k c l) b ∧ aa (fun k => sP.f k c (bA ByteArray.empty l 0)) b := by
  generalize hg : bA ByteArray.empty l 0 = s at hs
  obtain ⟨v, hv, hvT⟩ := afT s om
  have start : ∀ b, aa (fun k => if c = 114 then ((jQ.f k s).bind fun t145 => (some t145)) else (if c = 110 then (if (v, B (jN s.data.toList ∧ (jb s.data.toList).length ≤ 12)).2 = true then (if (v, B (jN s.data.toList ∧ (jb s.data.toList).length ≤ 12)).1 ≥ 0 then (some (decide ((v, B (jN s.data.toList ∧ (jb s.data.toList).length ≤ 12)).1 ≤ 1000000000))) else (some false)) else (some false)) else (if c = 113 then (if (v, B (jN s.data.toList ∧ (jb s.data.toList).length ≤ 12)).2 = true then ((I4.f (v, B (jN s.data.toList ∧ (jb s.data.toList).length ≤ 12)).1).bind fun t146 => (some t146)) else (some false)) else (if c = 122 then (if (v, B (jN s.data.toList ∧ (jb s.data.toList).length ≤ 12)).2 = true then (if (v, B (jN s.data.toList ∧ (jb s.data.toList).length ≤ 12)).1 ≥ (-1000000) then (if (v, B (jN s.data.toList ∧ (jb s.data.toList).length ≤ 12)).1 ≤ 1000000 then (some ((v, B (jN s.data.toList ∧ (jb s.data.toList).length ≤ 12)).1 != 0)) else (some false)) else (some false)) else (some false)) else (if c = 100 then (if (v, B (jN s.data.toList ∧ (jb s.data.toList).length ≤ 12)).2 = true then ((I1.f (v, B (jN s.data.toList ∧ (jb s.data.toList).length ≤ 12)).1).bind fun agw => (some agw)) else (some false)) else (if s.toList = ([] : List UInt8) then (some false) else ((ui.f k s).bind fun t148 => (some t148)))))))) b → aa (fun k => AP.f k c l) b := fun b hb => by
    unfold AP.f
    rw [hg]
    exact aa.pos hl (aa.pos om (aa.bind hv hb))
  -- the numbers: one bound from below, one from above
  have num : ∀ lo hi : Int, -1000000000 ≤ lo → hi ≤ 1000000000 → ∃ w, aa (fun k => oz.f k s lo hi) (w, B ((jN s.data.toList ∧ (jb s.data.toList).length ≤ 12) ∧ lo ≤ v ∧ v ≤ hi)) := fun lo hi h0 h1 => by
    obtain ⟨w, hw, _⟩ := af0 s om lo hi h0 h1
    refine ⟨w, hw.same (congrArg _ (kw ⟨fun h => ?_, fun h => ?_⟩))⟩
    · have h12 := afZ _ h.1 om om
      rw [hvT h.1 h12]
      exact ⟨⟨h.1, h12⟩, h.2⟩
    · have e := hvT h.1.1 h.1.2
      rw [e] at h
      exact ⟨h.1.1, h.2⟩
  have no : ∀ q : Prop, ¬ (jN s.data.toList ∧ (jb s.data.toList).length ≤ 12) → false = B ((jN s.data.toList ∧ (jb s.data.toList).length ≤ 12) ∧ q) := fun q hn => (gq (fun x => hn x.1)).symm
  rcases hc with rfl | rfl | rfl | rfl | rfl | rfl
  · refine ⟨Pz s, start _ (aa.pos rfl (aa.bind (agu s om) (aa.pure _))), ?_⟩
    unfold sP.f
    exact aa.pos rfl (aa.bind (aaq s om) (aa.pure _))
  · obtain ⟨w, hw⟩ := num 0 1000000000 (by decide) (by decide)
    refine ⟨B ((jN s.data.toList ∧ (jb s.data.toList).length ≤ 12) ∧ 0 ≤ v ∧ v ≤ 1000000000), start _ (aa.neg (by decide) (aa.pos rfl (aa.ite (fun h => ?_) (fun h => (aa.pure _).same (no _ (fun x => h (fT x))))))), ?_⟩
    rotate_left
    · unfold sP.f
      exact aa.neg (by decide) (aa.pos rfl (aa.bind hw (aa.pure _)))
    · have h' := Gu.1 h
      exact aa.ite (fun h1 => (aa.pure _).same ((Dt _).trans (kw ⟨fun x => ⟨h', h1, x⟩, fun x => x.2.2⟩))) (fun h1 => (aa.pure _).same (gq (fun x => h1 x.2.1)).symm)
  · obtain ⟨w, hw⟩ := num 1 1000000 (by decide) (by decide)
    refine ⟨B ((jN s.data.toList ∧ (jb s.data.toList).length ≤ 12) ∧ 1 ≤ v ∧ v ≤ 1000000), start _ (aa.neg (by decide) (aa.neg (by decide) (aa.pos rfl (aa.ite (fun h => ?_) (fun h => (aa.pure _).same (no _ (fun x => h (fT x)))))))), ?_⟩
    rotate_left
    · unfold sP.f
      exact aa.neg (by decide) (aa.neg (by decide) (aa.pos rfl (aa.bind hw (aa.pure _))))
    · have h' := Gu.1 h
      simp only [ayn, Option.bind_some]
      exact (aa.pure _).same (kw ⟨fun x => ⟨h', x⟩, fun x => x.2⟩)
  · obtain ⟨w, hw⟩ := num (-1000000) 1000000 (by decide) (by decide)
    by_cases h : jN s.data.toList ∧ (jb s.data.toList).length ≤ 12
    · have e := hvT h.1 h.2
      have hz : (v != 0) = (s.toList != ([48] : List UInt8)) := by
        have hnz := ayX _ h.1
        rw [← e] at hnz
        by_cases z : v = 0
        · rw [show (v != 0) = false by simp [z], show (s.toList != ([48] : List UInt8)) = false by simp [(F4 s _).2 (hnz.1 z)]]
        · rw [show (v != 0) = true by simp [z], show (s.toList != ([48] : List UInt8)) = true by simp only [bne_iff_ne, ne_eq]; exact fun x => z (hnz.2 ((F4 s _).1 x))]
      by_cases g : -1000000 ≤ v ∧ v ≤ 1000000
      · refine ⟨v != 0, start _ (aa.neg (by decide) (aa.neg (by decide) (aa.neg (by decide) (aa.pos rfl (aa.pos (fT h) (aa.pos g.1 (aa.pos g.2 (aa.pure _)))))))), ?_⟩
        unfold sP.f
        refine aa.neg (by decide) (aa.neg (by decide) (aa.neg (by decide) (aa.pos rfl (aa.bind hw (aa.pos (fT ⟨h, g⟩) ((aa.pure _).same hz.symm))))))
      · refine ⟨false, start _ (aa.neg (by decide) (aa.neg (by decide) (aa.neg (by decide) (aa.pos rfl (aa.pos (fT h) (aa.ite (fun g1 => aa.neg (fun g2 => g ⟨g1, g2⟩) (aa.pure _)) (fun _ => aa.pure _))))))), ?_⟩
        unfold sP.f
        refine aa.neg (by decide) (aa.neg (by decide) (aa.neg (by decide) (aa.pos rfl (aa.bind hw (aa.neg (by rw [gq (fun x => g x.2)]; exact Bool.false_ne_true) (aa.pure _))))))
    · refine ⟨false, start _ (aa.neg (by decide) (aa.neg (by decide) (aa.neg (by decide) (aa.pos rfl (aa.neg (by rw [gq h]; exact Bool.false_ne_true) (aa.pure _)))))), ?_⟩
      unfold sP.f
      refine aa.neg (by decide) (aa.neg (by decide) (aa.neg (by decide) (aa.pos rfl (aa.bind hw (aa.neg (by rw [← no _ h]; exact Bool.false_ne_true) (aa.pure _))))))
  · obtain ⟨w, hw⟩ := num 0 100000 (by decide) (by decide)
    refine ⟨B ((jN s.data.toList ∧ (jb s.data.toList).length ≤ 12) ∧ 0 ≤ v ∧ v ≤ 100000), start _ (aa.neg (by decide) (aa.neg (by decide) (aa.neg (by decide) (aa.neg (by decide) (aa.pos rfl (aa.ite (fun h => ?_) (fun h => (aa.pure _).same (no _ (fun x => h (fT x)))))))))), ?_⟩
    rotate_left
    · unfold sP.f
      exact aa.neg (by decide) (aa.neg (by decide) (aa.neg (by decide) (aa.neg (by decide) (aa.pos rfl (aa.bind hw (aa.pure _))))))
    · have h' := Gu.1 h
      simp only [ayk, Option.bind_some]
      exact (aa.pure _).same (kw ⟨fun x => ⟨h', x⟩, fun x => x.2⟩)
  · by_cases hn : s.toList = ([] : List UInt8)
    · refine ⟨false, start _ (aa.neg (by decide) (aa.neg (by decide) (aa.neg (by decide) (aa.neg (by decide) (aa.neg (by decide) (aa.pos hn (aa.pure _))))))), ?_⟩
      unfold sP.f
      exact aa.neg (by decide) (aa.neg (by decide) (aa.neg (by decide) (aa.neg (by decide) (aa.neg (by decide) (aa.pos rfl (aa.pos hn (aa.pure _)))))))
    · refine ⟨B (za s), start _ (aa.neg (by decide) (aa.neg (by decide) (aa.neg (by decide) (aa.neg (by decide) (aa.neg (by decide) (aa.neg hn (aa.bind (anY s om) (aa.pure _)))))))), ?_⟩
      unfold sP.f
      exact aa.neg (by decide) (aa.neg (by decide) (aa.neg (by decide) (aa.neg (by decide) (aa.neg (by decide) (aa.pos rfl (aa.neg hn (aa.bind (afK s om) (aa.pure _))))))))
end Go.Proofs.YtapilmimgiaglaaGreatDoor.QX
