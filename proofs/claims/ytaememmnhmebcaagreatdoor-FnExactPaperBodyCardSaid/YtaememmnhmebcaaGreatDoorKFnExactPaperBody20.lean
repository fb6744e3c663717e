-- Merged by a program of this session (wip/tool/pack.py) out of its own texts for this claim.
import Derived.Deep.Slices
import Derived.ChangeArms
import Derived.WalkKit
import Derived.ProofKit
import Derived.OpenShut
import Derived.ShutString
import Derived.ChangeOld
import Derived.Below
import Derived.SizedLaws
import Derived.Lib.Strings
import Derived.Lib.ItoaNum
import Derived.Lib.AtoiAll
import Derived.Lib.ParseIntBTie
import Derived.Test.YtaememmnhmebcaaGreatDoorKFnExactPaperBody17
set_option maxRecDepth 100000
namespace Go.Proofs.YtaememmnhmebcaaGreatDoor.Rd
open Go.RowKit Go.ChangeShapes Go.WideShapes Go.Proofs.YtaememmnhmebcaaGreatDoorW.PrintWords
def Rd (P:Program) (t:TypeId) {α:Type} (d:Kd α) (wf:α→Prop):Prop :=
 ∀ (H:Type) (enc:TypeId × Value→H) (w:World) (base:Nat) (sp:Nat→Bool) (held:Bool) (fuel:Nat) (cs:List Value) (x:DataW H × List MemPlace),
  DataW.trod enc P w base sp held fuel t cs=some x→∃ a:α,d.K w a cs∧wf a
def RdF (P:Program) (fs:List Field) (off:Nat) {α:Type} (d:Kd α) (wf:α→Prop):Prop :=
 ∀ (H:Type) (enc:TypeId × Value→H) (w:World) (base:Nat) (sp:Nat→Bool) (held:Bool) (n:Nat) (cs:List Value),
  cs.length=off+d.sz→(∀ f ∈ fs,∃ y,DataW.trod enc P w base sp held n f.type ((cs.drop f.offset).take (P.cellsOf f.type))=some y)→∃ a:α,d.K w a (cs.drop off)∧wf a
def WfInt (k:IntKind) (n:Int):Prop:=(Lit.int k n).wf=true
def WfStr (s:ByteArray):Prop:=s.size≤maxLen
def WfRow {α:Type} (wf:α→Prop) (l:List α):Prop:=l.length≤maxLen∧∀ x ∈ l,wf x
theorem rd_int {P:Program} {t:TypeId} {k:IntKind} (hu:P.underlying t=some (.int k)):Rd P t (Kd.int k) (WfInt k):=by
 intro H enc w base sp held fuel cs x h
 cases fuel with
 | zero=>simp [DataW.trod] at h
 | succ n =>
  match cs with
  | [.int k' m] =>
   simp only [DataW.trod,hu] at h
   split at h
   ·rename_i hk
    obtain ⟨rfl,hw⟩:=hk
    exact ⟨m,rfl,hw⟩
   ·cases h
  | []=>simp [DataW.trod,hu] at h
  | [.bool _]=>simp [DataW.trod,hu] at h
  | [.float _ _]=>simp [DataW.trod,hu] at h
  | [.complex _ _ _]=>simp [DataW.trod,hu] at h
  | [.string _]=>simp [DataW.trod,hu] at h
  | [.pointer _]=>simp [DataW.trod,hu] at h
  | [.slice _ _ _]=>simp [DataW.trod,hu] at h
  | [.map _]=>simp [DataW.trod,hu] at h
  | [.chan _]=>simp [DataW.trod,hu] at h
  | [.func _ _ _]=>simp [DataW.trod,hu] at h
  | [.nilFunc]=>simp [DataW.trod,hu] at h
  | [.iface _ _]=>simp [DataW.trod,hu] at h
  | [.nilIface]=>simp [DataW.trod,hu] at h
  | [.agg _]=>simp [DataW.trod,hu] at h
  | [.tuple _]=>simp [DataW.trod,hu] at h
  | _ :: _ :: _=>simp [DataW.trod,hu] at h
theorem rd_str {P:Program} {t:TypeId} (hu:P.underlying t=some .string):Rd P t Kd.string WfStr:=by
 intro H enc w base sp held fuel cs x h
 cases fuel with
 | zero=>simp [DataW.trod] at h
 | succ n =>
  match cs with
  | [.string s] =>
   simp only [DataW.trod,hu] at h
   split at h
   ·rename_i hk
    exact ⟨s,rfl,hk⟩
   ·cases h
  | []=>simp [DataW.trod,hu] at h
  | [.int _ _]=>simp [DataW.trod,hu] at h
  | [.bool _]=>simp [DataW.trod,hu] at h
  | [.float _ _]=>simp [DataW.trod,hu] at h
  | [.complex _ _ _]=>simp [DataW.trod,hu] at h
  | [.pointer _]=>simp [DataW.trod,hu] at h
  | [.slice _ _ _]=>simp [DataW.trod,hu] at h
  | [.map _]=>simp [DataW.trod,hu] at h
  | [.chan _]=>simp [DataW.trod,hu] at h
  | [.func _ _ _]=>simp [DataW.trod,hu] at h
  | [.nilFunc]=>simp [DataW.trod,hu] at h
  | [.iface _ _]=>simp [DataW.trod,hu] at h
  | [.nilIface]=>simp [DataW.trod,hu] at h
  | [.agg _]=>simp [DataW.trod,hu] at h
  | [.tuple _]=>simp [DataW.trod,hu] at h
  | _ :: _ :: _=>simp [DataW.trod,hu] at h
theorem rdF_last {P:Program} {f:Field} {off:Nat} {α:Type} {d:Kd α} {wf:α→Prop} (h:Rd P f.type d wf) (ho:f.offset=off) (hc:P.cellsOf f.type=d.sz):RdF P [f] off d wf:=by
 intro H enc w base sp held n cs hl hy
 obtain ⟨y,hy⟩:=hy f (List.mem_singleton.2 rfl)
 rw [ho,hc,List.take_of_length_le (by rw [List.length_drop];omega)] at hy
 exact h H enc w base sp held n _ y hy
theorem rdF_cons {P:Program} {f:Field} {fs:List Field} {off off2:Nat} {α β:Type} {d:Kd α} {e:Kd β} {wf:α→Prop} {wg:β→Prop} (h:Rd P f.type d wf) (ho:f.offset=off) (hc:P.cellsOf f.type=d.sz)
  (h2:off2=off+d.sz) (hs:RdF P fs off2 e wg):RdF P (f :: fs) off (Kd.pair d e) (fun x=>wf x.1∧wg x.2):=by
 intro H enc w base sp held n cs hl hy
 obtain ⟨y,hy1⟩:=hy f (List.mem_cons_self ..)
 have hl':cs.length=off+(d.sz+e.sz):=hl
 obtain ⟨a,ha,hwa⟩:=h H enc w base sp held n _ y hy1
 obtain ⟨b,hb,hwb⟩:=hs H enc w base sp held n cs (by omega) (fun g hg=>hy g (List.mem_cons_of_mem _ hg))
 rw [ho,hc] at ha
 refine ⟨(a,b),⟨_,_,?_,ha,hb⟩,hwa,hwb⟩
 rw [h2,← List.drop_drop,List.take_append_drop]
theorem rd_struct {P:Program} {t:TypeId} {fs:Array Field} {α β:Type} {d:Kd α} {wf:α→Prop} {wg:β→Prop} (g:β→α) (gi:α→β) (hg:∀ a,g (gi a)=a) (hwg:∀ a,wf a→wg (gi a))
  (hu:P.underlying t=some (.struct fs)) (hc:P.cellsOf t=d.sz) (hF:RdF P fs.toList 0 d wf):Rd P t (Kd.iso d g) wg:=by
 intro H enc w base sp held fuel cs x h
 obtain ⟨xs,n,_,rfl,hl,hlen,hf⟩:=DataW.trod_struct hu h
 obtain ⟨a,ha,hwa⟩:=hF H enc w base sp held n cs (by omega) (fun f hfm=>by
  obtain ⟨i,hi,rfl⟩:=List.mem_iff_getElem.1 hfm
  have hi':i<fs.size:=by simpa using hi
  have z:=hf i (fs[i]) (by simp [hi'])
  rw [List.getElem?_eq_getElem (by omega)] at z
  exact ⟨_,by simpa using z⟩)
 refine ⟨gi a,?_,hwg a hwa⟩
 show d.K w (g (gi a)) cs
 rw [hg]
 simpa using ha
theorem rd_slice {P:Program} {t e:TypeId} {α:Type} {d:Kd α} {wf:α→Prop} (hu:P.underlying t=some (.slice e)) (hc:P.cellsOf e=d.sz) (hd:Rd P e d wf):Rd P t (Kd.slice e d) (WfRow wf):=by
 intro H enc w base sp held fuel cs x h
 rcases Go.Deep.open_slice hu h with ⟨rfl,_⟩ | ⟨a,len,cap,m,n,D,Pl,rfl,hb,hl,hm,hmm,_,hx⟩
 ·exact ⟨[],⟨none,0,rfl,Nat.le_refl _,rfl,by simp,fun h=>absurd h (by simp)⟩,by simp [maxLen],by simp⟩
 ·have hlm:len≤m:=by rw [hmm];split <;> omega
  have hall:∀ i,i<len→∃ cs',w.cells? base (a.add (i * P.cellsOf e)) (P.cellsOf e)=some cs'∧DataW.trod enc P w base sp held n e cs'=some (D i,Pl i):=fun i hi=>hx i (by omega)
  have key:∀ (k:Nat),k≤len→∃ l:List α,l.length=k∧(∀ x ∈ l,wf x)∧∀ j p,l[j]? = some p→∃ c,c.length=d.sz∧d.K w p c∧∀ i u,c[i]? = some u→w.cell? (a.add (j * d.sz+i))=some u:=by
   intro k
   induction k with
   | zero=>intro _;exact ⟨[],rfl,by simp,by simp⟩
   | succ k ih =>
    intro hk
    obtain ⟨l,hl1,hl2,hl3⟩:=ih (by omega)
    obtain ⟨cs',h1,h2⟩:=hall k (by omega)
    obtain ⟨b,hb1,hb2⟩:=hd H enc w base sp held n cs' _ h2
    refine ⟨l++[b],by simp [hl1],?_,?_⟩
    ·intro z hz
     rcases List.mem_append.1 hz with hz|hz
     ·exact hl2 z hz
     ·rw [List.mem_singleton.1 hz];exact hb2
    ·intro j p hj
     by_cases hjl:j<l.length
     ·rw [List.getElem?_append_left hjl] at hj
      exact hl3 j p hj
     ·rw [List.getElem?_append_right (by omega)] at hj
      have hj0:j - l.length=0:=by
       cases hz:j - l.length with
       | zero=>rfl
       | succ q=>rw [hz] at hj;simp at hj
      rw [hj0] at hj
      obtain rfl:b=p:=by simpa using hj
      have hjk:j=k:=by omega
      subst hjk
      refine ⟨cs',d.K_len hb1,hb1,fun i u hu'=>?_⟩
      obtain ⟨_,hlen',hcell⟩:=World.cells?_some h1
      have hi:i<cs'.length:=by
       rcases Nat.lt_or_ge i cs'.length with h|h
       ·exact h
       ·rw [List.getElem?_eq_none h] at hu';cases hu'
      have z:=hcell i (by omega)
      rw [hu',Go.Deep.add_add,hc] at z
      exact z
  obtain ⟨l,hl1,hl2,hl3⟩:=key len (Nat.le_refl _)
  refine ⟨l,⟨some a,cap,by rw [hl1],by omega,?_⟩,by rw [hl1];exact Nat.le_trans hl hm,hl2⟩
  exact ⟨rfl,by rw [hl1];have:cap≤2 ^ 63 - 1:=hm;omega,fun _=>⟨a,rfl,hl3⟩⟩
end Go.Proofs.YtaememmnhmebcaaGreatDoor.Rd
namespace Go.Proofs.YtaememmnhmebcaaGreatDoor.QB
open Go.RowKit Go.Proofs.YtaememmnhmebcaaGreatDoor Go.Proofs.YtaememmnhmebcaaGreatDoorW.PrintWords
def wf54 (x:S54):Prop:=(Rd.WfInt .i64) x.f0∧Rd.WfStr x.f1∧(Rd.WfInt .i64) x.f2∧(Rd.WfInt .i64) x.f3∧Rd.WfStr x.f4
def wf25 (x:S25):Prop:=(Rd.WfInt .i64) x.f0∧Rd.WfStr x.f1∧Rd.WfStr x.f2∧(Rd.WfInt .i64) x.f3∧(Rd.WfRow Rd.WfStr) x.f4∧(Rd.WfRow wf54) x.f5
theorem rd54:Rd.Rd Tryz.prog 54 k54 wf54:=Rd.rd_struct _ (fun a=>⟨a.1,a.2.1,a.2.2.1,a.2.2.2.1,a.2.2.2.2⟩) (fun _=>rfl) (fun _ h=>h) Tryz.underlying54 (by kernel_rfl) (Rd.rdF_cons (Rd.rd_int (Tryz.underlying2)) rfl (by kernel_rfl) (off2:=1) rfl (Rd.rdF_cons (Rd.rd_str (Tryz.underlying9)) rfl (by kernel_rfl) (off2:=2) rfl (Rd.rdF_cons (Rd.rd_int (Tryz.underlying2)) rfl (by kernel_rfl) (off2:=3) rfl (Rd.rdF_cons (Rd.rd_int (Tryz.underlying2)) rfl (by kernel_rfl) (off2:=4) rfl (Rd.rdF_last (Rd.rd_str (Tryz.underlying9)) rfl (by kernel_rfl))))))
theorem rd25:Rd.Rd Tryz.prog 25 k25 wf25:=Rd.rd_struct _ (fun a=>⟨a.1,a.2.1,a.2.2.1,a.2.2.2.1,a.2.2.2.2.1,a.2.2.2.2.2⟩) (fun _=>rfl) (fun _ h=>h) Tryz.underlying25 (by kernel_rfl) (Rd.rdF_cons (Rd.rd_int (Tryz.underlying2)) rfl (by kernel_rfl) (off2:=1) rfl (Rd.rdF_cons (Rd.rd_str (Tryz.underlying9)) rfl (by kernel_rfl) (off2:=2) rfl (Rd.rdF_cons (Rd.rd_str (Tryz.underlying9)) rfl (by kernel_rfl) (off2:=3) rfl (Rd.rdF_cons (Rd.rd_int (Tryz.underlying2)) rfl (by kernel_rfl) (off2:=4) rfl (Rd.rdF_cons (Rd.rd_slice Tryz.underlying22 (by kernel_rfl) (Rd.rd_str (Tryz.underlying9))) rfl (by kernel_rfl) (off2:=5) rfl (Rd.rdF_last (Rd.rd_slice Tryz.underlying23 (by kernel_rfl) rd54) rfl (by kernel_rfl)))))))
end Go.Proofs.YtaememmnhmebcaaGreatDoor.QB
namespace Go.Proofs.YtaememmnhmebcaaGreatDoor.QB
open Go.Proofs.YtaememmnhmebcaaGreatDoor Go.Proofs.YtaememmnhmebcaaGreatDoorW.PrintWords
def laws_FnExactPaperBody.Pure:Prop:=∀ (a0_0:Int) (a0_1:ByteArray) (a0_2:ByteArray) (a0_3:Int) (l0_4:List ByteArray) (l0_5:List (S54)),(Rd.WfInt .i64) a0_0→Rd.WfStr a0_1→Rd.WfStr a0_2→(Rd.WfInt .i64) a0_3→(Rd.WfRow Rd.WfStr) l0_4→(Rd.WfRow wf54) l0_5→∃ k,laws_FnExactPaperBody.f k a0_0 a0_1 a0_2 a0_3 l0_4 l0_5=some true
end Go.Proofs.YtaememmnhmebcaaGreatDoor.QB
namespace Go.Proofs.YtaememmnhmebcaaGreatDoor.Ev0
open Go.RowKit Go.Proofs.YtaememmnhmebcaaGreatDoorW.PrintWords
def Evt {α:Type} (f:Nat→Option α) (r:α):Prop:=∃ K,∀ k,K≤k→f k=some r
namespace Evt
variable {α β : Type}
theorem const {o:Option α} {r:α} (h:o=some r):Evt (fun _=>o) r:=⟨0,fun _ _=>h⟩
theorem pure (r:α):Evt (fun _=>some r) r:=⟨0,fun _ _=>rfl⟩
theorem bind {f:Nat→Option α} {g:Nat→α→Option β} {a:α} {r:β} (h:Evt f a) (h2:Evt (fun k=>g k a) r):Evt (fun k=>(f k).bind (g k)) r:=by
 obtain ⟨K,hK⟩:=h
 obtain ⟨L,hL⟩:=h2
 refine ⟨K+L,fun k hk=>?_⟩
 show (f k).bind (g k)=some r
 rw [hK k (by omega)]
 exact hL k (by omega)
theorem succ {f:Nat→Option α} {r:α} (h:Evt (fun k=>f (k+1)) r):Evt f r:=by
 obtain ⟨K,hK⟩:=h
 refine ⟨K+1,fun k hk=>?_⟩
 obtain ⟨m,rfl⟩:∃ m,k=m+1:=⟨k - 1,by omega⟩
 exact hK m (by omega)
theorem pos {c:Prop} [Decidable c] {f g:Nat→Option α} {r:α} (hc:c) (h:Evt f r):Evt (fun k=>if c then f k else g k) r:=by
 simpa only [if_pos hc] using h
theorem neg {c:Prop} [Decidable c] {f g:Nat→Option α} {r:α} (hc:¬ c) (h:Evt g r):Evt (fun k=>if c then f k else g k) r:=by
 simpa only [if_neg hc] using h
theorem ite {c:Prop} [Decidable c] {f g:Nat→Option α} {r:α} (h1:c→Evt f r) (h2:¬ c→Evt g r):Evt (fun k=>if c then f k else g k) r:=by
 by_cases hc:c
 ·exact pos hc (h1 hc)
 ·exact neg hc (h2 hc)
theorem ex {f:Nat→Option α} {r:α} (h:Evt f r):∃ k,f k=some r:=by
 obtain ⟨K,hK⟩:=h
 exact ⟨K,hK K (Nat.le_refl _)⟩
theorem same {f:Nat→Option α} {r r':α} (h:Evt f r) (e:r=r'):Evt f r':=e ▸ h
end Evt
theorem w64 {x:Int} (h0 : -9223372036854775808≤x) (h1:x≤9223372036854775807):wrap64 x=x:=by
 unfold wrap64
 omega
noncomputable def B (p:Prop):Bool:=@decide p (Classical.propDecidable p)
theorem B_true {p:Prop} (h:p):B p=true:=by unfold B;exact @decide_eq_true p (Classical.propDecidable p) h
theorem B_false {p:Prop} (h:¬ p):B p=false:=by unfold B;exact @decide_eq_false p (Classical.propDecidable p) h
theorem B_iff {p:Prop} : B p=true ↔ p:=by unfold B;exact @decide_eq_true_iff p (Classical.propDecidable p)
theorem B_congr {p q:Prop} (h:p ↔ q):B p=B q:=by rw [propext h]
theorem decide_B (p:Prop) [Decidable p]:decide p=B p:=by
 by_cases h:p
 ·rw [decide_eq_true h,B_true h]
 ·rw [decide_eq_false h,B_false h]
theorem bool_B {b:Bool} {p:Prop} (h:b=true ↔ p):b=B p:=by
 cases b with
 | true=>exact (B_true (h.1 rfl)).symm
 | false=>exact (B_false (fun hp=>by simpa using h.2 hp)).symm
theorem and_ {c p q:Prop} [Decidable c] {f:Nat→Option Bool} (hc:c ↔ p) (h:p→Evt f (B q)):Evt (fun k=>if c then f k else some false) (B (p∧q)):=by
 by_cases e:c
 ·exact Evt.pos e ((h (hc.1 e)).same (B_congr ⟨fun x=>⟨hc.1 e,x⟩,fun x=>x.2⟩))
 ·exact Evt.neg e ((Evt.pure false).same (B_false (fun x=>e (hc.2 x.1))).symm)
theorem fail_ {c p q:Prop} [Decidable c] {f:Nat→Option Bool} (hc:c ↔ ¬ p) (h:p→Evt f (B q)):Evt (fun k=>if c then some false else f k) (B (p∧q)):=by
 by_cases e:c
 ·exact Evt.pos e ((Evt.pure false).same (B_false (fun x=>hc.1 e x.1)).symm)
 ·have hp:p:=Classical.not_not.1 (fun x=>e (hc.2 x))
  exact Evt.neg e ((h hp).same (B_congr ⟨fun x=>⟨hp,x⟩,fun x=>x.2⟩))
theorem last_ {p q:Prop} [Decidable p] (h:p ↔ q):Evt (fun _=>some (decide p)) (B q):=(Evt.pure _).same ((decide_B p).trans (B_congr h))
theorem up_loop {σ ρ:Type} (n:Int) (F:Nat→σ→Int→Option ρ) (st:Int→σ) (r:Int→ρ)
  (step:∀ i,0≤i→i<n→Evt (fun k=>F k (st (i+1)) (i+1)) (r (i+1))→Evt (fun k=>F (k+1) (st i) i) (r i))
  (stop:Evt (fun k=>F (k+1) (st n) n) (r n)) (i:Int) (h0:0≤i) (hn:i≤n):Evt (fun k=>F k (st i) i) (r i):=by
 have key:∀ (d:Nat) (i:Int),0≤i→i≤n→n - i≤d→Evt (fun k=>F k (st i) i) (r i):=by
  intro d
  induction d with
  | zero =>
   intro i h0 h1 hd
   obtain rfl:i=n:=by omega
   exact stop.succ
  | succ d ih =>
   intro i h0 h1 hd
   by_cases hlt:i<n
   ·exact (step i h0 hlt (ih (i+1) (by omega) (by omega) (by omega))).succ
   ·obtain rfl:i=n:=by omega
    exact stop.succ
 exact key (n - i).toNat i h0 hn (by omega)
def SzR (f:Nat→Option Int) (left:Int) (p:Prop):Prop:=∃ t,Evt f t∧(t<0∨(0≤t∧t≤left∧p))
theorem sz_loop (n:Nat) (hn:n≤9223372036854775807) (p:Int→Prop) (f:Nat→Option Int) (F:Nat→Int→Int→Option Int) (left:Int) (hl0:0≤left) (hl:left≤1048576)
  (hf:∀ k,f k=if wrap64 (left - (n:Int))<0 then some (-1) else F k (wrap64 (left - (n:Int))) 0)
  (step:∀ s i,0≤i→i<(n:Int)→0≤s→s≤1048576→(∃ r,r<0∧Evt (fun k=>F (k+1) s i) r)∨(∃ s',0≤s'∧s'≤s∧p i∧∀ r,Evt (fun k=>F k s' (i+1)) r→Evt (fun k=>F (k+1) s i) r))
  (stop:∀ s i,(n:Int)≤i→Evt (fun k=>F (k+1) s i) s):SzR f left (n≤1048576∧∀ i,0≤i→i<(n:Int)→p i):=by
 have hw:wrap64 (left - (n:Int))=left - (n:Int):=w64 (by omega) (by omega)
 by_cases h:left - (n:Int)<0
 ·refine ⟨-1,⟨0,fun k _=>?_⟩,.inl (by decide)⟩
  rw [hf,hw,if_pos h]
 ·have key:∀ (d:Nat) (s i:Int),0≤i→(n:Int) - i≤d→0≤s→s≤1048576→∃ t,Evt (fun k=>F k s i) t∧(t<0∨(0≤t∧t≤s∧∀ j,i≤j→j<(n:Int)→p j)):=by
   intro d
   induction d with
   | zero=>intro s i h0 hd hs0 hs1;exact ⟨s,(stop s i (by omega)).succ,.inr ⟨hs0,Int.le_refl _,fun j h1 h2=>absurd h2 (by omega)⟩⟩
   | succ d ih =>
    intro s i h0 hd hs0 hs1
    by_cases hlt:i<(n:Int)
    ·rcases step s i h0 hlt hs0 hs1 with ⟨r,hr0,hr⟩ | ⟨s',h1,h2,hp,hs⟩
     ·exact ⟨r,hr.succ,.inl hr0⟩
     ·obtain ⟨t,ht,h3⟩:=ih s' (i+1) (by omega) (by omega) h1 (by omega)
      refine ⟨t,(hs t ht).succ,h3.imp id (fun ⟨g0,g1,g2⟩=>⟨g0,by omega,fun j h1 h2=>?_⟩)⟩
      by_cases e:j=i
      ·rw [e];exact hp
      ·exact g2 j (by omega) h2
    ·exact ⟨s,(stop s i (by omega)).succ,.inr ⟨hs0,Int.le_refl _,fun j h1 h2=>absurd h2 (by omega)⟩⟩
  obtain ⟨t,⟨K,hK⟩,h3⟩:=key n (left - (n:Int)) 0 (Int.le_refl _) (by omega) (by omega) (by omega)
  refine ⟨t,⟨K,fun k hk=>?_⟩,h3.imp id (fun ⟨g0,g1,g2⟩=>⟨g0,by omega,by omega,g2⟩)⟩
  rw [hf,hw,if_neg h]
  exact hK k hk
theorem wsub {s a:Int} (hs0:0≤s) (hs1:s≤1048576) (ha0:0≤a) (ha:a≤9223372036854775807):wrap64 (s - a)=s - a:=w64 (by omega) (by omega)
theorem getD_at {α:Type} (l:List α) (z:α) (i:Nat) (h:i<l.length):l.getD i z=l[i]:=by
 rw [List.getD_eq_getElem?_getD,List.getElem?_eq_getElem h]
 rfl
theorem fill_loop {α β:Type} (l:List α) (zα:α) (z:β) (g:α→β) (F:Nat→List β→Int→Option (List β))
  (step:∀ acc i,0≤i→i<(l.length:Int)→acc.length=l.length→∀ r,Evt (fun k=>F k (acc.set i.toNat (g (l.getD i.toNat zα))) (i+1)) r→Evt (fun k=>F (k+1) acc i) r)
  (stop:∀ acc i,(l.length:Int)≤i→Evt (fun k=>F (k+1) acc i) acc):Evt (fun k=>F k (List.replicate l.length z) 0) (l.map g):=by
 have h:=up_loop (l.length:Int) F (fun i=>(l.take i.toNat).map g++List.replicate (l.length - i.toNat) z) (fun _=>l.map g) ?_ ?_ 0 (Int.le_refl _) (by omega)
 ·simpa using h
 ·intro i h0 hlt ih
  refine step _ i h0 hlt (by simp;omega) _ ?_
  have hi:i.toNat<l.length:=by omega
  have e:((l.take i.toNat).map g++List.replicate (l.length - i.toNat) z).set i.toNat (g (l.getD i.toNat zα))=(l.take (i+1).toNat).map g++List.replicate (l.length - (i+1).toNat) z:=by
   have e1:(i+1).toNat=i.toNat+1:=by omega
   rw [e1,List.take_succ_eq_append_getElem hi,List.map_append,getD_at l zα _ hi,List.set_append_right _ _ (by simp;omega)]
   have e2:l.length - i.toNat=(l.length - (i.toNat+1))+1:=by omega
   have e3:i.toNat - ((l.take i.toNat).map g).length=0:=by simp;omega
   rw [e2,e3,List.replicate_succ]
   simp
  rw [e]
  exact ih
 ·have h:=stop ((l.take ((l.length:Int)).toNat).map g++List.replicate (l.length - ((l.length:Int)).toNat) z) (l.length:Int) (Int.le_refl _)
  refine h.same ?_
  simp
theorem all_loop (n:Int) (h0:0≤n) (F:Nat→Int→Option Bool) (step:∀ i,0≤i→i<n→Evt (fun k=>F k (i+1)) true→Evt (fun k=>F (k+1) i) true)
  (stop:Evt (fun k=>F (k+1) n) true):Evt (fun k=>F k 0) true :=
 up_loop n (fun k (_:Unit) i=>F k i) (fun _=>()) (fun _=>true) step stop 0 (Int.le_refl _) h0
theorem right_loop (n:Int) (hn:0≤n) (ok:Int→Prop) (q:Prop) (F:Nat→Int→Option Bool)
  (step:∀ i,0≤i→i<n→(ok i→∀ r,Evt (fun k=>F k (i+1)) r→Evt (fun k=>F (k+1) i) r)∧(¬ ok i→Evt (fun k=>F (k+1) i) false))
  (stop:Evt (fun k=>F (k+1) n) (B q)):Evt (fun k=>F k 0) (B ((∀ i,0≤i→i<n→ok i)∧q)):=by
 have h:=up_loop n (fun k (_:Unit) i=>F k i) (fun _=>()) (fun i=>B ((∀ j,i≤j→j<n→ok j)∧q)) ?_ ?_ 0 (Int.le_refl _) hn
 ·exact h
 ·intro i h0 hlt ih
  by_cases hk:ok i
  ·refine ((step i h0 hlt).1 hk _ ih).same (B_congr ⟨fun h=>⟨fun j h1 h2=>?_,h.2⟩,fun h=>⟨fun j h1 h2=>h.1 j (by omega) h2,h.2⟩⟩)
   by_cases e:j=i
   ·rw [e];exact hk
   ·exact h.1 j (by omega) h2
  ·exact ((step i h0 hlt).2 hk).same (B_false (fun h=>hk (h.1 i (Int.le_refl _) hlt))).symm
 ·exact stop.same (B_congr ⟨fun h=>⟨fun j h1 h2=>absurd h2 (by omega),h⟩,fun h=>h.2⟩)
theorem find_loop (n:Int) (hn:0≤n) (p:Int→Prop) (F:Nat→Int→Option Int)
  (step:∀ i,0≤i→i<n→(p i→Evt (fun k=>F (k+1) i) i)∧(¬ p i→∀ r,Evt (fun k=>F k (i+1)) r→Evt (fun k=>F (k+1) i) r))
  (stop:Evt (fun k=>F (k+1) n) (-1)) :
  ∃ r,Evt (fun k=>F k 0) r∧((r = -1∧∀ j,0≤j→j<n→¬ p j)∨(0≤r∧r<n∧p r∧∀ j,0≤j→j<r→¬ p j)):=by
 have key:∀ (d:Nat) (i:Int),0≤i→i≤n→n - i≤d→∃ r,Evt (fun k=>F k i) r∧((r = -1∧∀ j,i≤j→j<n→¬ p j)∨(i≤r∧r<n∧p r∧∀ j,i≤j→j<r→¬ p j)):=by
  intro d
  induction d with
  | zero =>
   intro i h0 h1 hd
   obtain rfl:i=n:=by omega
   exact ⟨-1,stop.succ,.inl ⟨rfl,fun j h1 h2=>absurd h2 (by omega)⟩⟩
  | succ d ih =>
   intro i h0 h1 hd
   by_cases hlt:i<n
   ·by_cases hp:p i
    ·exact ⟨i,((step i h0 hlt).1 hp).succ,.inr ⟨Int.le_refl _,hlt,hp,fun j h1 h2=>absurd h2 (by omega)⟩⟩
    ·obtain ⟨r,hr,h⟩:=ih (i+1) (by omega) (by omega) (by omega)
     refine ⟨r,((step i h0 hlt).2 hp r hr).succ,?_⟩
     rcases h with ⟨h1,h2⟩ | ⟨h1,h2,h3,h4⟩
     ·refine .inl ⟨h1,fun j g1 g2=>?_⟩
      by_cases e:j=i
      ·rw [e];exact hp
      ·exact h2 j (by omega) g2
     ·refine .inr ⟨by omega,h2,h3,fun j g1 g2=>?_⟩
      by_cases e:j=i
      ·rw [e];exact hp
      ·exact h4 j (by omega) g2
   ·obtain rfl:i=n:=by omega
    exact ⟨-1,stop.succ,.inl ⟨rfl,fun j h1 h2=>absurd h2 (by omega)⟩⟩
 exact key n.toNat 0 (Int.le_refl _) hn (by omega)
theorem bytes_ext {a b:ByteArray} : a.toList=b.toList ↔ a=b:=by
 constructor
 ·intro h
  rw [Lib.toList_data,Lib.toList_data] at h
  cases a with|mk x=>cases b with|mk y=>cases x with|mk x=>cases y with|mk y=>simp at h;rw [h]
 ·rintro rfl
  rfl
theorem bytes_nil {a:ByteArray} : a.toList=([]:List UInt8) ↔ a.size=0:=by
 rw [Lib.toList_data]
 cases a with|mk x=>cases x with|mk x=>simp [ByteArray.size]
end Go.Proofs.YtaememmnhmebcaaGreatDoor.Ev0
namespace Go.Proofs.YtaememmnhmebcaaGreatDoor.QB
open Go.RowKit Go.Proofs.YtaememmnhmebcaaGreatDoorW.PrintWords Go.Proofs.YtaememmnhmebcaaGreatDoor.Ev0
def bs8 (l:List UInt8):ByteArray:=⟨l.toArray⟩
theorem bs8_app (a b:List UInt8):bs8 a++bs8 b=bs8 (a++b):=by
 apply ByteArray.ext
 simp [bs8]
theorem bs8_size (l:List UInt8):(bs8 l).size=l.length:=by simp [bs8,ByteArray.size]
def dg (u:Nat):List UInt8:=if u=0 then [] else Lib.decDigits u
theorem dg_step (u:Nat) (h:u≠0):dg u=dg (u / 10)++[UInt8.ofNat (48+u % 10)]:=by
 unfold dg
 rw [if_neg h,Lib.decDigits]
 by_cases g:u<10
 ·rw [dif_pos g,if_pos (by omega),show u % 10=u by omega]
  rfl
 ·rw [dif_neg g,if_neg (by omega)]
theorem dg_len (d:Nat):∀ u:Nat,u<10 ^ d→(dg u).length≤d:=by
 induction d with
 | zero =>
  intro u h
  have:u=0:=by (simpa using h)
  subst this
  simp [dg]
 | succ d ih =>
  intro u h
  by_cases g:u=0
  ·subst g;simp [dg]
  ·rw [dg_step u g,List.length_append,List.length_singleton]
   have:=ih (u / 10) (by rw [Nat.pow_succ] at h;omega)
   omega
theorem str_one (v:Nat) (h:v<10):strOfNums [((48+v:Nat):Int)]=bs8 [UInt8.ofNat (48+v)]:=by
 have:v=0∨v=1∨v=2∨v=3∨v=4∨v=5∨v=6∨v=7∨v=8∨v=9:=by omega
 rcases this with rfl|rfl|rfl|rfl|rfl|rfl|rfl|rfl|rfl|rfl <;> rfl
theorem dec_run (d:Nat):∀ (n:Nat) (a:Int) (neg:Bool) (x:List UInt8),(a=(n:Int)∨a = -(n:Int))→n<10 ^ d→n≤9223372036854775808→(a=(n:Int)→n≤9223372036854775807)→x.length+d≤1000 →
  Evt (fun k=>spec_l01Dec.l0 k a neg (bs8 x)) (bs8 ((if neg=true then [45] else [])++(dg n++x))):=by
 have fin:∀ (a:Int) (neg:Bool) (x:List UInt8),a=0→x.length≤1000→Evt (fun k=>spec_l01Dec.l0 k a neg (bs8 x)) (bs8 ((if neg=true then [45] else [])++(dg 0++x))):=by
  intro a neg x ha hx
  apply Evt.succ
  simp only [spec_l01Dec.l0]
  refine Evt.pos ha ?_
  cases neg with
  | true=>exact Evt.pos rfl (Evt.pos (by rw [bs8_size];omega) ((Evt.pure _).same (bs8_app [45] x)))
  | false=>exact Evt.neg (by decide) ((Evt.pure _).same (by simp [dg]))
 induction d with
 | zero =>
  intro n a neg x ha hn h1 h2 hx
  have:n=0:=by simpa using hn
  subst this
  exact fin a neg x (by omega) (by omega)
 | succ d ih =>
  intro n a neg x ha hn h1 h2 hx
  by_cases g:n=0
  ·subst g
   exact fin a neg x (by omega) (by omega)
  have hd:n / 10<10 ^ d:=by rw [Nat.pow_succ] at hn;omega
  apply Evt.succ
  simp only [spec_l01Dec.l0,Option.bind_some]
  refine Evt.neg (by omega) ?_
  have hv:n % 10<10:=by omega
  have one:∀ v:Int,v=((n % 10:Nat):Int)→strOfNums [(wrap64 (48+v)) % 256]=bs8 [UInt8.ofNat (48+n % 10)]:=fun v e=>by
   rw [e,w64 (by omega) (by omega),← str_one _ hv]
   congr 2
   omega
  have ends:bs8 ((if neg=true then [45] else [])++(dg (n / 10)++([UInt8.ofNat (48+n % 10)]++x)))=bs8 ((if neg=true then [45] else [])++(dg n++x)):=by
   rw [dg_step n g,List.append_assoc]
  rcases ha with ha|ha
  ·have e1:Int.tmod a 10=((n % 10:Nat):Int):=by rw [ha,Int.tmod_eq_emod_of_nonneg (by omega)];omega
   have e2:Int.tdiv a 10=((n / 10:Nat):Int):=by rw [ha,Int.tdiv_eq_ediv_of_nonneg (by omega)];omega
   refine Evt.neg (by omega) ?_
   rw [one _ e1,e2,w64 (by omega) (by omega),bs8_app]
   refine Evt.pos (by rw [bs8_size,bs8_size,List.length_singleton];omega) ((ih (n / 10) _ neg _ (.inl rfl) hd (by omega) (fun _=>by omega) (by simp;omega)).same ends)
  ·have e1:Int.tmod a 10 = -((n % 10:Nat):Int):=by rw [ha,Int.neg_tmod,Int.tmod_eq_emod_of_nonneg (by omega)];omega
   have e2:Int.tdiv a 10 = -((n / 10:Nat):Int):=by rw [ha,Int.neg_tdiv,Int.tdiv_eq_ediv_of_nonneg (by omega)];omega
   have hm:wrap64 (-(Int.tmod a 10))=((n % 10:Nat):Int):=by rw [e1,w64 (by omega) (by omega)];omega
   have go:Evt (fun k=>spec_l01Dec.l0 k (-((n / 10:Nat):Int)) neg (bs8 ([UInt8.ofNat (48+n % 10)]++x))) (bs8 ((if neg=true then [45] else [])++(dg n++x))) :=
    (ih (n / 10) _ neg _ (.inr rfl) hd (by omega) (fun h=>by omega) (by simp;omega)).same ends
   by_cases hz:Int.tmod a 10<0
   ·refine Evt.pos hz ?_
    rw [hm,one _ rfl,e2,w64 (by omega) (by omega),bs8_app]
    exact Evt.pos (by rw [bs8_size,bs8_size,List.length_singleton];omega) go
   ·refine Evt.neg hz ?_
    rw [one _ (by omega),e2,w64 (by omega) (by omega),bs8_app]
    exact Evt.pos (by rw [bs8_size,bs8_size,List.length_singleton];omega) go
theorem l01Dec_ev (a:Int) (h0 : -9223372036854775808≤a) (h1:a≤9223372036854775807):Evt (fun k=>spec_l01Dec.f k a) (bs8 (Lib.itoa a)):=by
 unfold spec_l01Dec.f
 by_cases e:a=0
 ·refine Evt.pos e ((Evt.pure _).same ?_)
  subst e
  unfold Lib.itoa
  rw [if_neg (by decide),show (0:Int).toNat=0 from rfl,Lib.decDigits,dif_pos (by decide)]
  rfl
 ·refine Evt.neg e ?_
  by_cases g:a<0
  ·rw [decide_eq_true g]
   have h:=dec_run 20 a.natAbs a true [] (.inr (by omega)) (by omega) (by omega) (fun h=>by omega) (by decide)
   refine (show Evt (fun k=>spec_l01Dec.l0 k a true (⟨#[]⟩:ByteArray)) _ from h).same ?_
   unfold Lib.itoa dg
   rw [if_pos g,if_pos rfl,if_neg (by omega),List.append_nil]
   rfl
  ·rw [decide_eq_false g]
   have h:=dec_run 20 a.natAbs a false [] (.inl (by omega)) (by omega) (by omega) (fun h=>by omega) (by decide)
   refine (show Evt (fun k=>spec_l01Dec.l0 k a false (⟨#[]⟩:ByteArray)) _ from h).same ?_
   unfold Lib.itoa dg
   rw [if_neg g,if_neg (by decide),if_neg (by omega),List.append_nil,List.nil_append,show a.toNat=a.natAbs by omega]
theorem itoa_len (a:Int) (h0 : -9223372036854775808≤a) (h1:a≤9223372036854775807):(Lib.itoa a).length≤25:=by
 have hd:∀ u:Nat,u<10 ^ 20→(Lib.decDigits u).length≤20:=fun u hu=>by
  by_cases g:u=0
  ·subst g
   rw [Lib.decDigits,dif_pos (by decide)]
   decide
  ·have:=dg_len 20 u hu
   unfold dg at this
   rwa [if_neg g] at this
 unfold Lib.itoa
 by_cases g:a<0
 ·rw [if_pos g,List.length_cons]
  have:=hd a.natAbs (by omega)
  omega
 ·rw [if_neg g]
  have:=hd a.toNat (by omega)
  omega
theorem within_ev (a b c:Int):impl_within.f a b c=some (B (b≤a∧a≤c)):=by
 unfold impl_within.f
 by_cases h:b≤a
 ·rw [if_pos h,decide_B]
  exact congrArg some (B_congr ⟨fun x=>⟨h,x⟩,fun x=>x.2⟩)
 ·rw [if_neg h,B_false (fun x=>h x.1)]
theorem isGreat_ev (c:Int):impl_isGreat.f c=some (B (65≤c∧c≤90)):=by
 unfold impl_isGreat.f
 by_cases h:c≥65
 ·rw [if_pos h,decide_B]
  exact congrArg some (B_congr ⟨fun x=>⟨h,x⟩,fun x=>x.2⟩)
 ·rw [if_neg h,B_false (fun x=>h x.1)]
theorem isDigit_ev (c:Int):impl_isDigit.f c=some (B (48≤c∧c≤57)):=by
 unfold impl_isDigit.f
 by_cases h:c≥48
 ·rw [if_pos h,decide_B]
  exact congrArg some (B_congr ⟨fun x=>⟨h,x⟩,fun x=>x.2⟩)
 ·rw [if_neg h,B_false (fun x=>h x.1)]
theorem l01Qty_ev (n:Int):spec_l01Qty.f n=some (B (1≤n∧n≤1000000)):=by
 unfold spec_l01Qty.f
 by_cases h:n≥1
 ·rw [if_pos h,decide_B]
  exact congrArg some (B_congr ⟨fun x=>⟨h,x⟩,fun x=>x.2⟩)
 ·rw [if_neg h,B_false (fun x=>h x.1)]
def okc (c:Int):Prop:=(65≤c∧c≤90)∨(48≤c∧c≤57)∨c=45
def NameP (s:ByteArray):Prop:=1≤(s.size:Int)∧(s.size:Int)≤12∧(65≤bt s 0∧bt s 0≤90)∧∀ j:Int,0≤j→j<s.size→okc (bt s j)
noncomputable def nameB (s:ByteArray):Bool:=B (NameP s)
theorem specName_l (s:ByteArray) (hs:(s.size:Int)≤9223372036854775807) (d:Nat):∀ i:Int,0≤i→(s.size:Int) - i≤d→Evt (fun k=>spec_l01Name.l0 k s i) (B (∀ j:Int,i≤j→j<s.size→okc (bt s j))):=by
 induction d with
 | zero =>
  intro i h0 hd
  apply Evt.succ
  simp only [spec_l01Name.l0]
  refine Evt.neg (by omega) ((Evt.pure true).same (B_true ?_).symm)
  intro j h1 h2
  omega
 | succ d ih =>
  intro i h0 hd
  apply Evt.succ
  simp only [spec_l01Name.l0]
  by_cases hlt:i<(s.size:Int)
  ·refine Evt.pos hlt (Evt.pos h0 ?_)
   have hw:wrap64 (i+1)=i+1:=w64 (by omega) (by omega)
   rw [hw]
   have yes:okc (bt s i)→Evt (fun k=>spec_l01Name.l0 k s (i+1)) (B (∀ j:Int,i≤j→j<s.size→okc (bt s j))):=fun hc =>
    (ih (i+1) (by omega) (by omega)).same (B_congr ⟨fun h j h1 h2=>by
     by_cases e:j=i
     ·rw [e];exact hc
     ·exact h j (by omega) h2,fun h j h1 h2=>h j (by omega) h2⟩)
   have no:¬ okc (bt s i)→Evt (fun _=>some false) (B (∀ j:Int,i≤j→j<s.size→okc (bt s j))):=fun hc =>
    (Evt.pure false).same (B_false (fun h=>hc (h i (Int.le_refl _) hlt))).symm
   have digit:Evt (fun k=>if bt s i≥48 then (if bt s i≤57 then spec_l01Name.l0 k s (i+1) else (if bt s i=45 then spec_l01Name.l0 k s (i+1) else some false)) else (if bt s i=45 then spec_l01Name.l0 k s (i+1) else some false)) (B (∀ j:Int,i≤j→j<s.size→okc (bt s j)))∨(65≤bt s i∧bt s i≤90):=by
    by_cases hg:65≤bt s i∧bt s i≤90
    ·exact .inr hg
    ·refine .inl (Evt.ite (fun h1=>Evt.ite (fun h2=>yes (.inr (.inl ⟨h1,h2⟩))) (fun h2=>Evt.ite (fun h3=>yes (.inr (.inr h3))) (fun h3=>no (fun hk=>?_)))) (fun h1=>Evt.ite (fun h3=>yes (.inr (.inr h3))) (fun h3=>no (fun hk=>?_))))
     ·rcases hk with hk|hk|hk
      ·exact hg hk
      ·omega
      ·exact h3 hk
     ·rcases hk with hk|hk|hk
      ·exact hg hk
      ·omega
      ·exact h3 hk
   refine Evt.ite (fun h1=>Evt.ite (fun h2=>yes (.inl ⟨h1,h2⟩)) (fun h2=>?_)) (fun h1=>?_)
   ·exact digit.resolve_right (fun h=>h2 h.2)
   ·exact digit.resolve_right (fun h=>h1 h.1)
  ·refine Evt.neg hlt ((Evt.pure true).same (B_true ?_).symm)
   intro j h1 h2
   omega
theorem specName_ev (s:ByteArray) (hs:(s.size:Int)≤9223372036854775807):Evt (fun k=>spec_l01Name.f k s) (nameB s):=by
 unfold spec_l01Name.f
 have bad:¬ NameP s→Evt (fun k=>spec_l01Name.j0 k s true) (nameB s):=fun h=>by
  apply Evt.succ
  simp only [spec_l01Name.j0]
  exact (Evt.pure false).same (B_false h).symm
 refine Evt.ite (fun h=>bad (fun hn=>by have:=hn.1;omega)) (fun h1=>Evt.ite (fun h=>bad (fun hn=>by have:=hn.2.1;omega)) (fun h2=>Evt.pos (by omega) (Evt.ite (fun h=>bad (fun hn=>by have:=hn.2.2.1.1;omega)) (fun h3=>?_))))
 by_cases h4:bt s 0>90
 ·rw [decide_eq_true h4]
  exact bad (fun hn=>by have:=hn.2.2.1.2;omega)
 ·rw [decide_eq_false h4]
  apply Evt.succ
  simp only [spec_l01Name.j0]
  refine (specName_l s hs s.size 0 (Int.le_refl _) (by omega)).same (B_congr ⟨fun h=>⟨by omega,by omega,⟨by omega,by omega⟩,h⟩,fun h=>h.2.2.2⟩)
theorem implName_l (s:ByteArray) (hs:(s.size:Int)≤9223372036854775807) (d:Nat):∀ i:Int,0≤i→(s.size:Int) - i≤d →
  Evt (fun k=>impl_isName.l0 k s (s.size:Int) i) (B ((∀ j:Int,i≤j→j<s.size→(65≤bt s j∧bt s j≤90)∨(j≠0∧okc (bt s j)))∧1≤(s.size:Int)∧(s.size:Int)≤12)):=by
 induction d with
 | zero =>
  intro i h0 hd
  apply Evt.succ
  simp only [impl_isName.l0]
  refine Evt.neg (by omega) (Evt.const ?_)
  rw [within_ev]
  exact congrArg some (B_congr ⟨fun h=>⟨fun j h1 h2=>by omega,h⟩,fun h=>h.2⟩)
 | succ d ih =>
  intro i h0 hd
  apply Evt.succ
  simp only [impl_isName.l0]
  by_cases hlt:i<(s.size:Int)
  ·refine Evt.pos hlt (Evt.pos h0 (Evt.pos hlt ?_))
   have hw:wrap64 (i+1)=i+1:=w64 (by omega) (by omega)
   rw [hw,isGreat_ev,isDigit_ev]
   have yes:((65≤bt s i∧bt s i≤90)∨(i≠0∧okc (bt s i)))→Evt (fun k=>impl_isName.l0 k s (s.size:Int) (i+1)) (B ((∀ j:Int,i≤j→j<s.size→(65≤bt s j∧bt s j≤90)∨(j≠0∧okc (bt s j)))∧1≤(s.size:Int)∧(s.size:Int)≤12)):=fun hc =>
    (ih (i+1) (by omega) (by omega)).same (B_congr ⟨fun h=>⟨fun j h1 h2=>by
     by_cases e:j=i
     ·rw [e];exact hc
     ·exact h.1 j (by omega) h2,h.2⟩,fun h=>⟨fun j h1 h2=>h.1 j (by omega) h2,h.2⟩⟩)
   have no:¬ ((65≤bt s i∧bt s i≤90)∨(i≠0∧okc (bt s i)))→Evt (fun _=>some false) (B ((∀ j:Int,i≤j→j<s.size→(65≤bt s j∧bt s j≤90)∨(j≠0∧okc (bt s j)))∧1≤(s.size:Int)∧(s.size:Int)≤12)):=fun hc =>
    (Evt.pure false).same (B_false (fun h=>hc (h.1 i (Int.le_refl _) hlt))).symm
   simp only [Option.bind_some]
   refine Evt.ite (fun h1=>yes (.inl (B_iff.1 h1))) (fun h1=>?_)
   have g1:¬ (65≤bt s i∧bt s i≤90):=fun h=>h1 (B_iff.2 h)
   refine Evt.ite (fun h2=>no (fun h=>h.elim g1 (fun h=>h.1 h2))) (fun h2=>Evt.ite (fun h3=>yes (.inr ⟨h2,.inr (.inl (B_iff.1 h3))⟩)) (fun h3=>Evt.ite (fun h4=>yes (.inr ⟨h2,.inr (.inr h4)⟩)) (fun h4=>no (fun h=>?_))))
   rcases h with h | ⟨_,h|h|h⟩
   ·exact g1 h
   ·exact g1 h
   ·exact h3 (B_iff.2 h)
   ·exact h4 h
  ·refine Evt.neg hlt (Evt.const ?_)
   rw [within_ev]
   exact congrArg some (B_congr ⟨fun h=>⟨fun j h1 h2=>by omega,h⟩,fun h=>h.2⟩)
theorem implName_ev (s:ByteArray) (hs:(s.size:Int)≤9223372036854775807):Evt (fun k=>impl_isName.f k s) (nameB s):=by
 unfold impl_isName.f
 refine (implName_l s hs s.size 0 (Int.le_refl _) (by omega)).same (B_congr ⟨fun h=>⟨h.2.1,h.2.2,?_,?_⟩,fun h=>⟨?_,h.1,h.2.1⟩⟩)
 ·rcases h.1 0 (Int.le_refl _) (by omega) with h|h
  ·exact h
  ·exact absurd rfl h.1
 ·intro j h1 h2
  rcases h.1 j h1 h2 with h|h
  ·exact .inl h
  ·exact h.2
 ·intro j h1 h2
  by_cases e:j=0
  ·rw [e];exact .inl h.2.2.1
  ·exact .inr ⟨e,h.2.2.2 j h1 h2⟩
end Go.Proofs.YtaememmnhmebcaaGreatDoor.QB
namespace Go.Proofs.YtaememmnhmebcaaGreatDoor.Num
def dig (c:UInt8):Prop:=48≤c.toNat∧c.toNat≤57
def val (acc:Nat):List UInt8→Nat
 | []=>acc
 | c :: r=>val (acc * 10+(c.toNat - 48)) r
theorem val_ge (l:List UInt8):∀ acc,acc≤val acc l:=by
 induction l with
 | nil=>intro acc;exact Nat.le_refl _
 | cons c r ih=>intro acc;exact Nat.le_trans (by omega) (ih _)
theorem val_snoc (l:List UInt8) (c:UInt8):∀ acc,val acc (l++[c])=val acc l * 10+(c.toNat - 48):=by
 induction l with
 | nil=>intro acc;rfl
 | cons a r ih=>intro acc;exact ih _
theorem parse_ok (l:List UInt8):∀ acc,(∀ c ∈ l,dig c)→val acc l≤1000000000000000000→Lib.parseUint10 acc l=.ok (val acc l):=by
 induction l with
 | nil=>intro acc _ _;rfl
 | cons c r ih =>
  intro acc hd hv
  have hc:=hd c (List.mem_cons_self ..)
  have hg:=val_ge r (acc * 10+(c.toNat - 48))
  have hv':val (acc * 10+(c.toNat - 48)) r≤1000000000000000000:=hv
  unfold Lib.parseUint10
  rw [if_pos (show 48≤c.toNat∧c.toNat≤57 from hc),if_neg (by omega),if_neg (by omega)]
  exact ih _ (fun x hx=>hd x (List.mem_cons_of_mem _ hx)) hv'
theorem parse_back (l:List UInt8):∀ acc u,Lib.parseUint10 acc l=.ok u→(∀ c ∈ l,dig c)∧u=val acc l:=by
 induction l with
 | nil =>
  intro acc u h
  simp only [Lib.parseUint10] at h
  injection h with h
  exact ⟨by simp,h.symm⟩
 | cons c r ih =>
  intro acc u h
  unfold Lib.parseUint10 at h
  by_cases hc:48≤c.toNat∧c.toNat≤57
  ·rw [if_pos hc] at h
   by_cases h1:1844674407370955162≤acc
   ·rw [if_pos h1] at h;cases h
   ·rw [if_neg h1] at h
    by_cases h2:18446744073709551616≤acc * 10+(c.toNat - 48)
    ·rw [if_pos h2] at h;cases h
    ·rw [if_neg h2] at h
     obtain ⟨g1,g2⟩:=ih _ _ h
     refine ⟨fun x hx=>?_,g2⟩
     rcases List.mem_cons.1 hx with rfl|hx
     ·exact hc
     ·exact g1 x hx
  ·rw [if_neg hc] at h;cases h
theorem byte_of (v:Nat) (h:v<10):(UInt8.ofNat (48+v)).toNat=48+v:=by
 have:v=0∨v=1∨v=2∨v=3∨v=4∨v=5∨v=6∨v=7∨v=8∨v=9:=by omega
 rcases this with rfl|rfl|rfl|rfl|rfl|rfl|rfl|rfl|rfl|rfl <;> rfl
theorem head_app {a b:List UInt8} (h:a≠[]):(a++b).head? = a.head?:=by
 cases a with
 | nil=>exact absurd rfl h
 | cons c r=>rfl
theorem dec_facts (u:Nat):(∀ c ∈ Lib.decDigits u,dig c)∧val 0 (Lib.decDigits u)=u∧Lib.decDigits u≠[]∧(0<u→(Lib.decDigits u).head? ≠ some 48):=by
 induction u using Nat.strongRecOn with
 | ind u ih =>
  rw [Lib.decDigits]
  by_cases g:u<10
  ·rw [dif_pos g]
   have hb:=byte_of u g
   refine ⟨fun c hc=>?_,?_,by simp,fun hp=>?_⟩
   ·rw [List.mem_singleton.1 hc]
    unfold dig
    omega
   ·show 0 * 10+((UInt8.ofNat (48+u)).toNat - 48)=u
    omega
   ·intro h
    have h2:UInt8.ofNat (48+u)=48:=by simpa using h
    have h3:=congrArg UInt8.toNat h2
    rw [hb] at h3
    have h4:(48:UInt8).toNat=48:=rfl
    omega
  ·rw [dif_neg g]
   obtain ⟨i1,i2,i3,i4⟩:=ih (u / 10) (by omega)
   have hb:=byte_of (u % 10) (by omega)
   refine ⟨fun c hc=>?_,?_,by simp,fun hp=>?_⟩
   ·rcases List.mem_append.1 hc with hc|hc
    ·exact i1 c hc
    ·rw [List.mem_singleton.1 hc]
     unfold dig
     omega
   ·rw [val_snoc,i2,hb]
    omega
   ·rw [head_app i3]
    exact i4 (by omega)
theorem val_pos (l:List UInt8):∀ c r,l=c :: r→dig c→c≠48→0<val 0 l:=by
 intro c r hl hc hn
 subst hl
 have h1:=val_ge r (0 * 10+(c.toNat - 48))
 have h2:c.toNat≠48:=fun h=>hn (UInt8.toNat_inj.1 h)
 have h3:val 0 (c :: r)=val (0 * 10+(c.toNat - 48)) r:=rfl
 unfold dig at hc
 omega
theorem dec_back (n:Nat):∀ l:List UInt8,l.length=n→l≠[]→(∀ c ∈ l,dig c)→(l.head? ≠ some 48∨l=[48])→Lib.decDigits (val 0 l)=l:=by
 induction n with
 | zero=>intro l hl hn;exact absurd (List.eq_nil_of_length_eq_zero hl) hn
 | succ n ih =>
  intro l hl hn hd hh
  obtain ⟨m,c,rfl⟩:∃ m c,l=m++[c]:=⟨l.dropLast,l.getLast hn,(List.dropLast_concat_getLast hn).symm⟩
  have hc:=hd c (by simp)
  have hcb:UInt8.ofNat (48+(c.toNat - 48))=c:=by
   unfold dig at hc
   rw [show 48+(c.toNat - 48)=c.toNat by omega]
   exact UInt8.ofNat_toNat
  rw [val_snoc]
  by_cases hm:m=[]
  ·subst hm
   have e:val 0 [] * 10+(c.toNat - 48)=c.toNat - 48:=by show 0 * 10+_=_;omega
   rw [e,Lib.decDigits,dif_pos (by unfold dig at hc;omega),hcb]
   rfl
  ·have hm48:m.head? ≠ some 48:=by
    rcases hh with h|h
    ·rwa [head_app hm] at h
    ·exfalso
     have:=congrArg List.length h
     exact hm (by simpa using this)
   have ih':=ih m (by simp at hl;exact hl) hm (fun x hx=>hd x (List.mem_append_left _ hx)) (.inl hm48)
   have hp:0<val 0 m:=by
    cases m with
    | nil=>exact absurd rfl hm
    | cons a r=>exact val_pos _ a r rfl (hd a (by simp)) (fun h=>hm48 (by rw [h];rfl))
   have hlt:c.toNat - 48<10:=by unfold dig at hc;omega
   rw [Lib.decDigits,dif_neg (by omega),show (val 0 m * 10+(c.toNat - 48)) / 10=val 0 m by omega,show (val 0 m * 10+(c.toNat - 48)) % 10=c.toNat - 48 by omega,ih',hcb]
def digs (t:List UInt8):List UInt8:=if t.head? = some 45 then t.tail else t
def isNum (t:List UInt8):Prop:=digs t≠[]∧(∀ c ∈ digs t,dig c)∧((digs t).head? ≠ some 48∨t=[48])
def valT (t:List UInt8):Int:=if t.head? = some 45 then -(val 0 (digs t):Int) else (val 0 (digs t):Int)
theorem num_itoa (t:List UInt8) (h:isNum t):Lib.itoa (valT t)=t:=by
 obtain ⟨h1,h2,h3⟩:=h
 unfold valT digs at *
 by_cases hn:t.head? = some 45
 ·rw [if_pos hn] at h1 h2 h3 ⊢
  rw [if_pos hn]
  cases t with
  | nil=>cases hn
  | cons a r =>
   have ha:a=45:=by simpa using hn
   subst ha
   have h4:r.head? ≠ some 48:=h3.resolve_right (by simp)
   have hb:=dec_back r.length r rfl h1 h2 (.inl h4)
   have hp:0<val 0 r:=by
    cases r with
    | nil=>exact absurd rfl h1
    | cons b q=>exact val_pos _ b q rfl (h2 b (by simp)) (fun h=>h4 (by rw [h];rfl))
   unfold Lib.itoa
   show (if (-(val 0 r:Int))<0 then 45 :: Lib.decDigits (-(val 0 r:Int)).natAbs else _)=45 :: r
   rw [if_pos (by omega),show (-(val 0 r:Int)).natAbs=val 0 r by omega,hb]
 ·rw [if_neg hn] at h1 h2 h3 ⊢
  rw [if_neg hn]
  have hb:=dec_back t.length t rfl h1 h2 (h3.imp id id)
  unfold Lib.itoa
  rw [if_neg (by omega),show ((val 0 t:Int)).toNat=val 0 t by omega,hb]
theorem itoa_num (t:List UInt8) (hd:∀ c ∈ digs t,dig c) (h:Lib.itoa (valT t)=t):isNum t:=by
 unfold isNum
 unfold valT digs at *
 by_cases hn:t.head? = some 45
 ·rw [if_pos hn] at hd h ⊢
  rw [if_pos hn] at h
  cases t with
  | nil=>cases hn
  | cons a r =>
   have ha:a=45:=by simpa using hn
   subst ha
   have h':Lib.itoa (-(val 0 r:Int))=45 :: r:=h
   unfold Lib.itoa at h'
   by_cases hz:val 0 r=0
   ·rw [hz,if_neg (by omega)] at h'
    have e:(-((0:Nat):Int)).toNat=0:=rfl
    rw [e,Lib.decDigits,dif_pos (by decide)] at h'
    have:=congrArg List.head? h'
    simp at this
   ·rw [if_pos (by omega),show (-(val 0 r:Int)).natAbs=val 0 r by omega] at h'
    have hr:Lib.decDigits (val 0 r)=r:=by simpa using h'
    obtain ⟨_,_,d3,d4⟩:=dec_facts (val 0 r)
    rw [hr] at d3 d4
    exact ⟨d3,hd,.inl (d4 (by omega))⟩
 ·rw [if_neg hn] at hd h ⊢
  rw [if_neg hn] at h
  unfold Lib.itoa at h
  rw [if_neg (by omega),show ((val 0 t:Int)).toNat=val 0 t by omega] at h
  obtain ⟨_,_,d3,d4⟩:=dec_facts (val 0 t)
  rw [h] at d3 d4
  refine ⟨d3,hd,?_⟩
  by_cases hz:val 0 t=0
  ·rw [hz,Lib.decDigits,dif_pos (by decide)] at h
   exact .inr h.symm
  ·exact .inl (d4 (by omega))
theorem num_parse (t:List UInt8) (h:isNum t) (hv:val 0 (digs t)≤1000000000000000000):Lib.atoiAll t=.ok (valT t):=by
 obtain ⟨h1,h2,h3⟩:=h
 unfold valT digs at *
 cases t with
 | nil=>simp at h1
 | cons a r =>
  by_cases ha:a=45
  ·subst ha
   have hn:((45:UInt8) :: r).head? = some 45:=rfl
   rw [if_pos hn] at h1 h2 hv ⊢
   rw [if_pos hn]
   have hr:r≠[]:=h1
   have hp:=parse_ok r 0 h2 hv
   have hv':val 0 r≤1000000000000000000:=hv
   unfold Lib.atoiAll Lib.parseMag
   have e45:(45:UInt8).toNat=45:=rfl
   simp only [e45,or_true,if_true,if_neg hr,hp,not_true,false_and,if_false,true_and]
   rw [if_neg (by omega)]
   rfl
  ·have hn:¬ (a :: r).head? = some 45:=by simpa using ha
   rw [if_neg hn] at h1 h2 hv ⊢
   rw [if_neg hn]
   have hda:=h2 a (by simp)
   unfold dig at hda
   have hp:=parse_ok (a :: r) 0 h2 hv
   unfold Lib.atoiAll Lib.parseMag
   have e2:¬ a.toNat=45:=by omega
   have e5:¬ a.toNat=43:=by omega
   have e4:¬ (a :: r)=[]:=by simp
   simp only [e5,e2,or_self,if_false,if_neg e4,hp,not_false_eq_true,true_and,false_and]
   rw [if_neg (by omega)]
theorem parse_num (t:List UInt8) (h:isNum t) (v:Int) (hp:Lib.atoiAll t=.ok v):v=valT t:=by
 obtain ⟨h1,h2,h3⟩:=h
 unfold valT digs at *
 cases t with
 | nil=>simp at h1
 | cons a r =>
  unfold Lib.atoiAll Lib.parseMag at hp
  by_cases ha:a=45
  ·subst ha
   have hn:((45:UInt8) :: r).head? = some 45:=rfl
   rw [if_pos hn] at h1 h2 ⊢
   rw [if_pos hn]
   have e45:(45:UInt8).toNat=45:=rfl
   have hr:r≠[]:=h1
   simp only [e45,or_true,if_true,if_neg hr,not_true,false_and,if_false,true_and] at hp
   cases hq:Lib.parseUint10 0 r with
   | «syntax»=>rw [hq] at hp;cases hp
   | range=>rw [hq] at hp;cases hp
   | ok u =>
    rw [hq] at hp
    simp only at hp
    obtain ⟨_,rfl⟩:=parse_back r 0 u hq
    by_cases hb:9223372036854775808<val 0 r
    ·rw [if_pos hb] at hp;cases hp
    ·rw [if_neg hb] at hp
     injection hp with hp
     exact hp.symm
  ·have hn:¬ (a :: r).head? = some 45:=by simpa using ha
   rw [if_neg hn] at h1 h2 ⊢
   rw [if_neg hn]
   have hda:=h2 a (by simp)
   unfold dig at hda
   have e2:¬ a.toNat=45:=by omega
   have e5:¬ a.toNat=43:=by omega
   have e4:¬ (a :: r)=[]:=by simp
   simp only [e5,e2,or_self,if_false,if_neg e4,not_false_eq_true,true_and,false_and] at hp
   cases hq:Lib.parseUint10 0 (a :: r) with
   | «syntax»=>rw [hq] at hp;cases hp
   | range=>rw [hq] at hp;cases hp
   | ok u =>
    rw [hq] at hp
    simp only at hp
    obtain ⟨_,rfl⟩:=parse_back (a :: r) 0 u hq
    by_cases hb:9223372036854775808≤val 0 (a :: r)
    ·rw [if_pos hb] at hp;cases hp
    ·rw [if_neg hb] at hp
     injection hp with hp
     exact hp.symm
theorem dec_len (d:Nat):∀ u:Nat,0<d→u<10 ^ d→(Lib.decDigits u).length≤d:=by
 induction d with
 | zero=>intro u h;omega
 | succ d ih =>
  intro u _ hu
  rw [Lib.decDigits]
  by_cases g:u<10
  ·rw [dif_pos g];simp
  ·rw [dif_neg g,List.length_append,List.length_singleton]
   have h1:u / 10<10 ^ d:=by rw [Nat.pow_succ] at hu;omega
   have h2:0<d:=by
    rcases Nat.eq_zero_or_pos d with z|z
    ·subst z;simp at h1;omega
    ·exact z
   have:=ih (u / 10) h2 h1
   omega
theorem num_len (t:List UInt8) (h:isNum t) (hv:val 0 (digs t)<1000000000000):(digs t).length≤12:=by
 obtain ⟨h1,h2,h3⟩:=h
 have h4:(digs t).head? ≠ some 48∨digs t=[48]:=h3.imp id (fun h=>by subst h;rfl)
 rw [← dec_back _ _ rfl h1 h2 h4]
 exact dec_len 12 _ (by decide) (by omega)
end Go.Proofs.YtaememmnhmebcaaGreatDoor.Num
namespace Go.Proofs.YtaememmnhmebcaaGreatDoor.QB
open Go.RowKit Go.Proofs.YtaememmnhmebcaaGreatDoorW.PrintWords Go.Proofs.YtaememmnhmebcaaGreatDoor.Ev0 Go.Proofs.YtaememmnhmebcaaGreatDoor.Num
theorem bt_get (s:ByteArray) (i:Int) (h0:0≤i) (h:i<(s.size:Int)):∃ c,s.data.toList[i.toNat]? = some c∧bt s i=(c.toNat:Int):=by
 have h':i.toNat<s.size:=by omega
 have h2:i.toNat<s.data.toList.length:=by rw [data_length];exact h'
 refine ⟨s.data.toList[i.toNat],List.getElem?_eq_getElem h2,?_⟩
 rw [← bt_at s i h']
 simp only [Array.getElem_toList]
 rfl
theorem all_bytes (s:ByteArray) (p:Int→Prop):(∀ i,0≤i→i<(s.size:Int)→p (bt s i)) ↔ ∀ c ∈ s.data.toList,p (c.toNat:Int):=by
 constructor
 ·intro h c hc
  obtain ⟨j,hj,rfl⟩:=List.mem_iff_getElem.1 hc
  have hj':j<s.size:=by rw [← data_length];exact hj
  obtain ⟨c',h1,h2⟩:=bt_get s (j:Int) (by omega) (by omega)
  rw [Int.toNat_natCast,List.getElem?_eq_getElem hj] at h1
  rw [Option.some.inj h1,← h2]
  exact h _ (by omega) (by omega)
 ·intro h i h0 h1
  obtain ⟨c,h2,h3⟩:=bt_get s i h0 h1
  rw [h3]
  exact h c (List.mem_of_getElem? h2)
theorem head_bt (s:ByteArray) (h:0<s.size) (b:UInt8):s.data.toList.head? = some b ↔ bt s 0=(b.toNat:Int):=by
 obtain ⟨c,h1,h2⟩:=bt_get s 0 (by omega) (by omega)
 rw [h2,List.head?_eq_getElem?]
 rw [show ((0:Int).toNat)=0 from rfl] at h1
 rw [h1]
 constructor
 ·intro e;rw [Option.some.inj e]
 ·intro e
  congr 1
  exact UInt8.toNat_inj.1 (by omega)
theorem tail_extract (s:ByteArray):(s.extract 1 s.size).data.toList=s.data.toList.tail:=by
 cases s with|mk x =>
 cases x with|mk l =>
 cases l with
 | nil=>simp [ByteArray.size]
 | cons a r=>simp [ByteArray.size]
theorem str_of (s:ByteArray) (l:List UInt8):s.toList=l ↔ s.data.toList=l:=by rw [Lib.toList_data]
theorem size_nil (s:ByteArray):s.data.toList=[] ↔ s.size=0:=by
 rw [← data_length]
 exact List.eq_nil_iff_length_eq_zero
theorem dig_int (c:UInt8):dig c ↔ 48≤(c.toNat:Int)∧(c.toNat:Int)≤57:=by unfold dig;omega
theorem digs_some (s:ByteArray):(s.size≠0∧bt s 0=45→digs s.data.toList=(s.extract 1 s.size).data.toList)∧(¬ (s.size≠0∧bt s 0=45)→digs s.data.toList=s.data.toList):=by
 unfold digs
 constructor
 ·rintro ⟨h0,h⟩
  rw [if_pos ((head_bt s (by omega) 45).2 h),tail_extract]
 ·intro h
  rw [if_neg]
  intro e
  have h0:s.size≠0:=fun z=>by rw [(size_nil s).2 z] at e;cases e
  exact h ⟨h0,(head_bt s (by omega) 45).1 e⟩
theorem implNum_l (s d:ByteArray) (hd:(d.size:Int)≤9223372036854775807) (hdig:digs s.data.toList=d.data.toList) :
  Evt (fun k=>impl_isNumber.l0 k s d (d.size:Int) 0) (B (isNum s.data.toList)):=by
 refine (right_loop (d.size:Int) (by omega) (fun i=>48≤bt d i∧bt d i≤57) (d.size≠0∧(bt d 0≠48∨s.data.toList=[48])) (fun k i=>impl_isNumber.l0 k s d (d.size:Int) i) ?_ ?_).same (B_congr ?_)
 ·intro i h0 hlt
  have hw:wrap64 (i+1)=i+1:=w64 (by omega) (by omega)
  simp only [impl_isNumber.l0,isDigit_ev,Option.bind_some,hw]
  exact ⟨fun hk r hr=>Evt.pos hlt (Evt.pos h0 (Evt.pos hlt (Evt.pos (B_true hk) hr))),fun hk=>Evt.pos hlt (Evt.pos h0 (Evt.pos hlt (Evt.neg (by rw [B_false hk];decide) (Evt.pure _))))⟩
 ·simp only [impl_isNumber.l0]
  refine Evt.neg (by omega) (Evt.ite (fun h=>(Evt.pure _).same (B_false (fun x=>x.1 ((size_nil d).1 ((str_of d _).1 h)))).symm) (fun h=>?_))
  have hz:d.size≠0:=fun z=>h ((str_of d _).2 ((size_nil d).2 z))
  refine Evt.pos (by omega) (Evt.ite (fun h1=>(Evt.pure _).same ?_) (fun h1=>(Evt.pure _).same (B_true ⟨hz,.inl h1⟩).symm))
  refine bool_B ?_
  rw [beq_iff_eq,str_of]
  exact ⟨fun e=>⟨hz,.inr e⟩,fun e=>e.2.resolve_left (fun x=>x h1)⟩
 ·unfold isNum
  rw [hdig]
  constructor
  ·rintro ⟨h1,h2,h3⟩
   refine ⟨fun e=>h2 ((size_nil d).1 e),fun c hc=>(dig_int c).2 ((all_bytes d (fun x=>48≤x∧x≤57)).1 h1 c hc),h3.imp (fun h e=>h ((head_bt d (by omega) 48).1 e)) id⟩
  ·rintro ⟨h1,h2,h3⟩
   have hz:d.size≠0:=fun z=>h1 ((size_nil d).2 z)
   exact ⟨(all_bytes d (fun x=>48≤x∧x≤57)).2 (fun c hc=>(dig_int c).1 (h2 c hc)),hz,h3.imp (fun h e=>h ((head_bt d (by omega) 48).2 e)) id⟩
theorem extract_size (s:ByteArray):((s.extract 1 s.size).size:Int)≤s.size:=by
 rw [← data_length,tail_extract,List.length_tail,data_length]
 omega
theorem implNum_ev (s:ByteArray) (hs:(s.size:Int)≤9223372036854775807):Evt (fun k=>impl_isNumber.f k s) (B (isNum s.data.toList)):=by
 unfold impl_isNumber.f
 have he:=extract_size s
 have no:¬ (s.size≠0∧bt s 0=45)→Evt (fun k=>impl_isNumber.j0 k s s false) (B (isNum s.data.toList)):=fun h=>by
  apply Evt.succ
  simp only [impl_isNumber.j0]
  refine Evt.neg (by decide) ?_
  apply Evt.succ
  simp only [impl_isNumber.j1]
  exact implNum_l s s hs ((digs_some s).2 h)
 refine Evt.ite (fun h=>no (fun x=>x.1 ((size_nil s).1 ((str_of s _).1 h)))) (fun h=>?_)
 have hz:s.size≠0:=fun z=>h ((str_of s _).2 ((size_nil s).2 z))
 refine Evt.pos (by omega) ?_
 by_cases h1:bt s 0=45
 ·rw [show (bt s 0 == 45)=true by rw [h1];rfl]
  apply Evt.succ
  simp only [impl_isNumber.j0]
  refine Evt.pos (by simp) (Evt.pos (by omega) ?_)
  apply Evt.succ
  simp only [impl_isNumber.j1]
  exact implNum_l s _ (by omega) ((digs_some s).1 ⟨hz,h1⟩)
 ·rw [show (bt s 0 == 45)=false by simpa using h1]
  exact no (fun x=>h1 x.2)
theorem val_lt (l:List UInt8):∀ acc,(∀ c ∈ l,dig c)→val acc l+1≤(acc+1) * 10 ^ l.length:=by
 induction l with
 | nil =>
  intro acc _
  show acc+1≤(acc+1) * 1
  omega
 | cons c r ih =>
  intro acc h
  have hc:=h c (List.mem_cons_self ..)
  have:=ih (acc * 10+(c.toNat - 48)) (fun x hx=>h x (List.mem_cons_of_mem _ hx))
  unfold dig at hc
  have e:val acc (c :: r)=val (acc * 10+(c.toNat - 48)) r:=rfl
  rw [e,List.length_cons,Nat.pow_succ]
  refine Nat.le_trans this ?_
  have h2:acc * 10+(c.toNat - 48)+1≤(acc+1) * 10:=by omega
  calc (acc * 10+(c.toNat - 48)+1) * 10 ^ r.length≤((acc+1) * 10) * 10 ^ r.length:=Nat.mul_le_mul_right _ h2
   _=(acc+1) * (10 ^ r.length * 10):=by rw [Nat.mul_assoc,Nat.mul_comm 10]
theorem val_small (l:List UInt8) (h:∀ c ∈ l,dig c) (hl:l.length≤12):val 0 l<1000000000000:=by
 have h1:=val_lt l 0 h
 have h2:10 ^ l.length≤10 ^ 12:=Nat.pow_le_pow_right (by decide) hl
 omega
theorem specNum_l (s d:ByteArray) (neg:Bool) (hd:d.size≤12) (post:List UInt8):∀ pre,d.data.toList=pre++post→(∀ c ∈ pre,dig c) →
  ((∀ c ∈ post,dig c)→∀ r,Evt (fun k=>if neg=true then ((spec_l01Dec.f k (wrap64 (-(val 0 d.data.toList:Int)))).bind fun t139=>(some (wrap64 (-(val 0 d.data.toList:Int)),(t139.toList == s.toList)))) else ((spec_l01Dec.f k (val 0 d.data.toList:Int)).bind fun t140=>(some ((val 0 d.data.toList:Int),(t140.toList == s.toList))))) r→Evt (fun k=>spec_l01Num.l0 k s neg d (val 0 pre:Int) (pre.length:Int)) r) ∧
  (¬ (∀ c ∈ post,dig c)→Evt (fun k=>spec_l01Num.l0 k s neg d (val 0 pre:Int) (pre.length:Int)) (0,false)):=by
 induction post with
 | nil =>
  intro pre hp hpre
  have hp':d.data.toList=pre:=by simpa using hp
  have hl:d.size=pre.length:=by rw [← data_length,hp']
  refine ⟨fun _ r hr=>?_,fun h=>absurd (by simp) h⟩
  apply Evt.succ
  simp only [spec_l01Num.l0]
  refine Evt.neg (by omega) ?_
  rw [hp'] at hr
  exact hr
 | cons c post ih =>
  intro pre hp hpre
  have hl:d.size=pre.length+(post.length+1):=by rw [← data_length,hp];simp
  have hlt:(pre.length:Int)<(d.size:Int):=by omega
  obtain ⟨c',h1,h2⟩:=bt_get d (pre.length:Int) (by omega) hlt
  have hc:c'=c:=by
   rw [hp,Int.toNat_natCast] at h1
   simpa using h1.symm
  subst hc
  have go:dig c'→∀ r,Evt (fun k=>spec_l01Num.l0 k s neg d (val 0 (pre++[c']):Int) ((pre++[c']).length:Int)) r→Evt (fun k=>spec_l01Num.l0 k s neg d (val 0 pre:Int) (pre.length:Int)) r:=fun hg r hr=>by
   have hs:=val_small pre hpre (by omega)
   have hg':=hg
   unfold dig at hg'
   apply Evt.succ
   simp only [spec_l01Num.l0,h2]
   refine Evt.pos hlt (Evt.pos (by omega) (Evt.neg (by omega) (Evt.neg (by omega) ?_)))
   have e1:wrap64 (wrap64 (10 * (val 0 pre:Int))+(((c'.toNat:Int) - 48) % 256))=(val 0 (pre++[c']):Int):=by
    rw [val_snoc,w64 (x:=10 * (val 0 pre:Int)) (by omega) (by omega),w64 (by omega) (by omega)]
    omega
   have e2:wrap64 ((pre.length:Int)+1)=((pre++[c']).length:Int):=by
    rw [w64 (by omega) (by omega)]
    simp
   rw [e1,e2]
   exact hr
  refine ⟨fun h r hr=>?_,fun h=>?_⟩
  ·have hg:=h c' (List.mem_cons_self ..)
   exact go hg r ((ih (pre++[c']) (by rw [hp];simp) (fun x hx=>(List.mem_append.1 hx).elim (hpre x) (fun y=>by rw [List.mem_singleton.1 y];exact hg))).1 (fun x hx=>h x (List.mem_cons_of_mem _ hx)) r hr)
  ·by_cases hg:dig c'
   ·exact go hg _ ((ih (pre++[c']) (by rw [hp];simp) (fun x hx=>(List.mem_append.1 hx).elim (hpre x) (fun y=>by rw [List.mem_singleton.1 y];exact hg))).2 (fun x=>h (fun y hy=>(List.mem_cons.1 hy).elim (fun e=>by rw [e];exact hg) (x y))))
   ·apply Evt.succ
    simp only [spec_l01Num.l0,h2]
    refine Evt.pos hlt (Evt.pos (by omega) ?_)
    by_cases g:(c'.toNat:Int)<48
    ·exact Evt.pos g (Evt.pure _)
    ·refine Evt.neg g (Evt.pos ?_ (Evt.pure _))
     rw [dig_int] at hg
     omega
theorem l01Num_ev (s:ByteArray) (hs:(s.size:Int)≤9223372036854775807):∃ v,Evt (fun k=>spec_l01Num.f k s) (v,B (isNum s.data.toList∧(digs s.data.toList).length≤12))∧(isNum s.data.toList→(digs s.data.toList).length≤12→v=valT s.data.toList):=by
 unfold spec_l01Num.f
 have core:∀ (neg:Bool) (d:ByteArray),digs s.data.toList=d.data.toList→(neg=true ↔ s.data.toList.head? = some 45) →
   ∃ v,Evt (fun k=>spec_l01Num.j1 k s neg d) (v,B (isNum s.data.toList∧(digs s.data.toList).length≤12))∧(isNum s.data.toList→(digs s.data.toList).length≤12→v=valT s.data.toList):=fun neg d hdig hneg=>by
  have hdl:(digs s.data.toList).length=d.size:=by rw [hdig,data_length]
  by_cases h1:d.size<1
  ·refine ⟨0,?_,fun h=>absurd ?_ h.1⟩
   ·apply Evt.succ
    simp only [spec_l01Num.j1]
    refine Evt.pos (by omega) ?_
    apply Evt.succ
    simp only [spec_l01Num.j2]
    refine Evt.pos (by simp) ((Evt.pure _).same (congrArg _ (B_false (fun h=>h.1.1 ?_)).symm))
    rw [hdig];exact (size_nil d).2 (by omega)
   ·rw [hdig];exact (size_nil d).2 (by omega)
  ·by_cases h2:12<d.size
   ·refine ⟨0,?_,fun _ h=>absurd h (by omega)⟩
    apply Evt.succ
    simp only [spec_l01Num.j1]
    refine Evt.neg (by omega) ?_
    rw [decide_eq_true (show (d.size:Int)>12 by omega)]
    apply Evt.succ
    simp only [spec_l01Num.j2]
    exact Evt.pos (by simp) ((Evt.pure _).same (congrArg _ (B_false (fun h=>by have:=h.2;omega)).symm))
   ·have head:∀ r,Evt (fun k=>spec_l01Num.l0 k s neg d 0 0) r→Evt (fun k=>spec_l01Num.j1 k s neg d) r:=fun r hr=>by
     apply Evt.succ
     simp only [spec_l01Num.j1]
     refine Evt.neg (by omega) ?_
     rw [decide_eq_false (show ¬ (d.size:Int)>12 by omega)]
     apply Evt.succ
     simp only [spec_l01Num.j2]
     exact Evt.neg (by decide) hr
    obtain ⟨l1,l2⟩:=specNum_l s d neg (by omega) d.data.toList [] rfl (by simp)
    by_cases hd:∀ c ∈ d.data.toList,dig c
    ·have hv:=val_small d.data.toList hd (by rw [data_length];omega)
     have hvT:valT s.data.toList=if neg=true then -(val 0 d.data.toList:Int) else (val 0 d.data.toList:Int):=by
      unfold valT
      rw [hdig]
      by_cases hn:neg=true
      ·rw [if_pos (hneg.1 hn),if_pos hn]
      ·rw [if_neg (fun e=>hn (hneg.2 e)),if_neg hn]
     have hB:∀ x:List UInt8,x=Lib.itoa (valT s.data.toList)→((bs8 x).toList == s.toList)=B (isNum s.data.toList∧(digs s.data.toList).length≤12):=fun x hx=>by
      refine bool_B ?_
      rw [beq_iff_eq,Lib.toList_data,Lib.toList_data,show (bs8 x).data.toList=x by simp [bs8],hx]
      exact ⟨fun e=>⟨itoa_num _ (by rw [hdig];exact hd) e,by omega⟩,fun e=>num_itoa _ e.1⟩
     refine ⟨valT s.data.toList,head _ (l1 hd _ ?_),fun _ _=>rfl⟩
     cases neg with
     | true =>
      rw [if_pos rfl] at hvT
      refine Evt.pos (by simp) ?_
      rw [w64 (by omega) (by omega)]
      refine Evt.bind (l01Dec_ev _ (by omega) (by omega)) ((Evt.pure _).same ?_)
      rw [hB _ (by rw [hvT]),hvT]
     | false =>
      rw [if_neg (by decide)] at hvT
      refine Evt.neg (by decide) (Evt.bind (l01Dec_ev _ (by omega) (by omega)) ((Evt.pure _).same ?_))
      rw [hB _ (by rw [hvT]),hvT]
    ·exact ⟨0,head _ ((l2 hd).same (congrArg _ (B_false (fun h=>hd (by have:=h.1.2.1;rwa [hdig] at this))).symm)),fun h=>absurd (by have:=h.2.1;rwa [hdig] at this) hd⟩
 by_cases hz:s.size=0
 ·obtain ⟨v,h1,h2⟩:=core false s ((digs_some s).2 (fun x=>x.1 hz)) ⟨fun e=>(by cases e),fun e=>by rw [(size_nil s).2 hz] at e;cases e⟩
  refine ⟨v,Evt.neg (by omega) ?_,h2⟩
  apply Evt.succ
  simp only [spec_l01Num.j0]
  exact Evt.neg (by decide) h1
 ·by_cases h0:bt s 0=45
  ·obtain ⟨v,h1,h2⟩:=core true _ ((digs_some s).1 ⟨hz,h0⟩) ⟨fun _=>(head_bt s (by omega) 45).2 h0,fun _=>rfl⟩
   refine ⟨v,Evt.pos (by omega) (Evt.pos (by omega) ?_),h2⟩
   rw [show (bt s 0 == 45)=true by rw [h0];rfl]
   apply Evt.succ
   simp only [spec_l01Num.j0]
   exact Evt.pos (by simp) (Evt.pos (by omega) h1)
  ·obtain ⟨v,h1,h2⟩:=core false s ((digs_some s).2 (fun x=>h0 x.2)) ⟨fun e=>(by cases e),fun e=>absurd ((head_bt s (by omega) 45).1 e) h0⟩
   refine ⟨v,Evt.pos (by omega) (Evt.pos (by omega) ?_),h2⟩
   rw [show (bt s 0 == 45)=false by simpa using h0]
   apply Evt.succ
   simp only [spec_l01Num.j0]
   exact Evt.neg (by decide) h1
theorem numberIn_ev (s:ByteArray) (hs:s.size≤281474976710656) (lo hi:Int) (h0 : -1000000000≤lo) (h1:hi≤1000000000) :
  ∃ v,Evt (fun k=>impl_numberIn.f k s lo hi) (v,B (isNum s.data.toList∧lo≤valT s.data.toList∧valT s.data.toList≤hi))∧(isNum s.data.toList∧lo≤valT s.data.toList∧valT s.data.toList≤hi→v=valT s.data.toList):=by
 unfold impl_numberIn.f
 rw [Lib.parseIntB_64]
 have small:isNum s.data.toList→lo≤valT s.data.toList→valT s.data.toList≤hi→Lib.atoiAll s.data.toList=.ok (valT s.data.toList):=fun h g0 g1=>by
  refine num_parse _ h ?_
  unfold valT at g0 g1
  split at g0 <;> rename_i e
  ·rw [if_pos e] at g1;omega
  ·rw [if_neg e] at g1;omega
 cases ha:Lib.atoiAll s.data.toList with
 | ok v =>
  refine ⟨v,Evt.pos hs (Evt.bind (implNum_ev s (by omega)) ?_),fun h=>parse_num _ h.1 v ha⟩
  by_cases hn:isNum s.data.toList
  ·have hv:=parse_num _ hn v ha
   refine Evt.pos (B_true hn) ?_
   rw [within_ev,hv]
   exact (Evt.pure _).same (congrArg _ (B_congr ⟨fun h=>⟨hn,h⟩,fun h=>h.2⟩))
  ·exact Evt.neg (by rw [B_false hn];decide) ((Evt.pure _).same (congrArg _ (B_false (fun h=>hn h.1)).symm))
 | «syntax»=>exact ⟨0,Evt.pos hs ((Evt.pure _).same (congrArg _ (B_false (fun h=>by rw [small h.1 h.2.1 h.2.2] at ha;cases ha)).symm)),fun h=>by rw [small h.1 h.2.1 h.2.2] at ha;cases ha⟩
 | range=>exact ⟨_,Evt.pos hs ((Evt.pure _).same (congrArg _ (B_false (fun h=>by rw [small h.1 h.2.1 h.2.2] at ha;cases ha)).symm)),fun h=>by rw [small h.1 h.2.1 h.2.2] at ha;cases ha⟩
end Go.Proofs.YtaememmnhmebcaaGreatDoor.QB
namespace Go.Proofs.YtaememmnhmebcaaGreatDoor.QB
open Go.RowKit Go.Proofs.YtaememmnhmebcaaGreatDoorW.PrintWords Go.Proofs.YtaememmnhmebcaaGreatDoor.Ev0
def okT (l:List ByteArray):Prop:=l.length≤9223372036854775807∧∀ x ∈ l,x.size≤9223372036854775807
def fewT (l:List ByteArray):Prop:=l.length≤1048576∧∀ x ∈ l,x.size≤1048576
theorem rdT_mem (l:List ByteArray) (i:Int) (h0:0≤i) (h:i<(l.length:Int)):rdOf ByteArray.empty l i ∈ l:=by
 unfold rdOf
 rw [getD_at l _ _ (by omega)]
 exact List.getElem_mem _
theorem all_at {α:Type} (l:List α) (z:α) (p:α→Prop) (h:∀ i:Int,0≤i→i<(l.length:Int)→p (l.getD i.toNat z)):∀ x ∈ l,p x:=by
 intro x hx
 obtain ⟨q,hq,rfl⟩:=List.mem_iff_getElem.1 hx
 have:=h (q:Int) (by omega) (by omega)
 rw [Int.toNat_natCast,getD_at l z _ hq] at this
 exact this
theorem szT_ev (l:List ByteArray) (hl:okT l) (left:Int) (h0:0≤left) (h1:left≤1048576):SzR (fun k=>laws_szStringS.f k l left) left (fewT l):=by
 have key:=sz_loop l.length hl.1 (fun i=>(rdOf ByteArray.empty l i).size≤1048576) (fun k=>laws_szStringS.f k l left) (fun k s i=>laws_szStringS.l0 k l s i) left h0 h1 (fun k=>rfl) ?_ ?_
 ·obtain ⟨t,ht,h⟩:=key
  exact ⟨t,ht,h.imp id (fun ⟨g0,g1,g2,g3⟩=>⟨g0,g1,g2,all_at l ByteArray.empty _ g3⟩)⟩
 ·intro s i h0 hlt hs0 hs1
  have hw:wrap64 (i+1)=i+1:=w64 (by omega) (by have:=hl.1;omega)
  have hk:=hl.2 _ (rdT_mem l i h0 hlt)
  simp only [laws_szStringS.l0,hw]
  rw [wsub hs0 hs1 (by omega) (by omega)]
  by_cases g:s - ((rdOf ByteArray.empty l i).size:Int)<0
  ·exact .inl ⟨-1,by decide,Evt.pos hlt (Evt.pos h0 (Evt.pos g (Evt.pure _)))⟩
  ·exact .inr ⟨_,by omega,by omega,by omega,fun r hr=>Evt.pos hlt (Evt.pos h0 (Evt.neg g hr))⟩
 ·intro s i hi
  simp only [laws_szStringS.l0]
  exact Evt.neg (by omega) (Evt.pure _)
theorem toT_ev (l:List ByteArray) (hl:l.length≤1048576):Evt (fun k=>laws_toStringS.f k l) l:=by
 unfold laws_toStringS.f
 refine Evt.pos (by omega) (Evt.pos (by omega) ?_)
 rw [Int.toNat_natCast]
 refine (fill_loop l ByteArray.empty (⟨#[]⟩:ByteArray) id (fun k acc i=>laws_toStringS.l0 k l acc i) ?_ ?_).same (List.map_id l)
 ·intro acc i h0 hlt ha r hr
  have hw:wrap64 (i+1)=i+1:=w64 (by omega) (by omega)
  simp only [laws_toStringS.l0,hw]
  exact Evt.pos hlt (Evt.pos h0 (Evt.pos (by omega) hr))
 ·intro acc i hi
  simp only [laws_toStringS.l0]
  exact Evt.neg (by omega) (Evt.pure _)
def fewI (l:List S77):Prop:=l.length≤1048576∧∀ x ∈ l,fewT x.f0
theorem fewI_at {l:List S77} (h:fewI l) (i:Int) (h0:0≤i) (hlt:i<(l.length:Int)):fewT (rd_T77 l i).f0:=by
 unfold rd_T77
 rw [getD_at l _ _ (by omega)]
 exact h.2 _ (List.getElem_mem _)
theorem eqS_refl (l:List ByteArray) (hl:l.length≤9000000):Evt (fun k=>laws_eqStringS.f k l l) true:=by
 unfold laws_eqStringS.f
 refine Evt.pos rfl (all_loop (l.length:Int) (by omega) (fun k i=>laws_eqStringS.l0 k l l i) ?_ ?_)
 ·intro i h0 hlt ih
  have hw:wrap64 (i+1)=i+1:=w64 (by omega) (by omega)
  simp only [laws_eqStringS.l0,if_true,hw]
  exact Evt.pos hlt (Evt.pos h0 (Evt.pos hlt ih))
 ·simp only [laws_eqStringS.l0]
  exact Evt.neg (by omega) (Evt.pure _)
theorem eqE_refl (l:List S77) (hl:fewI l):Evt (fun k=>laws_eqElementS.f k l l) true:=by
 have hn:=hl.1
 unfold laws_eqElementS.f
 refine Evt.pos rfl (all_loop (l.length:Int) (by omega) (fun k i=>laws_eqElementS.l0 k l l i) ?_ ?_)
 ·intro i h0 hlt ih
  have hw:wrap64 (i+1)=i+1:=w64 (by omega) (by omega)
  have hk:=(fewI_at hl i h0 hlt).1
  simp only [laws_eqElementS.l0,laws_eqElement.f,hw]
  exact Evt.pos hlt (Evt.pos h0 (Evt.pos hlt (Evt.bind (Evt.bind (eqS_refl _ (by omega)) (Evt.pos (by simp) (Evt.pure true))) (Evt.pos (by simp) ih))))
 ·simp only [laws_eqElementS.l0]
  exact Evt.neg (by omega) (Evt.pure _)
theorem eqSeg_refl (a:ByteArray) (l:List S77) (hl:fewI l):Evt (fun k=>laws_eqSegment.f k a l a l) true:=by
 unfold laws_eqSegment.f
 exact Evt.pos rfl (Evt.bind (eqE_refl l hl) (Evt.pos (by simp) (Evt.pure true)))
theorem longText_ev (l:List ByteArray) (hl:l.length≤1000):Evt (fun k=>impl_longText.f k l) (B (∃ x ∈ l,(x.size:Int)>20000)):=by
 unfold impl_longText.f slices_ContainsFunc_string_string_impl_longText_1.f slices_IndexFunc_string_string_impl_longText_1.f
 obtain ⟨r,hr,h⟩:=find_loop (l.length:Int) (by omega) (fun i=>((rdOf ByteArray.empty l i).size:Int)>20000) (fun k i=>slices_IndexFunc_string_string_impl_longText_1.l0 k l (l.length:Int) i) (by
   intro i h0 hlt
   have hw:wrap64 (i+1)=i+1:=w64 (by omega) (by omega)
   simp only [slices_IndexFunc_string_string_impl_longText_1.l0,impl_longText_1.f,Option.bind_some,hw]
   exact ⟨fun hp=>Evt.pos hlt (Evt.pos h0 (Evt.pos hlt (Evt.pos (decide_eq_true hp) (Evt.pure _)))),fun hp r hr=>Evt.pos hlt (Evt.pos h0 (Evt.pos hlt (Evt.neg (by simpa using hp) hr)))⟩) (by
   simp only [slices_IndexFunc_string_string_impl_longText_1.l0]
   exact Evt.neg (by omega) (Evt.pure _))
 have at_:∀ i:Int,0≤i→i<(l.length:Int)→rdOf ByteArray.empty l i ∈ l:=fun i h0 h1=>by
  unfold rdOf
  rw [getD_at l _ _ (by omega)]
  exact List.getElem_mem _
 refine Evt.bind (Evt.bind hr (Evt.pure _)) ((Evt.pure _).same ?_)
 rw [decide_B]
 refine B_congr ⟨fun hg=>?_,fun ⟨x,hx,hg⟩=>?_⟩
 ·rcases h with ⟨h1,_⟩ | ⟨h1,h2,h3,_⟩
  ·omega
  ·exact ⟨_,at_ r h1 h2,h3⟩
 ·rcases h with ⟨h1,h2⟩ | ⟨h1,_⟩
  ·obtain ⟨i,hi,rfl⟩:=List.mem_iff_getElem.1 hx
   refine absurd ?_ (h2 i (by omega) (by omega))
   show ((rdOf ByteArray.empty l (i:Int)).size:Int)>20000
   unfold rdOf
   rw [Int.toNat_natCast,getD_at l _ _ hi]
   exact hg
  ·exact h1
theorem longText1_ev (s:ByteArray):Evt (fun k=>impl_longText.f k [s]) (B ((s.size:Int)>20000)) :=
 (longText_ev [s] (by simp)).same (B_congr ⟨fun ⟨x,hx,h⟩=>by rw [List.mem_singleton.1 hx] at h;exact h,fun h=>⟨s,by simp,h⟩⟩)
end Go.Proofs.YtaememmnhmebcaaGreatDoor.QB
