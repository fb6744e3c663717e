-- Merged by a program of this session (wip/tool/pack.py) out of its own texts for this claim.
import Derived.Deep.Slices
import Derived.ChangeArms
import Derived.WalkKit
import Derived.ProofKit
import Derived.OpenShut
import Derived.ShutString
import Derived.ChangeOld
import Derived.Below
import Derived.SizedLaws
import Derived.Lib.Strings
import Derived.Test.YtomoflpgdbjojaaGreatKFnExactGateNext21
set_option maxRecDepth 100000
namespace Go.Proofs.YtomoflpgdbjojaaGreat.Rd
open Go.RowKit Go.ChangeShapes Go.WideShapes Go.Proofs.YtomoflpgdbjojaaGreatW.PrintWords
def Rd (P:Program) (t:TypeId) {α:Type} (d:Kd α) (wf:α→Prop):Prop :=
 ∀ (H:Type) (enc:TypeId × Value→H) (w:World) (base:Nat) (sp:Nat→Bool) (held:Bool) (fuel:Nat) (cs:List Value) (x:DataW H × List MemPlace),
  DataW.trod enc P w base sp held fuel t cs=some x→∃ a:α,d.K w a cs∧wf a
def RdF (P:Program) (fs:List Field) (off:Nat) {α:Type} (d:Kd α) (wf:α→Prop):Prop :=
 ∀ (H:Type) (enc:TypeId × Value→H) (w:World) (base:Nat) (sp:Nat→Bool) (held:Bool) (n:Nat) (cs:List Value),
  cs.length=off+d.sz→(∀ f ∈ fs,∃ y,DataW.trod enc P w base sp held n f.type ((cs.drop f.offset).take (P.cellsOf f.type))=some y)→∃ a:α,d.K w a (cs.drop off)∧wf a
def WfInt (k:IntKind) (n:Int):Prop:=(Lit.int k n).wf=true
def WfStr (s:ByteArray):Prop:=s.size≤maxLen
def WfRow {α:Type} (wf:α→Prop) (l:List α):Prop:=l.length≤maxLen∧∀ x ∈ l,wf x
theorem rd_int {P:Program} {t:TypeId} {k:IntKind} (hu:P.underlying t=some (.int k)):Rd P t (Kd.int k) (WfInt k):=by
 intro H enc w base sp held fuel cs x h
 cases fuel with
 | zero=>simp [DataW.trod] at h
 | succ n =>
  match cs with
  | [.int k' m] =>
   simp only [DataW.trod,hu] at h
   split at h
   ·rename_i hk
    obtain ⟨rfl,hw⟩:=hk
    exact ⟨m,rfl,hw⟩
   ·cases h
  | []=>simp [DataW.trod,hu] at h
  | [.bool _]=>simp [DataW.trod,hu] at h
  | [.float _ _]=>simp [DataW.trod,hu] at h
  | [.complex _ _ _]=>simp [DataW.trod,hu] at h
  | [.string _]=>simp [DataW.trod,hu] at h
  | [.pointer _]=>simp [DataW.trod,hu] at h
  | [.slice _ _ _]=>simp [DataW.trod,hu] at h
  | [.map _]=>simp [DataW.trod,hu] at h
  | [.chan _]=>simp [DataW.trod,hu] at h
  | [.func _ _ _]=>simp [DataW.trod,hu] at h
  | [.nilFunc]=>simp [DataW.trod,hu] at h
  | [.iface _ _]=>simp [DataW.trod,hu] at h
  | [.nilIface]=>simp [DataW.trod,hu] at h
  | [.agg _]=>simp [DataW.trod,hu] at h
  | [.tuple _]=>simp [DataW.trod,hu] at h
  | _ :: _ :: _=>simp [DataW.trod,hu] at h
theorem rd_str {P:Program} {t:TypeId} (hu:P.underlying t=some .string):Rd P t Kd.string WfStr:=by
 intro H enc w base sp held fuel cs x h
 cases fuel with
 | zero=>simp [DataW.trod] at h
 | succ n =>
  match cs with
  | [.string s] =>
   simp only [DataW.trod,hu] at h
   split at h
   ·rename_i hk
    exact ⟨s,rfl,hk⟩
   ·cases h
  | []=>simp [DataW.trod,hu] at h
  | [.int _ _]=>simp [DataW.trod,hu] at h
  | [.bool _]=>simp [DataW.trod,hu] at h
  | [.float _ _]=>simp [DataW.trod,hu] at h
  | [.complex _ _ _]=>simp [DataW.trod,hu] at h
  | [.pointer _]=>simp [DataW.trod,hu] at h
  | [.slice _ _ _]=>simp [DataW.trod,hu] at h
  | [.map _]=>simp [DataW.trod,hu] at h
  | [.chan _]=>simp [DataW.trod,hu] at h
  | [.func _ _ _]=>simp [DataW.trod,hu] at h
  | [.nilFunc]=>simp [DataW.trod,hu] at h
  | [.iface _ _]=>simp [DataW.trod,hu] at h
  | [.nilIface]=>simp [DataW.trod,hu] at h
  | [.agg _]=>simp [DataW.trod,hu] at h
  | [.tuple _]=>simp [DataW.trod,hu] at h
  | _ :: _ :: _=>simp [DataW.trod,hu] at h
theorem rdF_last {P:Program} {f:Field} {off:Nat} {α:Type} {d:Kd α} {wf:α→Prop} (h:Rd P f.type d wf) (ho:f.offset=off) (hc:P.cellsOf f.type=d.sz):RdF P [f] off d wf:=by
 intro H enc w base sp held n cs hl hy
 obtain ⟨y,hy⟩:=hy f (List.mem_singleton.2 rfl)
 rw [ho,hc,List.take_of_length_le (by rw [List.length_drop];omega)] at hy
 exact h H enc w base sp held n _ y hy
theorem rdF_cons {P:Program} {f:Field} {fs:List Field} {off off2:Nat} {α β:Type} {d:Kd α} {e:Kd β} {wf:α→Prop} {wg:β→Prop} (h:Rd P f.type d wf) (ho:f.offset=off) (hc:P.cellsOf f.type=d.sz)
  (h2:off2=off+d.sz) (hs:RdF P fs off2 e wg):RdF P (f :: fs) off (Kd.pair d e) (fun x=>wf x.1∧wg x.2):=by
 intro H enc w base sp held n cs hl hy
 obtain ⟨y,hy1⟩:=hy f (List.mem_cons_self ..)
 have hl':cs.length=off+(d.sz+e.sz):=hl
 obtain ⟨a,ha,hwa⟩:=h H enc w base sp held n _ y hy1
 obtain ⟨b,hb,hwb⟩:=hs H enc w base sp held n cs (by omega) (fun g hg=>hy g (List.mem_cons_of_mem _ hg))
 rw [ho,hc] at ha
 refine ⟨(a,b),⟨_,_,?_,ha,hb⟩,hwa,hwb⟩
 rw [h2,← List.drop_drop,List.take_append_drop]
theorem rd_struct {P:Program} {t:TypeId} {fs:Array Field} {α β:Type} {d:Kd α} {wf:α→Prop} {wg:β→Prop} (g:β→α) (gi:α→β) (hg:∀ a,g (gi a)=a) (hwg:∀ a,wf a→wg (gi a))
  (hu:P.underlying t=some (.struct fs)) (hc:P.cellsOf t=d.sz) (hF:RdF P fs.toList 0 d wf):Rd P t (Kd.iso d g) wg:=by
 intro H enc w base sp held fuel cs x h
 obtain ⟨xs,n,_,rfl,hl,hlen,hf⟩:=DataW.trod_struct hu h
 obtain ⟨a,ha,hwa⟩:=hF H enc w base sp held n cs (by omega) (fun f hfm=>by
  obtain ⟨i,hi,rfl⟩:=List.mem_iff_getElem.1 hfm
  have hi':i<fs.size:=by simpa using hi
  have z:=hf i (fs[i]) (by simp [hi'])
  rw [List.getElem?_eq_getElem (by omega)] at z
  exact ⟨_,by simpa using z⟩)
 refine ⟨gi a,?_,hwg a hwa⟩
 show d.K w (g (gi a)) cs
 rw [hg]
 simpa using ha
theorem rd_slice {P:Program} {t e:TypeId} {α:Type} {d:Kd α} {wf:α→Prop} (hu:P.underlying t=some (.slice e)) (hc:P.cellsOf e=d.sz) (hd:Rd P e d wf):Rd P t (Kd.slice e d) (WfRow wf):=by
 intro H enc w base sp held fuel cs x h
 rcases Go.Deep.open_slice hu h with ⟨rfl,_⟩ | ⟨a,len,cap,m,n,D,Pl,rfl,hb,hl,hm,hmm,_,hx⟩
 ·exact ⟨[],⟨none,0,rfl,Nat.le_refl _,rfl,by simp,fun h=>absurd h (by simp)⟩,by simp [maxLen],by simp⟩
 ·have hlm:len≤m:=by rw [hmm];split <;> omega
  have hall:∀ i,i<len→∃ cs',w.cells? base (a.add (i * P.cellsOf e)) (P.cellsOf e)=some cs'∧DataW.trod enc P w base sp held n e cs'=some (D i,Pl i):=fun i hi=>hx i (by omega)
  have key:∀ (k:Nat),k≤len→∃ l:List α,l.length=k∧(∀ x ∈ l,wf x)∧∀ j p,l[j]? = some p→∃ c,c.length=d.sz∧d.K w p c∧∀ i u,c[i]? = some u→w.cell? (a.add (j * d.sz+i))=some u:=by
   intro k
   induction k with
   | zero=>intro _;exact ⟨[],rfl,by simp,by simp⟩
   | succ k ih =>
    intro hk
    obtain ⟨l,hl1,hl2,hl3⟩:=ih (by omega)
    obtain ⟨cs',h1,h2⟩:=hall k (by omega)
    obtain ⟨b,hb1,hb2⟩:=hd H enc w base sp held n cs' _ h2
    refine ⟨l++[b],by simp [hl1],?_,?_⟩
    ·intro z hz
     rcases List.mem_append.1 hz with hz|hz
     ·exact hl2 z hz
     ·rw [List.mem_singleton.1 hz];exact hb2
    ·intro j p hj
     by_cases hjl:j<l.length
     ·rw [List.getElem?_append_left hjl] at hj
      exact hl3 j p hj
     ·rw [List.getElem?_append_right (by omega)] at hj
      have hj0:j - l.length=0:=by
       cases hz:j - l.length with
       | zero=>rfl
       | succ q=>rw [hz] at hj;simp at hj
      rw [hj0] at hj
      obtain rfl:b=p:=by simpa using hj
      have hjk:j=k:=by omega
      subst hjk
      refine ⟨cs',d.K_len hb1,hb1,fun i u hu'=>?_⟩
      obtain ⟨_,hlen',hcell⟩:=World.cells?_some h1
      have hi:i<cs'.length:=by
       rcases Nat.lt_or_ge i cs'.length with h|h
       ·exact h
       ·rw [List.getElem?_eq_none h] at hu';cases hu'
      have z:=hcell i (by omega)
      rw [hu',Go.Deep.add_add,hc] at z
      exact z
  obtain ⟨l,hl1,hl2,hl3⟩:=key len (Nat.le_refl _)
  refine ⟨l,⟨some a,cap,by rw [hl1],by omega,?_⟩,by rw [hl1];exact Nat.le_trans hl hm,hl2⟩
  exact ⟨rfl,by rw [hl1];have:cap≤2 ^ 63 - 1:=hm;omega,fun _=>⟨a,rfl,hl3⟩⟩
end Go.Proofs.YtomoflpgdbjojaaGreat.Rd
namespace Go.Proofs.YtomoflpgdbjojaaGreat.QN
open Go.RowKit Go.Proofs.YtomoflpgdbjojaaGreat Go.Proofs.YtomoflpgdbjojaaGreatW.PrintWords
def wf179 (x:S179):Prop:=(Rd.WfInt .i64) x.f0∧(Rd.WfInt .i64) x.f1∧(Rd.WfInt .i64) x.f2
def wf93 (x:S93):Prop:=Rd.WfStr x.f0∧(Rd.WfInt .i64) x.f1∧(Rd.WfInt .i64) x.f2∧(Rd.WfRow wf179) x.f3
def wf96 (x:S96):Prop:=Rd.WfStr x.f0∧Rd.WfStr x.f1∧Rd.WfStr x.f2
def wf147 (x:S147):Prop:=Rd.WfStr x.f0∧(Rd.WfInt .i64) x.f1
def wf150 (x:S150):Prop:=Rd.WfStr x.f0∧Rd.WfStr x.f1∧(Rd.WfInt .i64) x.f2∧Rd.WfStr x.f3∧(Rd.WfInt .i64) x.f4∧(Rd.WfInt .i64) x.f5∧(Rd.WfInt .i64) x.f6∧(Rd.WfInt .i64) x.f7
def wf27 (x:S27):Prop:=(Rd.WfRow wf147) x.f0∧(Rd.WfRow wf150) x.f1
def wf101 (x:S101):Prop:=(Rd.WfInt .i64) x.f0∧Rd.WfStr x.f1∧Rd.WfStr x.f2∧(Rd.WfInt .i64) x.f3∧Rd.WfStr x.f4∧(Rd.WfInt .i64) x.f5
def wf104 (x:S104):Prop:=Rd.WfStr x.f0∧(Rd.WfInt .i64) x.f1∧Rd.WfStr x.f2∧(Rd.WfInt .i64) x.f3∧(Rd.WfInt .i64) x.f4
def wf31 (x:S31):Prop:=Rd.WfStr x.f0∧(Rd.WfInt .i64) x.f1∧(Rd.WfRow wf93) x.f2∧(Rd.WfRow wf96) x.f3∧wf27 x.f4∧(Rd.WfRow wf101) x.f5∧(Rd.WfRow wf104) x.f6
theorem rd179:Rd.Rd Tryz.prog 179 k179 wf179:=Rd.rd_struct _ (fun a=>⟨a.1,a.2.1,a.2.2⟩) (fun _=>rfl) (fun _ h=>h) Tryz.underlying179 (by kernel_rfl) (Rd.rdF_cons (Rd.rd_int (Tryz.underlying2)) rfl (by kernel_rfl) (off2:=1) rfl (Rd.rdF_cons (Rd.rd_int (Tryz.underlying2)) rfl (by kernel_rfl) (off2:=2) rfl (Rd.rdF_last (Rd.rd_int (Tryz.underlying2)) rfl (by kernel_rfl))))
theorem rd93:Rd.Rd Tryz.prog 93 k93 wf93:=Rd.rd_struct _ (fun a=>⟨a.1,a.2.1,a.2.2.1,a.2.2.2⟩) (fun _=>rfl) (fun _ h=>h) Tryz.underlying93 (by kernel_rfl) (Rd.rdF_cons (Rd.rd_str (Tryz.underlying9)) rfl (by kernel_rfl) (off2:=1) rfl (Rd.rdF_cons (Rd.rd_int (Tryz.underlying2)) rfl (by kernel_rfl) (off2:=2) rfl (Rd.rdF_cons (Rd.rd_int (Tryz.underlying2)) rfl (by kernel_rfl) (off2:=3) rfl (Rd.rdF_last (Rd.rd_slice Tryz.underlying91 (by kernel_rfl) rd179) rfl (by kernel_rfl)))))
theorem rd96:Rd.Rd Tryz.prog 96 k96 wf96:=Rd.rd_struct _ (fun a=>⟨a.1,a.2.1,a.2.2⟩) (fun _=>rfl) (fun _ h=>h) Tryz.underlying96 (by kernel_rfl) (Rd.rdF_cons (Rd.rd_str (Tryz.underlying9)) rfl (by kernel_rfl) (off2:=1) rfl (Rd.rdF_cons (Rd.rd_str (Tryz.underlying9)) rfl (by kernel_rfl) (off2:=2) rfl (Rd.rdF_last (Rd.rd_str (Tryz.underlying9)) rfl (by kernel_rfl))))
theorem rd147:Rd.Rd Tryz.prog 147 k147 wf147:=Rd.rd_struct _ (fun a=>⟨a.1,a.2⟩) (fun _=>rfl) (fun _ h=>h) Tryz.underlying147 (by kernel_rfl) (Rd.rdF_cons (Rd.rd_str (Tryz.underlying9)) rfl (by kernel_rfl) (off2:=1) rfl (Rd.rdF_last (Rd.rd_int (Tryz.underlying2)) rfl (by kernel_rfl)))
theorem rd150:Rd.Rd Tryz.prog 150 k150 wf150:=Rd.rd_struct _ (fun a=>⟨a.1,a.2.1,a.2.2.1,a.2.2.2.1,a.2.2.2.2.1,a.2.2.2.2.2.1,a.2.2.2.2.2.2.1,a.2.2.2.2.2.2.2⟩) (fun _=>rfl) (fun _ h=>h) Tryz.underlying150 (by kernel_rfl) (Rd.rdF_cons (Rd.rd_str (Tryz.underlying9)) rfl (by kernel_rfl) (off2:=1) rfl (Rd.rdF_cons (Rd.rd_str (Tryz.underlying9)) rfl (by kernel_rfl) (off2:=2) rfl (Rd.rdF_cons (Rd.rd_int (Tryz.underlying2)) rfl (by kernel_rfl) (off2:=3) rfl (Rd.rdF_cons (Rd.rd_str (Tryz.underlying9)) rfl (by kernel_rfl) (off2:=4) rfl (Rd.rdF_cons (Rd.rd_int (Tryz.underlying2)) rfl (by kernel_rfl) (off2:=5) rfl (Rd.rdF_cons (Rd.rd_int (Tryz.underlying2)) rfl (by kernel_rfl) (off2:=6) rfl (Rd.rdF_cons (Rd.rd_int (Tryz.underlying2)) rfl (by kernel_rfl) (off2:=7) rfl (Rd.rdF_last (Rd.rd_int (Tryz.underlying2)) rfl (by kernel_rfl)))))))))
theorem rd27:Rd.Rd Tryz.prog 27 k27 wf27:=Rd.rd_struct _ (fun a=>⟨a.1,a.2⟩) (fun _=>rfl) (fun _ h=>h) Tryz.underlying27 (by kernel_rfl) (Rd.rdF_cons (Rd.rd_slice Tryz.underlying24 (by kernel_rfl) rd147) rfl (by kernel_rfl) (off2:=1) rfl (Rd.rdF_last (Rd.rd_slice Tryz.underlying25 (by kernel_rfl) rd150) rfl (by kernel_rfl)))
theorem rd101:Rd.Rd Tryz.prog 101 k101 wf101:=Rd.rd_struct _ (fun a=>⟨a.1,a.2.1,a.2.2.1,a.2.2.2.1,a.2.2.2.2.1,a.2.2.2.2.2⟩) (fun _=>rfl) (fun _ h=>h) Tryz.underlying101 (by kernel_rfl) (Rd.rdF_cons (Rd.rd_int (Tryz.underlying2)) rfl (by kernel_rfl) (off2:=1) rfl (Rd.rdF_cons (Rd.rd_str (Tryz.underlying9)) rfl (by kernel_rfl) (off2:=2) rfl (Rd.rdF_cons (Rd.rd_str (Tryz.underlying9)) rfl (by kernel_rfl) (off2:=3) rfl (Rd.rdF_cons (Rd.rd_int (Tryz.underlying2)) rfl (by kernel_rfl) (off2:=4) rfl (Rd.rdF_cons (Rd.rd_str (Tryz.underlying9)) rfl (by kernel_rfl) (off2:=5) rfl (Rd.rdF_last (Rd.rd_int (Tryz.underlying2)) rfl (by kernel_rfl)))))))
theorem rd104:Rd.Rd Tryz.prog 104 k104 wf104:=Rd.rd_struct _ (fun a=>⟨a.1,a.2.1,a.2.2.1,a.2.2.2.1,a.2.2.2.2⟩) (fun _=>rfl) (fun _ h=>h) Tryz.underlying104 (by kernel_rfl) (Rd.rdF_cons (Rd.rd_str (Tryz.underlying9)) rfl (by kernel_rfl) (off2:=1) rfl (Rd.rdF_cons (Rd.rd_int (Tryz.underlying2)) rfl (by kernel_rfl) (off2:=2) rfl (Rd.rdF_cons (Rd.rd_str (Tryz.underlying9)) rfl (by kernel_rfl) (off2:=3) rfl (Rd.rdF_cons (Rd.rd_int (Tryz.underlying2)) rfl (by kernel_rfl) (off2:=4) rfl (Rd.rdF_last (Rd.rd_int (Tryz.underlying2)) rfl (by kernel_rfl))))))
theorem rd31:Rd.Rd Tryz.prog 31 k31 wf31:=Rd.rd_struct _ (fun a=>⟨a.1,a.2.1,a.2.2.1,a.2.2.2.1,a.2.2.2.2.1,a.2.2.2.2.2.1,a.2.2.2.2.2.2⟩) (fun _=>rfl) (fun _ h=>h) Tryz.underlying31 (by kernel_rfl) (Rd.rdF_cons (Rd.rd_str (Tryz.underlying9)) rfl (by kernel_rfl) (off2:=1) rfl (Rd.rdF_cons (Rd.rd_int (Tryz.underlying2)) rfl (by kernel_rfl) (off2:=2) rfl (Rd.rdF_cons (Rd.rd_slice Tryz.underlying22 (by kernel_rfl) rd93) rfl (by kernel_rfl) (off2:=3) rfl (Rd.rdF_cons (Rd.rd_slice Tryz.underlying23 (by kernel_rfl) rd96) rfl (by kernel_rfl) (off2:=4) rfl (Rd.rdF_cons rd27 rfl (by kernel_rfl) (off2:=6) rfl (Rd.rdF_cons (Rd.rd_slice Tryz.underlying28 (by kernel_rfl) rd101) rfl (by kernel_rfl) (off2:=7) rfl (Rd.rdF_last (Rd.rd_slice Tryz.underlying29 (by kernel_rfl) rd104) rfl (by kernel_rfl))))))))
end Go.Proofs.YtomoflpgdbjojaaGreat.QN
namespace Go.Proofs.YtomoflpgdbjojaaGreat.QN
open Go.Proofs.YtomoflpgdbjojaaGreat Go.Proofs.YtomoflpgdbjojaaGreatW.PrintWords
def laws_FnExactGateNext.Pure:Prop:=∀ (a0_0:ByteArray) (a0_1:Int) (l0_2:List (S93)) (l0_3:List (S96)) (l0_4:List (S147)) (l0_5:List (S150)) (l0_6:List (S101)) (l0_7:List (S104)),Rd.WfStr a0_0→(Rd.WfInt .i64) a0_1→(Rd.WfRow wf93) l0_2→(Rd.WfRow wf96) l0_3→(Rd.WfRow wf147) l0_4→(Rd.WfRow wf150) l0_5→(Rd.WfRow wf101) l0_6→(Rd.WfRow wf104) l0_7→∃ k,laws_FnExactGateNext.f k a0_0 a0_1 l0_2 l0_3 l0_4 l0_5 l0_6 l0_7=some true
end Go.Proofs.YtomoflpgdbjojaaGreat.QN
namespace Go.Proofs.YtomoflpgdbjojaaGreat.Ev0
open Go.RowKit Go.Proofs.YtomoflpgdbjojaaGreatW.PrintWords
def Evt {α:Type} (f:Nat→Option α) (r:α):Prop:=∃ K,∀ k,K≤k→f k=some r
namespace Evt
variable {α β : Type}
theorem const {o:Option α} {r:α} (h:o=some r):Evt (fun _=>o) r:=⟨0,fun _ _=>h⟩
theorem pure (r:α):Evt (fun _=>some r) r:=⟨0,fun _ _=>rfl⟩
theorem bind {f:Nat→Option α} {g:Nat→α→Option β} {a:α} {r:β} (h:Evt f a) (h2:Evt (fun k=>g k a) r):Evt (fun k=>(f k).bind (g k)) r:=by
 obtain ⟨K,hK⟩:=h
 obtain ⟨L,hL⟩:=h2
 refine ⟨K+L,fun k hk=>?_⟩
 show (f k).bind (g k)=some r
 rw [hK k (by omega)]
 exact hL k (by omega)
theorem succ {f:Nat→Option α} {r:α} (h:Evt (fun k=>f (k+1)) r):Evt f r:=by
 obtain ⟨K,hK⟩:=h
 refine ⟨K+1,fun k hk=>?_⟩
 obtain ⟨m,rfl⟩:∃ m,k=m+1:=⟨k - 1,by omega⟩
 exact hK m (by omega)
theorem pos {c:Prop} [Decidable c] {f g:Nat→Option α} {r:α} (hc:c) (h:Evt f r):Evt (fun k=>if c then f k else g k) r:=by
 simpa only [if_pos hc] using h
theorem neg {c:Prop} [Decidable c] {f g:Nat→Option α} {r:α} (hc:¬ c) (h:Evt g r):Evt (fun k=>if c then f k else g k) r:=by
 simpa only [if_neg hc] using h
theorem ite {c:Prop} [Decidable c] {f g:Nat→Option α} {r:α} (h1:c→Evt f r) (h2:¬ c→Evt g r):Evt (fun k=>if c then f k else g k) r:=by
 by_cases hc:c
 ·exact pos hc (h1 hc)
 ·exact neg hc (h2 hc)
theorem ex {f:Nat→Option α} {r:α} (h:Evt f r):∃ k,f k=some r:=by
 obtain ⟨K,hK⟩:=h
 exact ⟨K,hK K (Nat.le_refl _)⟩
theorem same {f:Nat→Option α} {r r':α} (h:Evt f r) (e:r=r'):Evt f r':=e ▸ h
end Evt
theorem w64 {x:Int} (h0 : -9223372036854775808≤x) (h1:x≤9223372036854775807):wrap64 x=x:=by
 unfold wrap64
 omega
noncomputable def B (p:Prop):Bool:=@decide p (Classical.propDecidable p)
theorem B_true {p:Prop} (h:p):B p=true:=by unfold B;exact @decide_eq_true p (Classical.propDecidable p) h
theorem B_false {p:Prop} (h:¬ p):B p=false:=by unfold B;exact @decide_eq_false p (Classical.propDecidable p) h
theorem B_iff {p:Prop} : B p=true ↔ p:=by unfold B;exact @decide_eq_true_iff p (Classical.propDecidable p)
theorem B_congr {p q:Prop} (h:p ↔ q):B p=B q:=by rw [propext h]
theorem decide_B (p:Prop) [Decidable p]:decide p=B p:=by
 by_cases h:p
 ·rw [decide_eq_true h,B_true h]
 ·rw [decide_eq_false h,B_false h]
theorem bool_B {b:Bool} {p:Prop} (h:b=true ↔ p):b=B p:=by
 cases b with
 | true=>exact (B_true (h.1 rfl)).symm
 | false=>exact (B_false (fun hp=>by simpa using h.2 hp)).symm
theorem and_ {c p q:Prop} [Decidable c] {f:Nat→Option Bool} (hc:c ↔ p) (h:p→Evt f (B q)):Evt (fun k=>if c then f k else some false) (B (p∧q)):=by
 by_cases e:c
 ·exact Evt.pos e ((h (hc.1 e)).same (B_congr ⟨fun x=>⟨hc.1 e,x⟩,fun x=>x.2⟩))
 ·exact Evt.neg e ((Evt.pure false).same (B_false (fun x=>e (hc.2 x.1))).symm)
theorem fail_ {c p q:Prop} [Decidable c] {f:Nat→Option Bool} (hc:c ↔ ¬ p) (h:p→Evt f (B q)):Evt (fun k=>if c then some false else f k) (B (p∧q)):=by
 by_cases e:c
 ·exact Evt.pos e ((Evt.pure false).same (B_false (fun x=>hc.1 e x.1)).symm)
 ·have hp:p:=Classical.not_not.1 (fun x=>e (hc.2 x))
  exact Evt.neg e ((h hp).same (B_congr ⟨fun x=>⟨hp,x⟩,fun x=>x.2⟩))
theorem last_ {p q:Prop} [Decidable p] (h:p ↔ q):Evt (fun _=>some (decide p)) (B q):=(Evt.pure _).same ((decide_B p).trans (B_congr h))
theorem lastB_ {p q:Prop} (h:p ↔ q):Evt (fun _=>some (B p)) (B q):=(Evt.pure _).same (B_congr h)
theorem up_loop {σ ρ:Type} (n:Int) (F:Nat→σ→Int→Option ρ) (st:Int→σ) (r:Int→ρ)
  (step:∀ i,0≤i→i<n→Evt (fun k=>F k (st (i+1)) (i+1)) (r (i+1))→Evt (fun k=>F (k+1) (st i) i) (r i))
  (stop:Evt (fun k=>F (k+1) (st n) n) (r n)) (i:Int) (h0:0≤i) (hn:i≤n):Evt (fun k=>F k (st i) i) (r i):=by
 have key:∀ (d:Nat) (i:Int),0≤i→i≤n→n - i≤d→Evt (fun k=>F k (st i) i) (r i):=by
  intro d
  induction d with
  | zero =>
   intro i h0 h1 hd
   obtain rfl:i=n:=by omega
   exact stop.succ
  | succ d ih =>
   intro i h0 h1 hd
   by_cases hlt:i<n
   ·exact (step i h0 hlt (ih (i+1) (by omega) (by omega) (by omega))).succ
   ·obtain rfl:i=n:=by omega
    exact stop.succ
 exact key (n - i).toNat i h0 hn (by omega)
def SzR (f:Nat→Option Int) (left:Int) (p:Prop):Prop:=∃ t,Evt f t∧(t<0∨(0≤t∧t≤left∧p))
theorem sz_loop (n:Nat) (hn:n≤9223372036854775807) (p:Int→Prop) (f:Nat→Option Int) (F:Nat→Int→Int→Option Int) (left:Int) (hl0:0≤left) (hl:left≤1048576)
  (hf:∀ k,f k=if wrap64 (left - (n:Int))<0 then some (-1) else F k (wrap64 (left - (n:Int))) 0)
  (step:∀ s i,0≤i→i<(n:Int)→0≤s→s≤1048576→(∃ r,r<0∧Evt (fun k=>F (k+1) s i) r)∨(∃ s',0≤s'∧s'≤s∧p i∧∀ r,Evt (fun k=>F k s' (i+1)) r→Evt (fun k=>F (k+1) s i) r))
  (stop:∀ s i,(n:Int)≤i→Evt (fun k=>F (k+1) s i) s):SzR f left (n≤1048576∧∀ i,0≤i→i<(n:Int)→p i):=by
 have hw:wrap64 (left - (n:Int))=left - (n:Int):=w64 (by omega) (by omega)
 by_cases h:left - (n:Int)<0
 ·refine ⟨-1,⟨0,fun k _=>?_⟩,.inl (by decide)⟩
  rw [hf,hw,if_pos h]
 ·have key:∀ (d:Nat) (s i:Int),0≤i→(n:Int) - i≤d→0≤s→s≤1048576→∃ t,Evt (fun k=>F k s i) t∧(t<0∨(0≤t∧t≤s∧∀ j,i≤j→j<(n:Int)→p j)):=by
   intro d
   induction d with
   | zero=>intro s i h0 hd hs0 hs1;exact ⟨s,(stop s i (by omega)).succ,.inr ⟨hs0,Int.le_refl _,fun j h1 h2=>absurd h2 (by omega)⟩⟩
   | succ d ih =>
    intro s i h0 hd hs0 hs1
    by_cases hlt:i<(n:Int)
    ·rcases step s i h0 hlt hs0 hs1 with ⟨r,hr0,hr⟩ | ⟨s',h1,h2,hp,hs⟩
     ·exact ⟨r,hr.succ,.inl hr0⟩
     ·obtain ⟨t,ht,h3⟩:=ih s' (i+1) (by omega) (by omega) h1 (by omega)
      refine ⟨t,(hs t ht).succ,h3.imp id (fun ⟨g0,g1,g2⟩=>⟨g0,by omega,fun j h1 h2=>?_⟩)⟩
      by_cases e:j=i
      ·rw [e];exact hp
      ·exact g2 j (by omega) h2
    ·exact ⟨s,(stop s i (by omega)).succ,.inr ⟨hs0,Int.le_refl _,fun j h1 h2=>absurd h2 (by omega)⟩⟩
  obtain ⟨t,⟨K,hK⟩,h3⟩:=key n (left - (n:Int)) 0 (Int.le_refl _) (by omega) (by omega) (by omega)
  refine ⟨t,⟨K,fun k hk=>?_⟩,h3.imp id (fun ⟨g0,g1,g2⟩=>⟨g0,by omega,by omega,g2⟩)⟩
  rw [hf,hw,if_neg h]
  exact hK k hk
theorem sz_step {s a:Int} {f:Option Int} {p:Prop} (hs0:0≤s) (hs1:s≤1048576) (ha0:0≤a) (ha:a≤9223372036854775807)
  (h:0≤s - a→∃ t,f=some t∧(t<0∨(0≤t∧t≤s - a∧p))):∃ t,(if wrap64 (s - a)<0 then some (-1) else f)=some t∧(t<0∨(0≤t∧t≤s∧p)):=by
 have hw:wrap64 (s - a)=s - a:=w64 (by omega) (by omega)
 rw [hw]
 by_cases hn:s - a<0
 ·exact ⟨-1,by rw [if_pos hn],.inl (by decide)⟩
 ·obtain ⟨t,ht,h2⟩:=h (by omega)
  exact ⟨t,by rw [if_neg hn];exact ht,h2.imp id (fun ⟨g0,g1,g2⟩=>⟨g0,by omega,g2⟩)⟩
theorem wsub {s a:Int} (hs0:0≤s) (hs1:s≤1048576) (ha0:0≤a) (ha:a≤9223372036854775807):wrap64 (s - a)=s - a:=w64 (by omega) (by omega)
theorem getD_at {α:Type} (l:List α) (z:α) (i:Nat) (h:i<l.length):l.getD i z=l[i]:=by
 rw [List.getD_eq_getElem?_getD,List.getElem?_eq_getElem h]
 rfl
theorem fill_loop {α β:Type} (l:List α) (zα:α) (z:β) (g:α→β) (F:Nat→List β→Int→Option (List β))
  (step:∀ acc i,0≤i→i<(l.length:Int)→acc.length=l.length→∀ r,Evt (fun k=>F k (acc.set i.toNat (g (l.getD i.toNat zα))) (i+1)) r→Evt (fun k=>F (k+1) acc i) r)
  (stop:∀ acc i,(l.length:Int)≤i→Evt (fun k=>F (k+1) acc i) acc):Evt (fun k=>F k (List.replicate l.length z) 0) (l.map g):=by
 have h:=up_loop (l.length:Int) F (fun i=>(l.take i.toNat).map g++List.replicate (l.length - i.toNat) z) (fun _=>l.map g) ?_ ?_ 0 (Int.le_refl _) (by omega)
 ·simpa using h
 ·intro i h0 hlt ih
  refine step _ i h0 hlt (by simp;omega) _ ?_
  have hi:i.toNat<l.length:=by omega
  have e:((l.take i.toNat).map g++List.replicate (l.length - i.toNat) z).set i.toNat (g (l.getD i.toNat zα))=(l.take (i+1).toNat).map g++List.replicate (l.length - (i+1).toNat) z:=by
   have e1:(i+1).toNat=i.toNat+1:=by omega
   rw [e1,List.take_succ_eq_append_getElem hi,List.map_append,getD_at l zα _ hi,List.set_append_right _ _ (by simp;omega)]
   have e2:l.length - i.toNat=(l.length - (i.toNat+1))+1:=by omega
   have e3:i.toNat - ((l.take i.toNat).map g).length=0:=by simp;omega
   rw [e2,e3,List.replicate_succ]
   simp
  rw [e]
  exact ih
 ·have h:=stop ((l.take ((l.length:Int)).toNat).map g++List.replicate (l.length - ((l.length:Int)).toNat) z) (l.length:Int) (Int.le_refl _)
  refine h.same ?_
  simp
theorem all_loop (n:Int) (h0:0≤n) (F:Nat→Int→Option Bool) (step:∀ i,0≤i→i<n→Evt (fun k=>F k (i+1)) true→Evt (fun k=>F (k+1) i) true)
  (stop:Evt (fun k=>F (k+1) n) true):Evt (fun k=>F k 0) true :=
 up_loop n (fun k (_:Unit) i=>F k i) (fun _=>()) (fun _=>true) step stop 0 (Int.le_refl _) h0
theorem right_loop (n:Int) (hn:0≤n) (ok:Int→Prop) (q:Prop) (F:Nat→Int→Option Bool)
  (step:∀ i,0≤i→i<n→(ok i→∀ r,Evt (fun k=>F k (i+1)) r→Evt (fun k=>F (k+1) i) r)∧(¬ ok i→Evt (fun k=>F (k+1) i) false))
  (stop:Evt (fun k=>F (k+1) n) (B q)):Evt (fun k=>F k 0) (B ((∀ i,0≤i→i<n→ok i)∧q)):=by
 have h:=up_loop n (fun k (_:Unit) i=>F k i) (fun _=>()) (fun i=>B ((∀ j,i≤j→j<n→ok j)∧q)) ?_ ?_ 0 (Int.le_refl _) hn
 ·exact h
 ·intro i h0 hlt ih
  by_cases hk:ok i
  ·refine ((step i h0 hlt).1 hk _ ih).same (B_congr ⟨fun h=>⟨fun j h1 h2=>?_,h.2⟩,fun h=>⟨fun j h1 h2=>h.1 j (by omega) h2,h.2⟩⟩)
   by_cases e:j=i
   ·rw [e];exact hk
   ·exact h.1 j (by omega) h2
  ·exact ((step i h0 hlt).2 hk).same (B_false (fun h=>hk (h.1 i (Int.le_refl _) hlt))).symm
 ·exact stop.same (B_congr ⟨fun h=>⟨fun j h1 h2=>absurd h2 (by omega),h⟩,fun h=>h.2⟩)
theorem find_loop (n:Int) (hn:0≤n) (p:Int→Prop) (F:Nat→Int→Option Int)
  (step:∀ i,0≤i→i<n→(p i→Evt (fun k=>F (k+1) i) i)∧(¬ p i→∀ r,Evt (fun k=>F k (i+1)) r→Evt (fun k=>F (k+1) i) r))
  (stop:Evt (fun k=>F (k+1) n) (-1)) :
  ∃ r,Evt (fun k=>F k 0) r∧((r = -1∧∀ j,0≤j→j<n→¬ p j)∨(0≤r∧r<n∧p r∧∀ j,0≤j→j<r→¬ p j)):=by
 have key:∀ (d:Nat) (i:Int),0≤i→i≤n→n - i≤d→∃ r,Evt (fun k=>F k i) r∧((r = -1∧∀ j,i≤j→j<n→¬ p j)∨(i≤r∧r<n∧p r∧∀ j,i≤j→j<r→¬ p j)):=by
  intro d
  induction d with
  | zero =>
   intro i h0 h1 hd
   obtain rfl:i=n:=by omega
   exact ⟨-1,stop.succ,.inl ⟨rfl,fun j h1 h2=>absurd h2 (by omega)⟩⟩
  | succ d ih =>
   intro i h0 h1 hd
   by_cases hlt:i<n
   ·by_cases hp:p i
    ·exact ⟨i,((step i h0 hlt).1 hp).succ,.inr ⟨Int.le_refl _,hlt,hp,fun j h1 h2=>absurd h2 (by omega)⟩⟩
    ·obtain ⟨r,hr,h⟩:=ih (i+1) (by omega) (by omega) (by omega)
     refine ⟨r,((step i h0 hlt).2 hp r hr).succ,?_⟩
     rcases h with ⟨h1,h2⟩ | ⟨h1,h2,h3,h4⟩
     ·refine .inl ⟨h1,fun j g1 g2=>?_⟩
      by_cases e:j=i
      ·rw [e];exact hp
      ·exact h2 j (by omega) g2
     ·refine .inr ⟨by omega,h2,h3,fun j g1 g2=>?_⟩
      by_cases e:j=i
      ·rw [e];exact hp
      ·exact h4 j (by omega) g2
   ·obtain rfl:i=n:=by omega
    exact ⟨-1,stop.succ,.inl ⟨rfl,fun j h1 h2=>absurd h2 (by omega)⟩⟩
 exact key n.toNat 0 (Int.le_refl _) hn (by omega)
theorem bytes_nil {a:ByteArray} : a.toList=([]:List UInt8) ↔ a.size=0:=by
 rw [Lib.toList_data]
 cases a with|mk x=>cases x with|mk x=>simp [ByteArray.size]
end Go.Proofs.YtomoflpgdbjojaaGreat.Ev0
namespace Go.Proofs.YtomoflpgdbjojaaGreat.QN
open Go.RowKit Go.Proofs.YtomoflpgdbjojaaGreatW.PrintWords Go.Proofs.YtomoflpgdbjojaaGreat.Ev0
def less (a b:ByteArray):Prop:=Op.bytesLess a.toList b.toList=true
noncomputable def cmpS (a b:ByteArray):Int:=if Op.bytesLess a.toList b.toList=true then -1 else if Op.bytesLess b.toList a.toList=true then 1 else 0
def cmpI (a b:Int):Int:=if a<b then -1 else if a>b then 1 else 0
theorem cmpS_ev (a b:ByteArray):cmp_Compare_string.f a b=some (cmpS a b):=by
 have e1:∀ x:ByteArray,cmp_isNaN_string.f x=some false:=fun x=>by simp [cmp_isNaN_string.f]
 unfold cmp_Compare_string.f cmpS
 simp only [e1,Option.bind_some,Bool.false_eq_true,if_false]
 split
 ·rfl
 ·split <;> rfl
theorem cmpI_ev (a b:Int):cmp_Compare_int64.f a b=some (cmpI a b):=by
 have e1:∀ x:Int,cmp_isNaN_int64.f x=some false:=fun x=>by simp [cmp_isNaN_int64.f]
 unfold cmp_Compare_int64.f cmpI
 simp only [e1,Option.bind_some,Bool.false_eq_true,if_false]
 split
 ·rfl
 ·split <;> rfl
theorem cmpS_cases (a b:ByteArray):(less a b∧¬ less b a∧¬ a.toList=b.toList∧cmpS a b = -1)∨(¬ less a b∧less b a∧¬ a.toList=b.toList∧cmpS a b=1)∨(¬ less a b∧¬ less b a∧a.toList=b.toList∧cmpS a b=0):=by
 have t1:=Bs.less_tri a.toList b.toList
 have t2:=Bs.less_tri b.toList a.toList
 unfold less cmpS
 cases h1:Op.bytesLess a.toList b.toList <;> cases h2:Op.bytesLess b.toList a.toList
 ·right;right
  rw [h1,h2] at t1
  refine ⟨by simp,by simp,by simpa using t1,by simp⟩
 ·right;left
  refine ⟨by simp,by simp,?_,by simp⟩
  intro e
  rw [e,Bs.less_irrefl] at h2
  cases h2
 ·left
  refine ⟨by simp,by simp,?_,by simp⟩
  intro e
  rw [e,Bs.less_irrefl] at h1
  cases h1
 ·rw [h1,h2] at t1
  simp at t1
theorem cmpI_cases (a b:Int):(a<b∧cmpI a b = -1)∨(b<a∧cmpI a b=1)∨(a=b∧cmpI a b=0):=by
 unfold cmpI
 split
 ·left;exact ⟨by assumption,rfl⟩
 ·split
  ·right;left;exact ⟨by omega,rfl⟩
  ·right;right;exact ⟨by omega,rfl⟩
def orL:List Int→Int
 | []=>0
 | x :: xs=>if x=0 then orL xs else x
theorem or_ev (l:List Int) (hl:l.length≤1000):Evt (fun k=>cmp_Or_int.f k l) (orL l):=by
 unfold cmp_Or_int.f
 have h:=up_loop (l.length:Int) (fun k (_:Unit) i=>cmp_Or_int.l0 k 0 l (l.length:Int) i) (fun _=>()) (fun i=>orL (l.drop i.toNat)) ?_ ?_ 0 (Int.le_refl _) (by omega)
 ·simpa using h
 ·intro i h0 hlt ih
  simp only [cmp_Or_int.l0]
  refine Evt.pos hlt (Evt.pos h0 (Evt.pos hlt ?_))
  rw [w64 (show -9223372036854775808≤i+1 by omega) (by omega)]
  have hi:i.toNat<l.length:=by omega
  have e:l.drop i.toNat=rd l i :: l.drop (i+1).toNat:=by
   rw [show (i+1).toNat=i.toNat+1 by omega,List.drop_eq_getElem_cons hi]
   congr 1
   unfold rd
   rw [getD_at l 0 _ hi]
  rw [e]
  unfold orL
  by_cases hz:rd l i=0
  ·rw [if_pos hz]
   exact Evt.pos hz ih
  ·rw [if_neg hz]
   exact Evt.neg hz (Evt.pure _)
 ·simp only [cmp_Or_int.l0]
  refine Evt.neg (by omega) ((Evt.pure _).same ?_)
  simp [orL]
theorem within_ev (a b c:Int):impl_within.f a b c=some (B (b≤a∧a≤c)):=by
 unfold impl_within.f
 by_cases h:b≤a
 ·rw [if_pos h,decide_B]
  exact congrArg some (B_congr ⟨fun x=>⟨h,x⟩,fun x=>x.2⟩)
 ·rw [if_neg h,B_false (fun x=>h x.1)]
theorem isGreat_ev (c:Int):impl_isGreat.f c=some (B (65≤c∧c≤90)):=by
 unfold impl_isGreat.f
 by_cases h:c≥65
 ·rw [if_pos h,decide_B]
  exact congrArg some (B_congr ⟨fun x=>⟨h,x⟩,fun x=>x.2⟩)
 ·rw [if_neg h,B_false (fun x=>h x.1)]
theorem isDigit_ev (c:Int):impl_isDigit.f c=some (B (48≤c∧c≤57)):=by
 unfold impl_isDigit.f
 by_cases h:c≥48
 ·rw [if_pos h,decide_B]
  exact congrArg some (B_congr ⟨fun x=>⟨h,x⟩,fun x=>x.2⟩)
 ·rw [if_neg h,B_false (fun x=>h x.1)]
theorem isQty_ev (n:Int):impl_isQty.f n=some (B (1≤n∧n≤1000000)):=by
 unfold impl_isQty.f
 rw [within_ev]
 rfl
theorem l01Qty_ev (n:Int):spec_l01Qty.f n=some (B (1≤n∧n≤1000000)):=by
 unfold spec_l01Qty.f
 by_cases h:n≥1
 ·rw [if_pos h,decide_B]
  exact congrArg some (B_congr ⟨fun x=>⟨h,x⟩,fun x=>x.2⟩)
 ·rw [if_neg h,B_false (fun x=>h x.1)]
def okc (c:Int):Prop:=(65≤c∧c≤90)∨(48≤c∧c≤57)∨c=45
def NameP (s:ByteArray):Prop:=1≤(s.size:Int)∧(s.size:Int)≤12∧(65≤bt s 0∧bt s 0≤90)∧∀ j:Int,0≤j→j<s.size→okc (bt s j)
noncomputable def nameB (s:ByteArray):Bool:=B (NameP s)
theorem specName_l (s:ByteArray) (hs:(s.size:Int)≤9223372036854775807) (d:Nat):∀ i:Int,0≤i→(s.size:Int) - i≤d→Evt (fun k=>spec_l01Name.l0 k s i) (B (∀ j:Int,i≤j→j<s.size→okc (bt s j))):=by
 induction d with
 | zero =>
  intro i h0 hd
  apply Evt.succ
  simp only [spec_l01Name.l0]
  refine Evt.neg (by omega) ((Evt.pure true).same (B_true ?_).symm)
  intro j h1 h2
  omega
 | succ d ih =>
  intro i h0 hd
  apply Evt.succ
  simp only [spec_l01Name.l0]
  by_cases hlt:i<(s.size:Int)
  ·refine Evt.pos hlt (Evt.pos h0 ?_)
   have hw:wrap64 (i+1)=i+1:=w64 (by omega) (by omega)
   rw [hw]
   have yes:okc (bt s i)→Evt (fun k=>spec_l01Name.l0 k s (i+1)) (B (∀ j:Int,i≤j→j<s.size→okc (bt s j))):=fun hc =>
    (ih (i+1) (by omega) (by omega)).same (B_congr ⟨fun h j h1 h2=>by
     by_cases e:j=i
     ·rw [e];exact hc
     ·exact h j (by omega) h2,fun h j h1 h2=>h j (by omega) h2⟩)
   have no:¬ okc (bt s i)→Evt (fun _=>some false) (B (∀ j:Int,i≤j→j<s.size→okc (bt s j))):=fun hc =>
    (Evt.pure false).same (B_false (fun h=>hc (h i (Int.le_refl _) hlt))).symm
   have digit:Evt (fun k=>if bt s i≥48 then (if bt s i≤57 then spec_l01Name.l0 k s (i+1) else (if bt s i=45 then spec_l01Name.l0 k s (i+1) else some false)) else (if bt s i=45 then spec_l01Name.l0 k s (i+1) else some false)) (B (∀ j:Int,i≤j→j<s.size→okc (bt s j)))∨(65≤bt s i∧bt s i≤90):=by
    by_cases hg:65≤bt s i∧bt s i≤90
    ·exact .inr hg
    ·refine .inl (Evt.ite (fun h1=>Evt.ite (fun h2=>yes (.inr (.inl ⟨h1,h2⟩))) (fun h2=>Evt.ite (fun h3=>yes (.inr (.inr h3))) (fun h3=>no (fun hk=>?_)))) (fun h1=>Evt.ite (fun h3=>yes (.inr (.inr h3))) (fun h3=>no (fun hk=>?_))))
     ·rcases hk with hk|hk|hk
      ·exact hg hk
      ·omega
      ·exact h3 hk
     ·rcases hk with hk|hk|hk
      ·exact hg hk
      ·omega
      ·exact h3 hk
   refine Evt.ite (fun h1=>Evt.ite (fun h2=>yes (.inl ⟨h1,h2⟩)) (fun h2=>?_)) (fun h1=>?_)
   ·exact digit.resolve_right (fun h=>h2 h.2)
   ·exact digit.resolve_right (fun h=>h1 h.1)
  ·refine Evt.neg hlt ((Evt.pure true).same (B_true ?_).symm)
   intro j h1 h2
   omega
theorem specName_ev (s:ByteArray) (hs:(s.size:Int)≤9223372036854775807):Evt (fun k=>spec_l01Name.f k s) (nameB s):=by
 unfold spec_l01Name.f
 have bad:¬ NameP s→Evt (fun k=>spec_l01Name.j0 k s true) (nameB s):=fun h=>by
  apply Evt.succ
  simp only [spec_l01Name.j0]
  exact (Evt.pure false).same (B_false h).symm
 refine Evt.ite (fun h=>bad (fun hn=>by have:=hn.1;omega)) (fun h1=>Evt.ite (fun h=>bad (fun hn=>by have:=hn.2.1;omega)) (fun h2=>Evt.pos (by omega) (Evt.ite (fun h=>bad (fun hn=>by have:=hn.2.2.1.1;omega)) (fun h3=>?_))))
 by_cases h4:bt s 0>90
 ·rw [decide_eq_true h4]
  exact bad (fun hn=>by have:=hn.2.2.1.2;omega)
 ·rw [decide_eq_false h4]
  apply Evt.succ
  simp only [spec_l01Name.j0]
  refine (specName_l s hs s.size 0 (Int.le_refl _) (by omega)).same (B_congr ⟨fun h=>⟨by omega,by omega,⟨by omega,by omega⟩,h⟩,fun h=>h.2.2.2⟩)
theorem implName_l (s:ByteArray) (hs:(s.size:Int)≤9223372036854775807) (d:Nat):∀ i:Int,0≤i→(s.size:Int) - i≤d →
  Evt (fun k=>impl_isName.l0 k s (s.size:Int) i) (B ((∀ j:Int,i≤j→j<s.size→(65≤bt s j∧bt s j≤90)∨(j≠0∧okc (bt s j)))∧1≤(s.size:Int)∧(s.size:Int)≤12)):=by
 induction d with
 | zero =>
  intro i h0 hd
  apply Evt.succ
  simp only [impl_isName.l0]
  refine Evt.neg (by omega) (Evt.const ?_)
  rw [within_ev]
  exact congrArg some (B_congr ⟨fun h=>⟨fun j h1 h2=>by omega,h⟩,fun h=>h.2⟩)
 | succ d ih =>
  intro i h0 hd
  apply Evt.succ
  simp only [impl_isName.l0]
  by_cases hlt:i<(s.size:Int)
  ·refine Evt.pos hlt (Evt.pos h0 (Evt.pos hlt ?_))
   have hw:wrap64 (i+1)=i+1:=w64 (by omega) (by omega)
   rw [hw,isGreat_ev,isDigit_ev]
   have yes:((65≤bt s i∧bt s i≤90)∨(i≠0∧okc (bt s i)))→Evt (fun k=>impl_isName.l0 k s (s.size:Int) (i+1)) (B ((∀ j:Int,i≤j→j<s.size→(65≤bt s j∧bt s j≤90)∨(j≠0∧okc (bt s j)))∧1≤(s.size:Int)∧(s.size:Int)≤12)):=fun hc =>
    (ih (i+1) (by omega) (by omega)).same (B_congr ⟨fun h=>⟨fun j h1 h2=>by
     by_cases e:j=i
     ·rw [e];exact hc
     ·exact h.1 j (by omega) h2,h.2⟩,fun h=>⟨fun j h1 h2=>h.1 j (by omega) h2,h.2⟩⟩)
   have no:¬ ((65≤bt s i∧bt s i≤90)∨(i≠0∧okc (bt s i)))→Evt (fun _=>some false) (B ((∀ j:Int,i≤j→j<s.size→(65≤bt s j∧bt s j≤90)∨(j≠0∧okc (bt s j)))∧1≤(s.size:Int)∧(s.size:Int)≤12)):=fun hc =>
    (Evt.pure false).same (B_false (fun h=>hc (h.1 i (Int.le_refl _) hlt))).symm
   simp only [Option.bind_some]
   refine Evt.ite (fun h1=>yes (.inl (B_iff.1 h1))) (fun h1=>?_)
   have g1:¬ (65≤bt s i∧bt s i≤90):=fun h=>h1 (B_iff.2 h)
   refine Evt.ite (fun h2=>no (fun h=>h.elim g1 (fun h=>h.1 h2))) (fun h2=>Evt.ite (fun h3=>yes (.inr ⟨h2,.inr (.inl (B_iff.1 h3))⟩)) (fun h3=>Evt.ite (fun h4=>yes (.inr ⟨h2,.inr (.inr h4)⟩)) (fun h4=>no (fun h=>?_))))
   rcases h with h | ⟨_,h|h|h⟩
   ·exact g1 h
   ·exact g1 h
   ·exact h3 (B_iff.2 h)
   ·exact h4 h
  ·refine Evt.neg hlt (Evt.const ?_)
   rw [within_ev]
   exact congrArg some (B_congr ⟨fun h=>⟨fun j h1 h2=>by omega,h⟩,fun h=>h.2⟩)
theorem implName_ev (s:ByteArray) (hs:(s.size:Int)≤9223372036854775807):Evt (fun k=>impl_isName.f k s) (nameB s):=by
 unfold impl_isName.f
 refine (implName_l s hs s.size 0 (Int.le_refl _) (by omega)).same (B_congr ⟨fun h=>⟨h.2.1,h.2.2,?_,?_⟩,fun h=>⟨?_,h.1,h.2.1⟩⟩)
 ·rcases h.1 0 (Int.le_refl _) (by omega) with h|h
  ·exact h
  ·exact absurd rfl h.1
 ·intro j h1 h2
  rcases h.1 j h1 h2 with h|h
  ·exact .inl h
  ·exact h.2
 ·intro j h1 h2
  by_cases e:j=0
  ·rw [e];exact .inl h.2.2.1
  ·exact .inr ⟨e,h.2.2.2 j h1 h2⟩
theorem longText_ev (l:List ByteArray) (hl:l.length≤1000):Evt (fun k=>impl_longText.f k l) (B (∃ x ∈ l,(x.size:Int)>20000)):=by
 unfold impl_longText.f slices_ContainsFunc_string_string_impl_longText_1.f slices_IndexFunc_string_string_impl_longText_1.f
 obtain ⟨r,hr,h⟩:=find_loop (l.length:Int) (by omega) (fun i=>((rdOf ByteArray.empty l i).size:Int)>20000) (fun k i=>slices_IndexFunc_string_string_impl_longText_1.l0 k l (l.length:Int) i) (by
   intro i h0 hlt
   have hw:wrap64 (i+1)=i+1:=w64 (by omega) (by omega)
   simp only [slices_IndexFunc_string_string_impl_longText_1.l0,impl_longText_1.f,Option.bind_some,hw]
   exact ⟨fun hp=>Evt.pos hlt (Evt.pos h0 (Evt.pos hlt (Evt.pos (decide_eq_true hp) (Evt.pure _)))),fun hp r hr=>Evt.pos hlt (Evt.pos h0 (Evt.pos hlt (Evt.neg (by simpa using hp) hr)))⟩) (by
   simp only [slices_IndexFunc_string_string_impl_longText_1.l0]
   exact Evt.neg (by omega) (Evt.pure _))
 have at_:∀ i:Int,0≤i→i<(l.length:Int)→rdOf ByteArray.empty l i ∈ l:=fun i h0 h1=>by
  unfold rdOf
  rw [getD_at l _ _ (by omega)]
  exact List.getElem_mem _
 refine Evt.bind (Evt.bind hr (Evt.pure _)) ((Evt.pure _).same ?_)
 rw [decide_B]
 refine B_congr ⟨fun hg=>?_,fun ⟨x,hx,hg⟩=>?_⟩
 ·rcases h with ⟨h1,_⟩ | ⟨h1,h2,h3,_⟩
  ·omega
  ·exact ⟨_,at_ r h1 h2,h3⟩
 ·rcases h with ⟨h1,h2⟩ | ⟨h1,_⟩
  ·obtain ⟨i,hi,rfl⟩:=List.mem_iff_getElem.1 hx
   refine absurd ?_ (h2 i (by omega) (by omega))
   show ((rdOf ByteArray.empty l (i:Int)).size:Int)>20000
   unfold rdOf
   rw [Int.toNat_natCast,getD_at l _ _ hi]
   exact hg
  ·exact h1
theorem longText1_ev (s:ByteArray):Evt (fun k=>impl_longText.f k [s]) (B ((s.size:Int)>20000)) :=
 (longText_ev [s] (by simp)).same (B_congr ⟨fun ⟨x,hx,h⟩=>by rw [List.mem_singleton.1 hx] at h;exact h,fun h=>⟨s,by simp,h⟩⟩)
end Go.Proofs.YtomoflpgdbjojaaGreat.QN
namespace Go.Proofs.YtomoflpgdbjojaaGreat.QN
open Go.RowKit Go.Proofs.YtomoflpgdbjojaaGreat Go.Proofs.YtomoflpgdbjojaaGreatW.PrintWords Go.Proofs.YtomoflpgdbjojaaGreat.Ev0
def OutP (p:ByteArray) (n:Int) (t:ByteArray) (tr due:Int):Prop:=NameP p∧(1≤n∧n≤999999)∧1≤(t.size:Int)∧(t.size:Int)≤20000∧(0≤tr∧tr≤5)∧(0≤due∧due≤100000)
noncomputable def outB (p:ByteArray) (n:Int) (t:ByteArray) (tr due:Int):Bool:=B (OutP p n t tr due)
theorem l01Control_ev (n:Int):spec_l01Control.f n=some (B (1≤n∧n≤999999)):=by
 unfold spec_l01Control.f
 by_cases h:n≥1
 ·rw [if_pos h,decide_B]
  exact congrArg some (B_congr ⟨fun x=>⟨h,x⟩,fun x=>x.2⟩)
 ·rw [if_neg h,B_false (fun x=>h x.1)]
theorem l01Day_ev (n:Int):spec_l01Day.f n=some (B (0≤n∧n≤100000)):=by
 unfold spec_l01Day.f
 by_cases h:n≥0
 ·rw [if_pos h,decide_B]
  exact congrArg some (B_congr ⟨fun x=>⟨h,x⟩,fun x=>x.2⟩)
 ·rw [if_neg h,B_false (fun x=>h x.1)]
theorem isControl_ev (n:Int):impl_isControl.f n=some (B (1≤n∧n≤999999)):=by
 unfold impl_isControl.f
 rw [within_ev]
 rfl
theorem isDay_ev (n:Int):impl_isDay.f n=some (B (0≤n∧n≤100000)):=by
 unfold impl_isDay.f
 rw [within_ev]
 rfl
theorem specOut_ev (p:ByteArray) (n:Int) (t:ByteArray) (tr due:Int) (hp:(p.size:Int)≤9223372036854775807):Evt (fun k=>spec_l12Out.f k p n t tr due) (outB p n t tr due):=by
 have key:Evt (fun k=>spec_l12Out.f k p n t tr due) (B (NameP p∧(1≤n∧n≤999999)∧1≤(t.size:Int)∧(t.size:Int)≤20000∧0≤tr∧tr≤5∧(0≤due∧due≤100000))):=by
  unfold spec_l12Out.f
  simp only [l01Control_ev,l01Day_ev,Option.bind_some]
  exact Evt.bind (specName_ev p hp) (and_ B_iff fun _=>and_ B_iff fun _=>and_ Iff.rfl fun _=>and_ Iff.rfl fun _=>and_ Iff.rfl fun _=>and_ Iff.rfl fun _=>lastB_ Iff.rfl)
 refine key.same (B_congr ⟨?_,?_⟩)
 ·rintro ⟨h1,h2,h3,h4,h5,h6,h7⟩
  exact ⟨h1,h2,h3,h4,⟨h5,h6⟩,h7⟩
 ·rintro ⟨h1,h2,h3,h4,⟨h5,h6⟩,h7⟩
  exact ⟨h1,h2,h3,h4,h5,h6,h7⟩
theorem isOut_ev (p:ByteArray) (n:Int) (t:ByteArray) (tr due:Int) (hp:(p.size:Int)≤9223372036854775807):Evt (fun k=>impl_isOut.f k p n t tr due) (outB p n t tr due):=by
 unfold impl_isOut.f outB OutP
 simp only [isControl_ev,isDay_ev,within_ev,Option.bind_some]
 refine Evt.bind (implName_ev p hp) (and_ B_iff fun _=>and_ B_iff fun _=>fail_ (p:=1≤(t.size:Int)) (by rw [bytes_nil];omega) fun _=>Evt.bind (longText1_ev t) (fail_ (p:=(t.size:Int)≤20000) ?_ fun _=>and_ B_iff fun _=>lastB_ Iff.rfl))
 rw [B_iff]
 omega
def obefore (p:ByteArray) (n:Int) (p':ByteArray) (n':Int):Prop:=less p p'∨(p.toList=p'.toList∧n<n')
theorem l12Before_ev (p:ByteArray) (n:Int) (t:ByteArray) (tr due:Int) (p':ByteArray) (n':Int) (t':ByteArray) (tr' due':Int):spec_l12Before.f p n t tr due p' n' t' tr' due'=some (B (obefore p n p' n')):=by
 unfold spec_l12Before.f obefore
 rcases cmpS_cases p p' with ⟨h1,h2,h3,_⟩ | ⟨h1,h2,h3,_⟩ | ⟨h1,h2,h3,_⟩
 ·rw [if_pos (show Op.bytesLess p.toList p'.toList=true from h1),B_true (.inl h1)]
 ·rw [if_neg (show ¬ Op.bytesLess p.toList p'.toList=true from h1),if_neg h3,B_false (fun h=>h.elim h1 (fun h=>h3 h.1))]
 ·rw [if_neg (show ¬ Op.bytesLess p.toList p'.toList=true from h1),if_pos h3,decide_B]
  exact congrArg some (B_congr ⟨fun h=>.inr ⟨h3,h⟩,fun h=>h.elim (fun h=>absurd h h1) (fun h=>h.2)⟩)
noncomputable def ocmp (p:ByteArray) (n:Int) (p':ByteArray) (n':Int):Int:=orL [cmpS p p',cmpI n n']
theorem outOrder_ev (p:ByteArray) (n:Int) (t:ByteArray) (tr due:Int) (p':ByteArray) (n':Int) (t':ByteArray) (tr' due':Int):Evt (fun k=>impl_outOrder.f k p n t tr due p' n' t' tr' due') (ocmp p n p' n'):=by
 unfold impl_outOrder.f
 simp only [cmpS_ev,cmpI_ev,Option.bind_some]
 exact Evt.bind (or_ev _ (by simp)) (Evt.pure _)
theorem ocmp_iff (p:ByteArray) (n:Int) (p':ByteArray) (n':Int):ocmp p n p' n'≥0 ↔ ¬ obefore p n p' n':=by
 unfold ocmp obefore
 rcases cmpS_cases p p' with ⟨h1,h2,h3,h4⟩ | ⟨h1,h2,h3,h4⟩ | ⟨h1,h2,h3,h4⟩
 ·simp [orL,h4,h1]
 ·simp [orL,h4,h1,h3]
 ·rcases cmpI_cases n n' with ⟨e1,e2⟩ | ⟨e1,e2⟩ | ⟨e1,e2⟩
  ·simp [orL,h4,h1,h3,e1,e2]
  ·simp [orL,h4,h1,h3,e2];omega
  ·subst e1
   simp [orL,h4,h1,h3,e2]
def okO (x:S120):Prop:=(x.f0.size:Int)≤9223372036854775807
def outAt (l:List S120) (i:Int):Prop :=
 outB (rd_T120 l i).f0 (rd_T120 l i).f1 (rd_T120 l i).f2 (rd_T120 l i).f3 (rd_T120 l i).f4=true ∧
  (0<i→obefore (rd_T120 l (i - 1)).f0 (rd_T120 l (i - 1)).f1 (rd_T120 l i).f0 (rd_T120 l i).f1)
def OutboxP (l:List S120):Prop:=(l.length:Int)≤60∧∀ i,0≤i→i<(l.length:Int)→outAt l i
noncomputable def outboxB (l:List S120):Bool:=B (OutboxP l)
theorem okO_at {l:List S120} (h:∀ x ∈ l,okO x) (i:Int) (h1:i<(l.length:Int)) (h0:0≤i):okO (rd_T120 l i):=by
 unfold rd_T120
 rw [getD_at l _ _ (by omega)]
 exact h _ (List.getElem_mem _)
theorem specOutbox_ev (l:List S120) (hs:∀ x ∈ l,okO x):Evt (fun k=>spec_OutboxRight.f k l) (outboxB l):=by
 unfold spec_OutboxRight.f
 by_cases hn:(l.length:Int)>60
 ·exact Evt.pos hn ((Evt.pure false).same (B_false (fun h=>by have:=h.1;omega)).symm)
 ·refine Evt.neg hn ?_
  refine (right_loop (l.length:Int) (by omega) (outAt l) True (fun k i=>spec_OutboxRight.l0 k l i) ?_ ?_).same (B_congr ⟨fun h=>⟨by omega,h.1⟩,fun h=>⟨h.2,trivial⟩⟩)
  ·intro i h0 hlt
   have hk:=okO_at hs i hlt h0
   have hw:wrap64 (i+1)=i+1:=w64 (by omega) (by omega)
   have hw1:wrap64 (i - 1)=i - 1:=w64 (by omega) (by omega)
   simp only [spec_OutboxRight.l0,hw,hw1,l12Before_ev,Option.bind_some]
   refine ⟨fun ok r hr=>?_,fun nok=>?_⟩
   ·refine Evt.pos hlt (Evt.pos h0 (Evt.bind (specOut_ev _ _ _ _ _ hk) (Evt.pos ok.1 (Evt.ite (fun hp=>Evt.pos (by omega) (Evt.pos (by omega) (Evt.pos (B_true (ok.2 hp)) hr))) (fun _=>hr)))))
   ·refine Evt.pos hlt (Evt.pos h0 (Evt.bind (specOut_ev _ _ _ _ _ hk) (Evt.ite (fun hl=>Evt.ite (fun hp=>Evt.pos (by omega) (Evt.pos (by omega) (Evt.neg (fun hb=>nok ⟨hl,fun _=>B_iff.1 hb⟩) (Evt.pure _)))) (fun hp=>absurd ⟨hl,fun h=>absurd h hp⟩ nok)) (fun _=>Evt.pure _))))
  ·simp only [spec_OutboxRight.l0]
   exact Evt.neg (by omega) ((Evt.pure true).same (B_true trivial).symm)
theorem implOutbox_ev (l:List S120) (hs:∀ x ∈ l,okO x):Evt (fun k=>impl_OutboxRight.f k l) (outboxB l):=by
 unfold impl_OutboxRight.f
 by_cases hn:(l.length:Int)>60
 ·exact Evt.pos hn ((Evt.pure false).same (B_false (fun h=>by have:=h.1;omega)).symm)
 ·refine Evt.neg hn ?_
  refine (right_loop (l.length:Int) (by omega) (outAt l) True (fun k i=>impl_OutboxRight.l0 k l l (l.length:Int) i) ?_ ?_).same (B_congr ⟨fun h=>⟨by omega,h.1⟩,fun h=>⟨h.2,trivial⟩⟩)
  ·intro i h0 hlt
   have hk:=okO_at hs i hlt h0
   have hw:wrap64 (i+1)=i+1:=w64 (by omega) (by omega)
   have hw1:wrap64 (i - 1)=i - 1:=w64 (by omega) (by omega)
   simp only [impl_OutboxRight.l0,hw,hw1]
   refine ⟨fun ok r hr=>?_,fun nok=>?_⟩
   ·refine Evt.pos hlt (Evt.pos h0 (Evt.pos hlt (Evt.bind (isOut_ev _ _ _ _ _ hk) (Evt.pos ok.1 (Evt.ite (fun hp=>Evt.pos (by omega) (Evt.pos (by omega) (Evt.bind (outOrder_ev _ _ _ _ _ _ _ _ _ _) (Evt.neg (fun h=>(ocmp_iff _ _ _ _).1 h (ok.2 hp)) hr)))) (fun _=>hr))))))
   ·refine Evt.pos hlt (Evt.pos h0 (Evt.pos hlt (Evt.bind (isOut_ev _ _ _ _ _ hk) (Evt.ite (fun hl=>Evt.ite (fun hp=>Evt.pos (by omega) (Evt.pos (by omega) (Evt.bind (outOrder_ev _ _ _ _ _ _ _ _ _ _) (Evt.pos ((ocmp_iff _ _ _ _).2 (fun hb=>nok ⟨hl,fun _=>hb⟩)) (Evt.pure _))))) (fun hp=>absurd ⟨hl,fun h=>absurd h hp⟩ nok)) (fun _=>Evt.pure _)))))
  ·simp only [impl_OutboxRight.l0]
   exact Evt.neg (by omega) ((Evt.pure true).same (B_true trivial).symm)
theorem isCode_ev (n:Int):impl_isCode.f n=some (B (0≤n∧n≤13)):=by
 unfold impl_isCode.f
 rw [within_ev]
 rfl
def seenAt (a:Int) (l:List S155) (i:Int):Prop :=
 a≤(rd_T155 l i).f0∧(rd_T155 l i).f0<a+32∧(rd_T155 l i).f0≤999999∧(0<i→(rd_T155 l (i - 1)).f0<(rd_T155 l i).f0) ∧
  (1≤(rd_T155 l i).f1∧(rd_T155 l i).f1≤999999)∧(0≤(rd_T155 l i).f2∧(rd_T155 l i).f2≤13)
def PartP (p:ByteArray) (a b:Int) (l:List S155):Prop :=
 nameB p=true∧(1≤a∧a≤999999)∧(1≤b∧b≤999999)∧(l.length:Int)≤32∧∀ i,0≤i→i<(l.length:Int)→seenAt a l i
noncomputable def partB (p:ByteArray) (a b:Int) (l:List S155):Bool:=B (PartP p a b l)
theorem specPart_ev (p:ByteArray) (a b:Int) (l:List S155) (hp:(p.size:Int)≤9223372036854775807):Evt (fun k=>spec_PartnerRight.f k p a b l) (partB p a b l):=by
 unfold spec_PartnerRight.f
 have bad:¬ PartP p a b l→Evt (fun k=>spec_PartnerRight.j0 k true p a b l) (partB p a b l):=fun h=>by
  apply Evt.succ
  simp only [spec_PartnerRight.j0,if_true]
  exact (Evt.pure false).same (B_false h).symm
 refine Evt.bind (specName_ev _ hp) (Evt.ite (fun g1=>?_) (fun g1=>bad (fun h=>g1 h.1)))
 refine Evt.bind (Evt.const (l01Control_ev a)) (Evt.ite (fun g2=>?_) (fun g2=>bad (fun h=>g2 (B_true h.2.1))))
 refine Evt.bind (Evt.const (l01Control_ev b)) (Evt.ite (fun g3=>?_) (fun g3=>bad (fun h=>g3 (B_true h.2.2.1))))
 have h2:=B_iff.1 g2
 have h3:=B_iff.1 g3
 by_cases g4:(l.length:Int)>32
 ·rw [decide_eq_true g4]
  exact bad (fun h=>by have:=h.2.2.2.1;omega)
 ·rw [decide_eq_false g4]
  apply Evt.succ
  simp only [spec_PartnerRight.j0,Bool.false_eq_true,if_false]
  refine (right_loop (l.length:Int) (by omega) (seenAt a l) True (fun k i=>spec_PartnerRight.l0 k i p a b l) ?_ ?_).same (B_congr ⟨fun h=>⟨g1,h2,h3,by omega,h.1⟩,fun h=>⟨h.2.2.2.2,trivial⟩⟩)
  ·intro i h0 hlt
   have hw:wrap64 (i+1)=i+1:=w64 (by omega) (by omega)
   have hw1:wrap64 (i - 1)=i - 1:=w64 (by omega) (by omega)
   have hw2:wrap64 (a+32)=a+32:=w64 (by omega) (by omega)
   simp only [spec_PartnerRight.l0,hw,hw1,hw2,l01Control_ev,Option.bind_some]
   refine ⟨fun ok r hr=>?_,fun nok=>?_⟩
   ·obtain ⟨o1,o2,o3,o4,o5,o6⟩:=ok
    have last:Evt (fun k=>if B (1≤(rd_T155 l i).f1∧(rd_T155 l i).f1≤999999)=true then (if (rd_T155 l i).f2<0 then some false else (if (rd_T155 l i).f2>13 then some false else spec_PartnerRight.l0 k (i+1) p a b l)) else some false) r :=
     Evt.pos (B_true o5) (Evt.neg (by omega) (Evt.neg (by omega) hr))
    exact Evt.pos hlt (Evt.pos h0 (Evt.neg (by omega) (Evt.neg (by omega) (Evt.neg (by omega) (Evt.ite (fun hp=>Evt.pos (by omega) (Evt.pos (by omega) (Evt.neg (by have:=o4 hp;omega) last))) (fun _=>last))))))
   ·refine Evt.pos hlt (Evt.pos h0 (Evt.ite (fun _=>Evt.pure _) (fun e1=>Evt.ite (fun _=>Evt.pure _) (fun e2=>Evt.ite (fun _=>Evt.pure _) (fun e3=>?_)))))
    have last:(0<i→(rd_T155 l (i - 1)).f0<(rd_T155 l i).f0)→Evt (fun k=>if B (1≤(rd_T155 l i).f1∧(rd_T155 l i).f1≤999999)=true then (if (rd_T155 l i).f2<0 then some false else (if (rd_T155 l i).f2>13 then some false else spec_PartnerRight.l0 k (i+1) p a b l)) else some false) false:=fun e4 =>
     Evt.ite (fun e5=>Evt.ite (fun _=>Evt.pure _) (fun e6=>Evt.ite (fun _=>Evt.pure _) (fun e7=>absurd ⟨by omega,by omega,by omega,e4,B_iff.1 e5,by omega,by omega⟩ nok))) (fun _=>Evt.pure _)
    exact Evt.ite (fun hp=>Evt.pos (by omega) (Evt.pos (by omega) (Evt.ite (fun _=>Evt.pure _) (fun e4=>last (fun _=>by omega))))) (fun hp=>last (fun h=>absurd h hp))
  ·simp only [spec_PartnerRight.l0]
   exact Evt.neg (by omega) ((Evt.pure true).same (B_true trivial).symm)
def seenI (a:Int) (l:List S155) (i:Int):Prop :=
 (a≤(rd_T155 l i).f0∧(rd_T155 l i).f0≤999999)∧¬ (wrap64 ((rd_T155 l i).f0 - a)≥32)∧(1≤(rd_T155 l i).f1∧(rd_T155 l i).f1≤999999)∧(0≤(rd_T155 l i).f2∧(rd_T155 l i).f2≤13) ∧
  (0<i→(rd_T155 l (i - 1)).f0<(rd_T155 l i).f0)
theorem seen_up {a:Int} {l:List S155} (h:∀ i,0≤i→i<(l.length:Int)→seenAt a l i) (d:Nat) (hd:(d:Int)<(l.length:Int)):a+d≤(rd_T155 l (d:Int)).f0:=by
 induction d with
 | zero=>have:=(h 0 (Int.le_refl _) hd).1;simpa using this
 | succ d ih =>
  have h1:=ih (by omega)
  have h2:=(h ((d+1:Nat):Int) (by omega) hd).2.2.2.1 (by omega)
  rw [show ((d+1:Nat):Int) - 1=(d:Int) by omega] at h2
  omega
theorem part_iff (p:ByteArray) (a b:Int) (l:List S155):((∀ i,0≤i→i<(l.length:Int)→seenI a l i)∧nameB p=true∧(1≤a∧a≤999999)∧(1≤b∧b≤999999)) ↔ PartP p a b l:=by
 constructor
 ·rintro ⟨h,h1,h2,h3⟩
  have h4:∀ i,0≤i→i<(l.length:Int)→seenAt a l i:=fun i h0 hlt=>by
   obtain ⟨g1,g2,g3,g4,g5⟩:=h i h0 hlt
   rw [w64 (by omega) (by omega)] at g2
   exact ⟨g1.1,by omega,g1.2,g5,g3,g4⟩
  refine ⟨h1,h2,h3,?_,h4⟩
  by_cases hl:l.length=0
  ·omega
  ·have h5:=seen_up h4 (l.length - 1) (by omega)
   have h6:=(h4 ((l.length - 1:Nat):Int) (by omega) (by omega)).2.1
   omega
 ·rintro ⟨h1,h2,h3,h4,h5⟩
  refine ⟨fun i h0 hlt=>?_,h1,h2,h3⟩
  obtain ⟨g1,g2,g3,g4,g5,g6⟩:=h5 i h0 hlt
  refine ⟨⟨g1,g3⟩,?_,g5,g6,g4⟩
  rw [w64 (by omega) (by omega)]
  omega
theorem implPart_ev (p:ByteArray) (a b:Int) (l:List S155) (hp:(p.size:Int)≤9223372036854775807) (hl:(l.length:Int)≤9000000):Evt (fun k=>impl_PartnerRight.f k p a b l) (partB p a b l):=by
 unfold impl_PartnerRight.f
 refine (right_loop (l.length:Int) (by omega) (seenI a l) (nameB p=true∧(1≤a∧a≤999999)∧(1≤b∧b≤999999)) (fun k i=>impl_PartnerRight.l0 k l (l.length:Int) i p a b l) ?_ ?_).same (B_congr (part_iff p a b l))
 ·intro i h0 hlt
  have hw:wrap64 (i+1)=i+1:=w64 (by omega) (by omega)
  have hw1:wrap64 (i - 1)=i - 1:=w64 (by omega) (by omega)
  simp only [impl_PartnerRight.l0,hw,hw1,within_ev,isControl_ev,isCode_ev,Option.bind_some]
  refine ⟨fun ok r hr=>?_,fun nok=>?_⟩
  ·obtain ⟨o1,o2,o3,o4,o5⟩:=ok
   exact Evt.pos hlt (Evt.pos h0 (Evt.pos hlt (Evt.pos (B_true o1) (Evt.neg o2 (Evt.pos (B_true o3) (Evt.pos (B_true o4) (Evt.ite (fun hp=>Evt.pos (by omega) (Evt.pos (by omega) (Evt.neg (by have:=o5 hp;omega) hr))) (fun _=>hr))))))))
  ·exact Evt.pos hlt (Evt.pos h0 (Evt.pos hlt (Evt.ite (fun e1=>Evt.ite (fun _=>Evt.pure _) (fun e2=>Evt.ite (fun e3=>Evt.ite (fun e4=>Evt.ite (fun hp=>Evt.pos (by omega) (Evt.pos (by omega) (Evt.ite (fun _=>Evt.pure _) (fun e5=>absurd ⟨B_iff.1 e1,e2,B_iff.1 e3,B_iff.1 e4,fun _=>by omega⟩ nok)))) (fun hp=>absurd ⟨B_iff.1 e1,e2,B_iff.1 e3,B_iff.1 e4,fun h=>absurd h hp⟩ nok)) (fun _=>Evt.pure _)) (fun _=>Evt.pure _))) (fun _=>Evt.pure _))))
 ·simp only [impl_PartnerRight.l0]
  exact Evt.neg (by omega) (Evt.bind (implName_ev p hp) (and_ Iff.rfl (fun _=>Evt.bind (Evt.const (isControl_ev a)) (and_ B_iff (fun _=>Evt.bind (Evt.const (isControl_ev b)) (lastB_ Iff.rfl))))))
theorem szSeenS_ev (l:List S179) (hl:l.length≤9223372036854775807) (x:Int) (h0:0≤x) (h1:x≤1048576):∃ r,laws_szSeenS.f l x=some r∧(r<0∨(0≤r∧r≤x∧l.length≤1048576)):=by
 unfold laws_szSeenS.f
 rw [wsub h0 h1 (by omega) (by omega)]
 by_cases h:x - (l.length:Int)<0
 ·exact ⟨-1,by rw [if_pos h],.inl (by decide)⟩
 ·exact ⟨_,by rw [if_neg h],.inr ⟨by omega,by omega,by omega⟩⟩
theorem szPartner_ev (p:ByteArray) (a b:Int) (l:List S179) (x:Int) (h0:0≤x) (h1:x≤1048576) (hp:(p.size:Int)≤9223372036854775807) (hl:l.length≤9223372036854775807) :
  ∃ r,laws_szPartner.f p a b l x=some r∧(r<0∨(0≤r∧r≤x∧l.length≤1048576)):=by
 unfold laws_szPartner.f
 refine sz_step h0 h1 (by omega) hp (fun g1=>?_)
 rw [wsub h0 h1 (by omega) hp]
 obtain ⟨t,ht,h2⟩:=szSeenS_ev l hl (x - (p.size:Int)) g1 (by omega)
 rw [ht]
 simp only [Option.bind_some]
 rcases h2 with h2 | ⟨h2,h3,h4⟩
 ·exact ⟨-1,by rw [if_pos h2],.inl (by decide)⟩
 ·exact ⟨t,by rw [if_neg (by omega)],.inr ⟨h2,h3,h4⟩⟩
def okLP (x:S93):Prop:=(x.f0.size:Int)≤9223372036854775807∧x.f3.length≤9223372036854775807
theorem okLP_of {x:S93} (h:wf93 x):okLP x:=by
 have g0:x.f0.size≤2 ^ 63 - 1:=h.1
 have g1:x.f3.length≤2 ^ 63 - 1:=h.2.2.2.1
 exact ⟨by omega,by omega⟩
theorem szPartnerS_ev (l:List S93) (hl:l.length≤9223372036854775807) (hx:∀ x ∈ l,okLP x) (left:Int) (h0:0≤left) (h1:left≤1048576) :
  SzR (fun k=>laws_szPartnerS.f k l left) left (l.length≤1048576∧∀ i:Int,0≤i→i<(l.length:Int)→(rd_T93 l i).f3.length≤1048576):=by
 refine sz_loop l.length hl (fun i=>(rd_T93 l i).f3.length≤1048576) _ (fun k s i=>laws_szPartnerS.l0 k l s i) left h0 h1 (fun k=>rfl) ?_ ?_
 ·intro s i h0 hlt hs0 hs1
  have hw:wrap64 (i+1)=i+1:=w64 (by omega) (by omega)
  have hk:okLP (rd_T93 l i):=by
   unfold rd_T93
   rw [getD_at l _ _ (by omega)]
   exact hx _ (List.getElem_mem _)
  obtain ⟨t,ht,h2⟩:=szPartner_ev (rd_T93 l i).f0 (rd_T93 l i).f1 (rd_T93 l i).f2 (rd_T93 l i).f3 s hs0 hs1 hk.1 hk.2
  simp only [laws_szPartnerS.l0,ht,Option.bind_some,hw]
  rcases h2 with h2 | ⟨h2,h3,h4⟩
  ·exact .inl ⟨-1,by decide,Evt.pos hlt (Evt.pos h0 (Evt.pos h2 (Evt.pure _)))⟩
  ·exact .inr ⟨t,h2,h3,h4,fun r hr=>Evt.pos hlt (Evt.pos h0 (Evt.neg (by omega) hr))⟩
 ·intro s i hi
  simp only [laws_szPartnerS.l0]
  exact Evt.neg (by omega) (Evt.pure _)
def cvSeen (x:S179):S155:=⟨x.f0,x.f1,x.f2⟩
def cvPart (x:S93):S83:=⟨x.f0,x.f1,x.f2,x.f3.map cvSeen⟩
theorem toSeenS_ev (l:List S179) (hl:l.length≤1048576):Evt (fun k=>laws_toSeenS.f k l) (l.map cvSeen):=by
 unfold laws_toSeenS.f
 refine Evt.pos (by omega) (Evt.pos (by omega) ?_)
 rw [Int.toNat_natCast]
 refine fill_loop l z179 z155 cvSeen (fun k acc i=>laws_toSeenS.l0 k l acc i) ?_ ?_
 ·intro acc i h0 hlt ha r hr
  have hw:wrap64 (i+1)=i+1:=w64 (by omega) (by omega)
  simp only [laws_toSeenS.l0,laws_toSeen.f,Option.bind_some,hw]
  exact Evt.pos hlt (Evt.pos h0 (Evt.pos (by omega) hr))
 ·intro acc i hi
  simp only [laws_toSeenS.l0]
  exact Evt.neg (by omega) (Evt.pure _)
theorem toPartnerS_ev (l:List S93) (hl:l.length≤1048576) (hi:∀ i:Int,0≤i→i<(l.length:Int)→(rd_T93 l i).f3.length≤1048576):Evt (fun k=>laws_toPartnerS.f k l) (l.map cvPart):=by
 unfold laws_toPartnerS.f
 refine Evt.pos (by omega) (Evt.pos (by omega) ?_)
 rw [Int.toNat_natCast]
 refine fill_loop l z93 z83 cvPart (fun k acc i=>laws_toPartnerS.l0 k l acc i) ?_ ?_
 ·intro acc i h0 hlt ha r hr
  have hw:wrap64 (i+1)=i+1:=w64 (by omega) (by omega)
  simp only [laws_toPartnerS.l0,laws_toPartner.f,hw]
  exact Evt.pos hlt (Evt.pos h0 (Evt.bind (Evt.bind (toSeenS_ev _ (hi i h0 hlt)) (Evt.pure _)) (Evt.pos (by omega) hr)))
 ·intro acc i hi
  simp only [laws_toPartnerS.l0]
  exact Evt.neg (by omega) (Evt.pure _)
theorem eqSeenS_refl (l:List S155) (hl:l.length≤9000000):Evt (fun k=>laws_eqSeenS.f k l l) true:=by
 unfold laws_eqSeenS.f
 refine Evt.pos rfl (all_loop (l.length:Int) (by omega) (fun k i=>laws_eqSeenS.l0 k l l i) ?_ ?_)
 ·intro i h0 hlt ih
  have hw:wrap64 (i+1)=i+1:=w64 (by omega) (by omega)
  simp only [laws_eqSeenS.l0,laws_eqSeen.f,if_true,Option.bind_some,hw]
  exact Evt.pos hlt (Evt.pos h0 (Evt.pos hlt ih))
 ·simp only [laws_eqSeenS.l0]
  exact Evt.neg (by omega) (Evt.pure _)
def okP (x:S83):Prop:=(x.f0.size:Int)≤9223372036854775807∧(x.f3.length:Int)≤9000000
theorem okP_at {l:List S83} (h:∀ x ∈ l,okP x) (i:Int) (h1:i<(l.length:Int)) (h0:0≤i):okP (rd_T83 l i):=by
 unfold rd_T83
 rw [getD_at l _ _ (by omega)]
 exact h _ (List.getElem_mem _)
theorem okP_map (l:List S93) (h:∀ x ∈ l,okLP x) (hi:∀ i:Int,0≤i→i<(l.length:Int)→(rd_T93 l i).f3.length≤1048576):∀ x ∈ l.map cvPart,okP x:=by
 intro x hx
 obtain ⟨y,hy,rfl⟩:=List.mem_map.1 hx
 obtain ⟨q,hq,rfl⟩:=List.mem_iff_getElem.1 hy
 have h1:=hi (q:Int) (by omega) (by omega)
 unfold rd_T93 at h1
 rw [Int.toNat_natCast,getD_at l _ _ hq] at h1
 refine ⟨(h _ hy).1,?_⟩
 show ((l[q].f3.map cvSeen).length:Int)≤9000000
 rw [List.length_map]
 omega
theorem eqPartnerS_refl (l:List S83) (hl:l.length≤9000000) (h:∀ x ∈ l,okP x):Evt (fun k=>laws_eqPartnerS.f k l l) true:=by
 unfold laws_eqPartnerS.f
 refine Evt.pos rfl (all_loop (l.length:Int) (by omega) (fun k i=>laws_eqPartnerS.l0 k l l i) ?_ ?_)
 ·intro i h0 hlt ih
  have hw:wrap64 (i+1)=i+1:=w64 (by omega) (by omega)
  have hk:=okP_at h i hlt h0
  simp only [laws_eqPartnerS.l0,laws_eqPartner.f,if_true,hw]
  exact Evt.pos hlt (Evt.pos h0 (Evt.pos hlt (Evt.bind (Evt.bind (eqSeenS_refl _ (by have:=hk.2;omega)) (Evt.pos rfl (Evt.pure true))) (Evt.pos rfl ih))))
 ·simp only [laws_eqPartnerS.l0]
  exact Evt.neg (by omega) (Evt.pure _)
end Go.Proofs.YtomoflpgdbjojaaGreat.QN
