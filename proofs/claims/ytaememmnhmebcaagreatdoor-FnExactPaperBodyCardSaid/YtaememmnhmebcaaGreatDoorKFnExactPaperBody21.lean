-- Merged by a program of this session (wip/tool/pack.py) out of its own texts for this claim.
import Derived.Lib.IndexMore
import Derived.Test.YtaememmnhmebcaaGreatDoorKFnExactPaperBody20
set_option linter.unusedVariables false
namespace Go.Proofs.YtaememmnhmebcaaGreatDoor.QB
open Go.RowKit Go.Proofs.YtaememmnhmebcaaGreatDoorW.PrintWords Go.Proofs.YtaememmnhmebcaaGreatDoor.Ev0 Go.Proofs.YtaememmnhmebcaaGreatDoor.Num
theorem num_zero (t:List UInt8) (h:isNum t):valT t=0 ↔ t=[48]:=by
 constructor
 ·intro e
  have:=num_itoa t h
  rw [e] at this
  rw [← this]
  unfold Lib.itoa
  rw [if_neg (by decide),show (0:Int).toNat=0 from rfl,Lib.decDigits,dif_pos (by decide)]
  rfl
 ·rintro rfl
  rfl
theorem num_12 (t:List UInt8) (h:isNum t) (g0 : -1000000000≤valT t) (g1:valT t≤1000000000):(digs t).length≤12:=by
 refine num_len t h ?_
 unfold valT at g0 g1
 split at g0 <;> rename_i e
 ·rw [if_pos e] at g1;omega
 ·rw [if_neg e] at g1;omega
def PartPr (s:ByteArray):Prop:=(s.size:Int)≤40∧∀ i:Int,0≤i→i<(s.size:Int)→32≤bt s i∧bt s i≤126
theorem implPt_ev (s:ByteArray) (hs:(s.size:Int)≤9223372036854775806):Evt (fun k=>impl_isPart.f k s) (B (PartPr s)):=by
 unfold impl_isPart.f impl_isPrinted.f
 refine and_ Iff.rfl (fun h=>?_)
 refine (Evt.bind (right_loop (s.size:Int) (by omega) (fun i=>32≤bt s i∧bt s i≤126) True (fun k i=>impl_isPrinted.l0 k s (s.size:Int) i) ?_ ?_) (Evt.pure _)).same (B_congr ⟨fun x=>x.1,fun x=>⟨x,trivial⟩⟩)
 ·intro i h0 hlt
  have hw:wrap64 (i+1)=i+1:=w64 (by omega) (by omega)
  simp only [impl_isPrinted.l0,hw]
  refine ⟨fun hk r hr=>Evt.pos hlt (Evt.pos h0 (Evt.pos hlt (Evt.neg (by omega) (Evt.neg (by omega) hr)))),fun hk=>Evt.pos hlt (Evt.pos h0 (Evt.pos hlt (Evt.ite (fun _=>Evt.pure _) (fun _=>Evt.pos (by omega) (Evt.pure _)))))⟩
 ·simp only [impl_isPrinted.l0]
  exact Evt.neg (by omega) ((Evt.pure _).same (B_true trivial).symm)
theorem specPt_ev (s:ByteArray) (hs:(s.size:Int)≤9223372036854775806):Evt (fun k=>spec_l02Part.f k s) (B (PartPr s)):=by
 unfold spec_l02Part.f
 refine fail_ (by omega) (fun h=>?_)
 refine (right_loop (s.size:Int) (by omega) (fun i=>32≤bt s i∧bt s i≤126) True (fun k i=>spec_l02Part.l0 k s i) ?_ ?_).same (B_congr ⟨fun x=>x.1,fun x=>⟨x,trivial⟩⟩)
 ·intro i h0 hlt
  have hw:wrap64 (i+1)=i+1:=w64 (by omega) (by omega)
  simp only [spec_l02Part.l0,hw]
  refine ⟨fun hk r hr=>Evt.pos hlt (Evt.pos h0 (Evt.neg (by omega) (Evt.neg (by omega) hr))),fun hk=>Evt.pos hlt (Evt.pos h0 (Evt.ite (fun _=>Evt.pure _) (fun _=>Evt.pos (by omega) (Evt.pure _))))⟩
 ·simp only [spec_l02Part.l0]
  exact Evt.neg (by omega) ((Evt.pure _).same (B_true trivial).symm)
def okF (c:Int):Prop:=c=114∨c=110∨c=113∨c=122∨c=100∨c=116
theorem l01Day_ev (n:Int):spec_l01Day.f n=some (B (0≤n∧n≤100000)):=by
 unfold spec_l01Day.f
 by_cases h:n≥0
 ·rw [if_pos h,decide_B]
  exact congrArg some (B_congr ⟨fun x=>⟨h,x⟩,fun x=>x.2⟩)
 ·rw [if_neg h,B_false (fun x=>h x.1)]
theorem el_ev (c : Int) (hc : okF c) (l : List ByteArray) (hl : (l.length : Int) = 1) (hs : (rdOf ByteArray.empty l 0).size ≤ 1048576) :
    ∃ b, Evt (fun k => spec_l04Element.f k c l) b ∧ Evt (fun k => impl_isOf.f k c (rdOf ByteArray.empty l 0)) b := by
  generalize hg : rdOf ByteArray.empty l 0 = s at hs
  obtain ⟨v, hv, hvT⟩ := l01Num_ev s (by omega)
  have start : ∀ b, Evt (fun k => if c = 114 then ((spec_l01Name.f k s).bind fun t145 => (some t145)) else (if c = 110 then (if (v, B (isNum s.data.toList ∧ (digs s.data.toList).length ≤ 12)).2 = true then (if (v, B (isNum s.data.toList ∧ (digs s.data.toList).length ≤ 12)).1 ≥ 0 then (some (decide ((v, B (isNum s.data.toList ∧ (digs s.data.toList).length ≤ 12)).1 ≤ 1000000000))) else (some false)) else (some false)) else (if c = 113 then (if (v, B (isNum s.data.toList ∧ (digs s.data.toList).length ≤ 12)).2 = true then ((spec_l01Qty.f (v, B (isNum s.data.toList ∧ (digs s.data.toList).length ≤ 12)).1).bind fun t146 => (some t146)) else (some false)) else (if c = 122 then (if (v, B (isNum s.data.toList ∧ (digs s.data.toList).length ≤ 12)).2 = true then (if (v, B (isNum s.data.toList ∧ (digs s.data.toList).length ≤ 12)).1 ≥ (-1000000) then (if (v, B (isNum s.data.toList ∧ (digs s.data.toList).length ≤ 12)).1 ≤ 1000000 then (some ((v, B (isNum s.data.toList ∧ (digs s.data.toList).length ≤ 12)).1 != 0)) else (some false)) else (some false)) else (some false)) else (if c = 100 then (if (v, B (isNum s.data.toList ∧ (digs s.data.toList).length ≤ 12)).2 = true then ((spec_l01Day.f (v, B (isNum s.data.toList ∧ (digs s.data.toList).length ≤ 12)).1).bind fun t147 => (some t147)) else (some false)) else (if s.toList = ([] : List UInt8) then (some false) else ((spec_l02Part.f k s).bind fun t148 => (some t148)))))))) b → Evt (fun k => spec_l04Element.f k c l) b := fun b hb => by
    unfold spec_l04Element.f
    rw [hg]
    exact Evt.pos hl (Evt.pos (by omega) (Evt.bind hv hb))
  -- the numbers: one bound from below, one from above
  have num : ∀ lo hi : Int, -1000000000 ≤ lo → hi ≤ 1000000000 → ∃ w, Evt (fun k => impl_numberIn.f k s lo hi) (w, B ((isNum s.data.toList ∧ (digs s.data.toList).length ≤ 12) ∧ lo ≤ v ∧ v ≤ hi)) := fun lo hi h0 h1 => by
    obtain ⟨w, hw, _⟩ := numberIn_ev s (by omega) lo hi h0 h1
    refine ⟨w, hw.same (congrArg _ (B_congr ⟨fun h => ?_, fun h => ?_⟩))⟩
    · have h12 := num_12 _ h.1 (by omega) (by omega)
      rw [hvT h.1 h12]
      exact ⟨⟨h.1, h12⟩, h.2⟩
    · have e := hvT h.1.1 h.1.2
      rw [e] at h
      exact ⟨h.1.1, h.2⟩
  have no : ∀ q : Prop, ¬ (isNum s.data.toList ∧ (digs s.data.toList).length ≤ 12) → false = B ((isNum s.data.toList ∧ (digs s.data.toList).length ≤ 12) ∧ q) := fun q hn => (B_false (fun x => hn x.1)).symm
  rcases hc with rfl | rfl | rfl | rfl | rfl | rfl
  · refine ⟨nameB s, start _ (Evt.pos rfl (Evt.bind (specName_ev s (by omega)) (Evt.pure _))), ?_⟩
    unfold impl_isOf.f
    exact Evt.pos rfl (Evt.bind (implName_ev s (by omega)) (Evt.pure _))
  · obtain ⟨w, hw⟩ := num 0 1000000000 (by decide) (by decide)
    refine ⟨B ((isNum s.data.toList ∧ (digs s.data.toList).length ≤ 12) ∧ 0 ≤ v ∧ v ≤ 1000000000), start _ (Evt.neg (by decide) (Evt.pos rfl (Evt.ite (fun h => ?_) (fun h => (Evt.pure _).same (no _ (fun x => h (B_true x))))))), ?_⟩
    rotate_left
    · unfold impl_isOf.f
      exact Evt.neg (by decide) (Evt.pos rfl (Evt.bind hw (Evt.pure _)))
    · have h' := B_iff.1 h
      exact Evt.ite (fun h1 => (Evt.pure _).same ((decide_B _).trans (B_congr ⟨fun x => ⟨h', h1, x⟩, fun x => x.2.2⟩))) (fun h1 => (Evt.pure _).same (B_false (fun x => h1 x.2.1)).symm)
  · obtain ⟨w, hw⟩ := num 1 1000000 (by decide) (by decide)
    refine ⟨B ((isNum s.data.toList ∧ (digs s.data.toList).length ≤ 12) ∧ 1 ≤ v ∧ v ≤ 1000000), start _ (Evt.neg (by decide) (Evt.neg (by decide) (Evt.pos rfl (Evt.ite (fun h => ?_) (fun h => (Evt.pure _).same (no _ (fun x => h (B_true x)))))))), ?_⟩
    rotate_left
    · unfold impl_isOf.f
      exact Evt.neg (by decide) (Evt.neg (by decide) (Evt.pos rfl (Evt.bind hw (Evt.pure _))))
    · have h' := B_iff.1 h
      simp only [l01Qty_ev, Option.bind_some]
      exact (Evt.pure _).same (B_congr ⟨fun x => ⟨h', x⟩, fun x => x.2⟩)
  · obtain ⟨w, hw⟩ := num (-1000000) 1000000 (by decide) (by decide)
    by_cases h : isNum s.data.toList ∧ (digs s.data.toList).length ≤ 12
    · have e := hvT h.1 h.2
      have hz : (v != 0) = (s.toList != ([48] : List UInt8)) := by
        have hnz := num_zero _ h.1
        rw [← e] at hnz
        by_cases z : v = 0
        · rw [show (v != 0) = false by simp [z], show (s.toList != ([48] : List UInt8)) = false by simp [(str_of s _).2 (hnz.1 z)]]
        · rw [show (v != 0) = true by simp [z], show (s.toList != ([48] : List UInt8)) = true by simp only [bne_iff_ne, ne_eq]; exact fun x => z (hnz.2 ((str_of s _).1 x))]
      by_cases g : -1000000 ≤ v ∧ v ≤ 1000000
      · refine ⟨v != 0, start _ (Evt.neg (by decide) (Evt.neg (by decide) (Evt.neg (by decide) (Evt.pos rfl (Evt.pos (B_true h) (Evt.pos g.1 (Evt.pos g.2 (Evt.pure _)))))))), ?_⟩
        unfold impl_isOf.f
        refine Evt.neg (by decide) (Evt.neg (by decide) (Evt.neg (by decide) (Evt.pos rfl (Evt.bind hw (Evt.pos (B_true ⟨h, g⟩) ((Evt.pure _).same hz.symm))))))
      · refine ⟨false, start _ (Evt.neg (by decide) (Evt.neg (by decide) (Evt.neg (by decide) (Evt.pos rfl (Evt.pos (B_true h) (Evt.ite (fun g1 => Evt.neg (fun g2 => g ⟨g1, g2⟩) (Evt.pure _)) (fun _ => Evt.pure _))))))), ?_⟩
        unfold impl_isOf.f
        refine Evt.neg (by decide) (Evt.neg (by decide) (Evt.neg (by decide) (Evt.pos rfl (Evt.bind hw (Evt.neg (by rw [B_false (fun x => g x.2)]; exact Bool.false_ne_true) (Evt.pure _))))))
    · refine ⟨false, start _ (Evt.neg (by decide) (Evt.neg (by decide) (Evt.neg (by decide) (Evt.pos rfl (Evt.neg (by rw [B_false h]; exact Bool.false_ne_true) (Evt.pure _)))))), ?_⟩
      unfold impl_isOf.f
      refine Evt.neg (by decide) (Evt.neg (by decide) (Evt.neg (by decide) (Evt.pos rfl (Evt.bind hw (Evt.neg (by rw [← no _ h]; exact Bool.false_ne_true) (Evt.pure _))))))
  · obtain ⟨w, hw⟩ := num 0 100000 (by decide) (by decide)
    refine ⟨B ((isNum s.data.toList ∧ (digs s.data.toList).length ≤ 12) ∧ 0 ≤ v ∧ v ≤ 100000), start _ (Evt.neg (by decide) (Evt.neg (by decide) (Evt.neg (by decide) (Evt.neg (by decide) (Evt.pos rfl (Evt.ite (fun h => ?_) (fun h => (Evt.pure _).same (no _ (fun x => h (B_true x)))))))))), ?_⟩
    rotate_left
    · unfold impl_isOf.f
      exact Evt.neg (by decide) (Evt.neg (by decide) (Evt.neg (by decide) (Evt.neg (by decide) (Evt.pos rfl (Evt.bind hw (Evt.pure _))))))
    · have h' := B_iff.1 h
      simp only [l01Day_ev, Option.bind_some]
      exact (Evt.pure _).same (B_congr ⟨fun x => ⟨h', x⟩, fun x => x.2⟩)
  · by_cases hn : s.toList = ([] : List UInt8)
    · refine ⟨false, start _ (Evt.neg (by decide) (Evt.neg (by decide) (Evt.neg (by decide) (Evt.neg (by decide) (Evt.neg (by decide) (Evt.pos hn (Evt.pure _))))))), ?_⟩
      unfold impl_isOf.f
      exact Evt.neg (by decide) (Evt.neg (by decide) (Evt.neg (by decide) (Evt.neg (by decide) (Evt.neg (by decide) (Evt.pos rfl (Evt.pos hn (Evt.pure _)))))))
    · refine ⟨B (PartPr s), start _ (Evt.neg (by decide) (Evt.neg (by decide) (Evt.neg (by decide) (Evt.neg (by decide) (Evt.neg (by decide) (Evt.neg hn (Evt.bind (specPt_ev s (by omega)) (Evt.pure _)))))))), ?_⟩
      unfold impl_isOf.f
      exact Evt.neg (by decide) (Evt.neg (by decide) (Evt.neg (by decide) (Evt.neg (by decide) (Evt.neg (by decide) (Evt.pos rfl (Evt.neg hn (Evt.bind (implPt_ev s (by omega)) (Evt.pure _))))))))
end Go.Proofs.YtaememmnhmebcaaGreatDoor.QB
namespace Go.Proofs.YtaememmnhmebcaaGreatDoor.QB
open Go.RowKit Go.Proofs.YtaememmnhmebcaaGreatDoorW.PrintWords Go.Proofs.YtaememmnhmebcaaGreatDoor.Ev0 Go.Proofs.YtaememmnhmebcaaGreatDoor.Num
def fPre (t:List UInt8):List UInt8:=t.takeWhile (· != 63)
def fPost (t:List UInt8):List UInt8:=(t.dropWhile (· != 63)).tail
def okL (l:List UInt8):Prop:=∀ c ∈ l,okF (c.toNat:Int)
def nums (l:List UInt8):List Int:=l.map fun b=>(b.toNat:Int)
theorem nums_bs8 (l:List UInt8):bytesOf (bs8 l)=nums l:=by simp [bytesOf,bs8,nums]
theorem rd_nums (l:List UInt8) (i:Int):rd (nums l) i=bt (bs8 l) i:=by rw [← nums_bs8,rd_bytesOf]
theorem index_63 (t:List UInt8):(Lib.index t [63] = -1∧fPre t=t∧fPost t=[])∨(0≤Lib.index t [63]∧fPre t=t.take (Lib.index t [63]).toNat∧fPost t=t.drop ((Lib.index t [63]).toNat+1)):=by
 induction t with
 | nil=>exact .inl ⟨rfl,rfl,rfl⟩
 | cons b l ih =>
  unfold Lib.index
  by_cases h:b=63
  ·subst h
   refine .inr ?_
   rw [if_pos (by simp [List.isPrefixOf])]
   exact ⟨by decide,by simp [fPre],by simp [fPost]⟩
  ·rw [if_neg (by simp [List.isPrefixOf];exact fun e=>h e.symm)]
   have hp:fPre (b :: l)=b :: fPre l:=by simp [fPre,h]
   have hq:fPost (b :: l)=fPost l:=by simp [fPost,h]
   rcases ih with ⟨h1,h2,h3⟩ | ⟨h1,h2,h3⟩
   ·rw [h1]
    exact .inl ⟨rfl,by rw [hp,h2],by rw [hq,h3]⟩
   ·refine .inr ?_
    have hne:¬ (Lib.index l [63] == -1)=true:=by simp;omega
    rw [if_neg hne]
    have e:(Lib.index l [63]+1).toNat=(Lib.index l [63]).toNat+1:=by omega
    exact ⟨by omega,by rw [hp,h2,e,List.take_succ_cons],by rw [hq,h3,e,List.drop_succ_cons]⟩
theorem cut_63 (t:List UInt8):(Lib.cut t [63]).1=fPre t∧(Lib.cut t [63]).2.1=fPost t:=by
 unfold Lib.cut
 rcases index_63 t with ⟨h1,h2,h3⟩ | ⟨h1,h2,h3⟩
 ·rw [if_neg (by omega),h2,h3]
  exact ⟨rfl,rfl⟩
 ·rw [if_pos h1,h2,h3]
  exact ⟨rfl,rfl⟩
theorem idx_neg (l:List UInt8) (c:UInt8):Lib.indexByte l c<0 ↔ c ∉ l:=by
 induction l with
 | nil=>simp [Lib.indexByte]
 | cons b l ih =>
  unfold Lib.indexByte
  by_cases h:b=c
  ·subst h;simp
  ·rw [if_neg (by simpa using h)]
   have hc:c ∉ b :: l ↔ c ∉ l:=by simp [Ne.symm h]
   rw [hc,← ih]
   by_cases g:Lib.indexByte l c = -1
   ·rw [if_pos (by rw [g];rfl)];omega
   ·rw [if_neg (by simpa using g)]
    have : -1≤Lib.indexByte l c:=by
     clear ih hc g h
     induction l with
     | nil=>exact Int.le_refl _
     | cons b l ih =>
      unfold Lib.indexByte
      split
      ·omega
      ·split <;> omega
    omega
theorem pass_loop {ρ:Type} (n:Int) (ok:Int→Prop) (r0:ρ) (F:Nat→Int→Option ρ)
  (step:∀ i,0≤i→i<n→(ok i→∀ r,Evt (fun k=>F k (i+1)) r→Evt (fun k=>F (k+1) i) r)∧(¬ ok i→Evt (fun k=>F (k+1) i) r0)) (d:Nat):∀ i:Int,0≤i→i≤n→n - i≤d →
  ((∀ j,i≤j→j<n→ok j)→∀ r,Evt (fun k=>F k n) r→Evt (fun k=>F k i) r)∧(¬ (∀ j,i≤j→j<n→ok j)→Evt (fun k=>F k i) r0):=by
 induction d with
 | zero =>
  intro i h0 h1 hd
  obtain rfl:i=n:=by omega
  exact ⟨fun _ r hr=>hr,fun h=>absurd (fun j g0 g1=>absurd g1 (by omega)) h⟩
 | succ d ih =>
  intro i h0 h1 hd
  by_cases hlt:i<n
  ·obtain ⟨i1,i2⟩:=ih (i+1) (by omega) (by omega) (by omega)
   by_cases hk:ok i
   ·refine ⟨fun h r hr=>((step i h0 hlt).1 hk r (i1 (fun j g0 g1=>h j (by omega) g1) r hr)).succ,fun h=>((step i h0 hlt).1 hk r0 (i2 (fun g=>h (fun j g0 g1=>?_)))).succ⟩
    by_cases e:j=i
    ·rw [e];exact hk
    ·exact g j (by omega) g1
   ·exact ⟨fun h=>absurd (h i (Int.le_refl _) hlt) hk,fun _=>((step i h0 hlt).2 hk).succ⟩
  ·obtain rfl:i=n:=by omega
   exact ⟨fun _ r hr=>hr,fun h=>absurd (fun j g0 g1=>absurd g1 (by omega)) h⟩
section
variable (tag : ByteArray) (els : List S77)
theorem form_two (form:ByteArray) (hf:form.size≤20000) (m:Int) (hm:0≤m) (rest:List UInt8):∀ done x,form.data.toList=done++rest→x.length≤done.length →
  (okL rest→∀ r,Evt (fun k=>spec_FormRight.j1 k (x++nums rest) m tag els) r→Evt (fun k=>spec_FormRight.l0 k form x m (done.length:Int) tag els) r) ∧
  (¬ okL rest→Evt (fun k=>spec_FormRight.l0 k form x m (done.length:Int) tag els) 0):=by
 induction rest with
 | nil =>
  intro done x hd hx
  have hl:form.size=done.length:=by rw [← data_length,hd];simp
  refine ⟨fun _ r hr=>?_,fun h=>absurd (fun c hc=>by cases hc) h⟩
  apply Evt.succ
  simp only [spec_FormRight.l0]
  refine Evt.neg (by omega) (Evt.neg (by omega) ?_)
  rw [show x++nums []=x by simp [nums]] at hr
  exact hr
 | cons c rest ih =>
  intro done x hd hx
  have hl:form.size=done.length+(rest.length+1):=by rw [← data_length,hd];simp
  have hlt:(done.length:Int)<(form.size:Int):=by omega
  obtain ⟨c',h1,h2⟩:=bt_get form (done.length:Int) (by omega) hlt
  have hc:c'=c:=by
   rw [hd,Int.toNat_natCast] at h1
   simpa using h1.symm
  subst hc
  have hw:wrap64 ((done.length:Int)+1)=((done++[c']).length:Int):=by rw [w64 (by omega) (by omega)];simp
  obtain ⟨i1,i2⟩:=ih (done++[c']) (x++[(c'.toNat:Int)]) (by rw [hd];simp) (by simp;omega)
  have e:x++[(c'.toNat:Int)]++nums rest=x++nums (c' :: rest):=by simp [nums]
  rw [e] at i1
  have go:okF (c'.toNat:Int)→∀ r,Evt (fun k=>spec_FormRight.l0 k form (x++[(c'.toNat:Int)]) m ((done++[c']).length:Int) tag els) r→Evt (fun k=>spec_FormRight.l0 k form x m (done.length:Int) tag els) r:=fun hg r hr=>by
   apply Evt.succ
   simp only [spec_FormRight.l0,h2,hw]
   have hlen:x.length<140737488355328:=by omega
   refine Evt.pos hlt (Evt.pos (by omega) ?_)
   rcases hg with h|h|h|h|h|h
   ·exact Evt.neg (by omega) (Evt.pos h (Evt.pos hlen hr))
   ·exact Evt.neg (by omega) (Evt.neg (by omega) (Evt.pos h (Evt.pos hlen hr)))
   ·exact Evt.neg (by omega) (Evt.neg (by omega) (Evt.neg (by omega) (Evt.pos h (Evt.pos hlen hr))))
   ·exact Evt.neg (by omega) (Evt.neg (by omega) (Evt.neg (by omega) (Evt.neg (by omega) (Evt.pos h (Evt.pos hlen hr)))))
   ·exact Evt.neg (by omega) (Evt.neg (by omega) (Evt.neg (by omega) (Evt.neg (by omega) (Evt.neg (by omega) (Evt.pos h (Evt.pos hlen hr))))))
   ·exact Evt.neg (by omega) (Evt.neg (by omega) (Evt.neg (by omega) (Evt.neg (by omega) (Evt.neg (by omega) (Evt.neg (by omega) (Evt.pos h (Evt.pos hlen hr)))))))
  refine ⟨fun h r hr=>go (h c' (List.mem_cons_self ..)) r (i1 (fun y hy=>h y (List.mem_cons_of_mem _ hy)) r hr),fun h=>?_⟩
  by_cases hg:okF (c'.toNat:Int)
  ·exact go hg 0 (i2 (fun g=>h (fun y hy=>(List.mem_cons.1 hy).elim (fun e=>by rw [e];exact hg) (g y))))
  ·apply Evt.succ
   simp only [spec_FormRight.l0,h2,hw]
   unfold okF at hg
   refine Evt.pos hlt (Evt.pos (by omega) (Evt.ite (fun _=>Evt.pos (by omega) (Evt.pure _)) (fun _=>?_)))
   exact Evt.neg (by omega) (Evt.neg (by omega) (Evt.neg (by omega) (Evt.neg (by omega) (Evt.neg (by omega) (Evt.neg (by omega) (Evt.pure _))))))
theorem form_one (form:ByteArray) (hf:form.size≤20000) (rest:List UInt8):∀ done,form.data.toList=done++rest →
  (okL (fPre rest++fPost rest)→∀ r,Evt (fun k=>spec_FormRight.j1 k (nums (done++(fPre rest++fPost rest))) ((done++fPre rest).length:Int) tag els) r→Evt (fun k=>spec_FormRight.l0 k form (nums done) (-1) (done.length:Int) tag els) r) ∧
  (¬ okL (fPre rest++fPost rest)→Evt (fun k=>spec_FormRight.l0 k form (nums done) (-1) (done.length:Int) tag els) 0):=by
 induction rest with
 | nil =>
  intro done hd
  have hl:form.size=done.length:=by rw [← data_length,hd];simp
  refine ⟨fun _ r hr=>?_,fun h=>absurd (fun c hc=>by cases hc) h⟩
  apply Evt.succ
  simp only [spec_FormRight.l0]
  refine Evt.neg (by omega) (Evt.pos (by decide) ?_)
  rw [show (nums done).length=done.length by simp [nums]]
  simpa [fPre,fPost] using hr
 | cons c rest ih =>
  intro done hd
  have hl:form.size=done.length+(rest.length+1):=by rw [← data_length,hd];simp
  have hlt:(done.length:Int)<(form.size:Int):=by omega
  obtain ⟨c',h1,h2⟩:=bt_get form (done.length:Int) (by omega) hlt
  have hc:c'=c:=by
   rw [hd,Int.toNat_natCast] at h1
   simpa using h1.symm
  subst hc
  have hw:wrap64 ((done.length:Int)+1)=((done++[c']).length:Int):=by rw [w64 (by omega) (by omega)];simp
  have hnl:(nums done).length=done.length:=by simp [nums]
  by_cases h63:c'=63
  ·subst h63
   have hp:fPre (63 :: rest)=[]:=by simp [fPre]
   have hq:fPost (63 :: rest)=rest:=by simp [fPost]
   rw [hp,hq,List.nil_append,List.append_nil]
   obtain ⟨i1,i2⟩:=form_two tag els form hf (done.length:Int) (by omega) rest (done++[63]) (nums done) (by rw [hd];simp) (by simp [nums])
   have go:∀ r,Evt (fun k=>spec_FormRight.l0 k form (nums done) (done.length:Int) ((done++[(63:UInt8)]).length:Int) tag els) r→Evt (fun k=>spec_FormRight.l0 k form (nums done) (-1) (done.length:Int) tag els) r:=fun r hr=>by
    apply Evt.succ
    simp only [spec_FormRight.l0,h2,hw,hnl]
    exact Evt.pos hlt (Evt.pos (by omega) (Evt.pos (by rfl) (Evt.neg (by decide) hr)))
   have e:nums done++nums rest=nums (done++rest):=by simp [nums]
   rw [e] at i1
   exact ⟨fun h r hr=>go r (i1 h r hr),fun h=>go 0 (i2 h)⟩
  ·have hp:fPre (c' :: rest)=c' :: fPre rest:=by simp [fPre,h63]
   have hq:fPost (c' :: rest)=fPost rest:=by simp [fPost,h63]
   have hn63:¬ (c'.toNat:Int)=63:=fun e=>h63 (UInt8.toNat_inj.1 (by have:(63:UInt8).toNat=63:=rfl;omega))
   rw [hp,hq]
   obtain ⟨i1,i2⟩:=ih (done++[c']) (by rw [hd];simp)
   have e0:nums (done++[c'])=nums done++[(c'.toNat:Int)]:=by simp [nums]
   have e1:done++[c']++(fPre rest++fPost rest)=done++(c' :: fPre rest++fPost rest):=by simp
   have e2:(done++[c']++fPre rest)=(done++c' :: fPre rest):=by simp
   rw [e0,e1,e2] at i1
   rw [e0] at i2
   have go:okF (c'.toNat:Int)→∀ r,Evt (fun k=>spec_FormRight.l0 k form (nums done++[(c'.toNat:Int)]) (-1) ((done++[c']).length:Int) tag els) r→Evt (fun k=>spec_FormRight.l0 k form (nums done) (-1) (done.length:Int) tag els) r:=fun hg r hr=>by
    apply Evt.succ
    simp only [spec_FormRight.l0,h2,hw]
    have hlen:(nums done).length<140737488355328:=by omega
    refine Evt.pos hlt (Evt.pos (by omega) (Evt.neg hn63 ?_))
    rcases hg with h|h|h|h|h|h
    ·exact Evt.pos h (Evt.pos hlen hr)
    ·exact Evt.neg (by omega) (Evt.pos h (Evt.pos hlen hr))
    ·exact Evt.neg (by omega) (Evt.neg (by omega) (Evt.pos h (Evt.pos hlen hr)))
    ·exact Evt.neg (by omega) (Evt.neg (by omega) (Evt.neg (by omega) (Evt.pos h (Evt.pos hlen hr))))
    ·exact Evt.neg (by omega) (Evt.neg (by omega) (Evt.neg (by omega) (Evt.neg (by omega) (Evt.pos h (Evt.pos hlen hr)))))
    ·exact Evt.neg (by omega) (Evt.neg (by omega) (Evt.neg (by omega) (Evt.neg (by omega) (Evt.neg (by omega) (Evt.pos h (Evt.pos hlen hr))))))
   refine ⟨fun h r hr=>go (h c' (by simp)) r (i1 (fun y hy=>h y (by simp at hy ⊢;exact .inr hy)) r hr),fun h=>?_⟩
   by_cases hg:okF (c'.toNat:Int)
   ·exact go hg 0 (i2 (fun g=>h (fun y hy=>by
     rcases List.mem_cons.1 (show y ∈ c' :: (fPre rest++fPost rest) from hy) with e|e
     ·rw [e];exact hg
     ·exact g y e)))
   ·apply Evt.succ
    simp only [spec_FormRight.l0,h2,hw]
    unfold okF at hg
    exact Evt.pos hlt (Evt.pos (by omega) (Evt.neg hn63 (Evt.neg (by omega) (Evt.neg (by omega) (Evt.neg (by omega) (Evt.neg (by omega) (Evt.neg (by omega) (Evt.neg (by omega) (Evt.pure _)))))))))
theorem els_both (pre L:List UInt8) (hL:okL L) (hn:L.length≤20000) (hp:pre.length≤L.length) (he:fewI els) (d:Nat):∀ i:Int,0≤i→i≤(els.length:Int)→i≤(L.length:Int)→(els.length:Int) - i≤d →
  ∃ r,(0≤r∨r = -1)∧Evt (fun k=>spec_FormRight.l1 k (nums L) (pre.length:Int) i tag els) r∧Evt (fun k=>impl_FormRight.l1 k (bs8 pre) (bs8 L) els (els.length:Int) i tag els) r:=by
 have hel:=he.1
 have hLs:((bs8 L).size:Int)=(L.length:Int):=by rw [bs8_size]
 have hPs:((bs8 pre).size:Int)=(pre.length:Int):=by rw [bs8_size]
 have hnl:(nums L).length=L.length:=by simp [nums]
 have stop:∃ r,(0≤r∨r = -1)∧Evt (fun k=>spec_FormRight.l1 k (nums L) (pre.length:Int) (els.length:Int) tag els) r∧Evt (fun k=>impl_FormRight.l1 k (bs8 pre) (bs8 L) els (els.length:Int) (els.length:Int) tag els) r:=by
  by_cases g:(els.length:Int)<(pre.length:Int)
  ·refine ⟨(els.length:Int),.inl (by omega),?_,?_⟩
   ·apply Evt.succ
    simp only [spec_FormRight.l1]
    refine Evt.neg (by omega) ?_
    rw [decide_eq_true g]
    apply Evt.succ
    simp only [spec_FormRight.j3]
    exact Evt.pos (by simp) (Evt.pos (by omega) (Evt.pure _))
   ·apply Evt.succ
    simp only [impl_FormRight.l1]
    exact Evt.neg (by omega) (Evt.pos (by omega) (Evt.pure _))
  ·refine ⟨-1,.inr rfl,?_,?_⟩
   ·apply Evt.succ
    simp only [spec_FormRight.l1]
    refine Evt.neg (by omega) ?_
    rw [decide_eq_false g]
    apply Evt.succ
    simp only [spec_FormRight.j3]
    exact Evt.neg (by simp) (Evt.pure _)
   ·apply Evt.succ
    simp only [impl_FormRight.l1]
    exact Evt.neg (by omega) (Evt.neg (by omega) (Evt.pure _))
 induction d with
 | zero =>
  intro i h0 h1 _ hd
  obtain rfl:i=(els.length:Int):=by omega
  exact stop
 | succ d ih =>
  intro i h0 h1 h2 hd
  by_cases hlt:i<(els.length:Int)
  ·have hw:wrap64 (i+1)=i+1:=w64 (by omega) (by omega)
   have spec:∀ r,Evt (fun k=>if i≥(els.length:Int) then (some i) else (if i≥((nums L).length:Int) then (some i) else (if 0≤i then (if i<((nums L).length:Int) then (if i<(els.length:Int) then ((spec_l04Element.f k (rd (nums L) i) ((rd_T77 els i).f0)).bind fun t173=>(if t173=true then (spec_FormRight.l1 k (nums L) (pre.length:Int) (i+1) tag els) else (some i))) else (none)) else (none)) else (none)))) r→Evt (fun k=>spec_FormRight.l1 k (nums L) (pre.length:Int) i tag els) r:=fun r hr=>by
    apply Evt.succ
    simp only [spec_FormRight.l1]
    refine Evt.pos hlt ?_
    apply Evt.succ
    simp only [spec_FormRight.j3,hw]
    exact Evt.pos (by simp) hr
   have impl:∀ r,Evt (fun k=>if i=((bs8 L).size:Int) then (some i) else (if (((rd_T77 els i).f0).length:Int)=1 then (if i<((bs8 L).size:Int) then (if 0<(((rd_T77 els i).f0).length:Int) then ((impl_isOf.f k (bt (bs8 L) i) (rdOf ByteArray.empty ((rd_T77 els i).f0) 0)).bind fun t239=>(if t239=true then (impl_FormRight.l1 k (bs8 pre) (bs8 L) els (els.length:Int) (i+1) tag els) else (some i))) else (none)) else (none)) else (some i))) r→Evt (fun k=>impl_FormRight.l1 k (bs8 pre) (bs8 L) els (els.length:Int) i tag els) r:=fun r hr=>by
    apply Evt.succ
    simp only [impl_FormRight.l1,hw]
    exact Evt.pos hlt (Evt.pos h0 (Evt.pos hlt hr))
   by_cases hi:i=(L.length:Int)
   ·exact ⟨i,.inl h0,spec _ (Evt.neg (by omega) (Evt.pos (by omega) (Evt.pure _))),impl _ (Evt.pos (by omega) (Evt.pure _))⟩
   ·have hiL:i<(L.length:Int):=by omega
    have hk:=fewI_at he i h0 hlt
    have hc:okF (bt (bs8 L) i):=by
     obtain ⟨c,g1,g2⟩:=bt_get (bs8 L) i h0 (by omega)
     rw [g2]
     refine hL c (List.mem_of_getElem? (i:=i.toNat) ?_)
     rw [show (bs8 L).data.toList=L by simp [bs8]] at g1
     exact g1
    by_cases h1':(((rd_T77 els i).f0).length:Int)=1
    ·obtain ⟨b,hb1,hb2⟩:=el_ev (bt (bs8 L) i) hc _ h1' (hk.2 _ (rdT_mem _ 0 (Int.le_refl _) (by omega)))
     rw [← rd_nums] at hb1
     cases b with
     | true =>
      obtain ⟨r,r0,r1,r2⟩:=ih (i+1) (by omega) (by omega) (by omega) (by omega)
      exact ⟨r,r0,spec _ (Evt.neg (by omega) (Evt.neg (by omega) (Evt.pos h0 (Evt.pos (by omega) (Evt.pos hlt (Evt.bind hb1 (Evt.pos rfl r1))))))),impl _ (Evt.neg (by omega) (Evt.pos h1' (Evt.pos (by omega) (Evt.pos (by omega) (Evt.bind hb2 (Evt.pos rfl r2))))))⟩
     | false =>
      exact ⟨i,.inl h0,spec _ (Evt.neg (by omega) (Evt.neg (by omega) (Evt.pos h0 (Evt.pos (by omega) (Evt.pos hlt (Evt.bind hb1 (Evt.neg (by decide) (Evt.pure _)))))))),impl _ (Evt.neg (by omega) (Evt.pos h1' (Evt.pos (by omega) (Evt.pos (by omega) (Evt.bind hb2 (Evt.neg (by decide) (Evt.pure _)))))))⟩
    ·have hel':Evt (fun k=>spec_l04Element.f k (rd (nums L) i) ((rd_T77 els i).f0)) false:=by
      unfold spec_l04Element.f
      exact Evt.neg h1' (Evt.pure _)
     exact ⟨i,.inl h0,spec _ (Evt.neg (by omega) (Evt.neg (by omega) (Evt.pos h0 (Evt.pos (by omega) (Evt.pos hlt (Evt.bind hel' (Evt.neg (by decide) (Evt.pure _)))))))),impl _ (Evt.neg (by omega) (Evt.neg h1' (Evt.pure _)))⟩
  ·obtain rfl:i=(els.length:Int):=by omega
   exact stop
theorem six_iff (c:Int) (h0:0≤c) (h1:c≤255):(Lib.indexByte (⟨#[114,110,113,122,100,116]⟩:ByteArray).data.toList c.toNat.toUInt8<0) ↔ ¬ okF c:=by
 rw [idx_neg]
 refine not_congr ?_
 have e:c.toNat.toUInt8.toNat=c.toNat:=by
  rw [Nat.toUInt8_eq,UInt8.toNat_ofNat']
  omega
 have key:∀ b:UInt8,c.toNat.toUInt8=b ↔ c=(b.toNat:Int):=fun b=>by
  rw [← UInt8.toNat_inj,e]
  omega
 show c.toNat.toUInt8 ∈ [(114:UInt8),110,113,122,100,116] ↔ _
 simp only [List.mem_cons,List.not_mem_nil,or_false,key]
 rfl
theorem form_both (form:ByteArray) (hf:form.size≤1048576) (he:fewI els):∃ r,(0≤r∨r = -1)∧Evt (fun k=>spec_FormRight.f k form tag els) r∧Evt (fun k=>impl_FormRight.f k form tag els) r:=by
 have hel:=he.1
 have hcut:strings_Cut.f form (⟨#[63]⟩:ByteArray)=some (bs8 (fPre form.data.toList),bs8 (fPost form.data.toList),(Lib.cut form.data.toList [63]).2.2):=by
  unfold strings_Cut.f
  rw [if_pos (by omega)]
  show some ((⟨(Lib.cut form.data.toList [63]).1.toArray⟩:ByteArray),(⟨(Lib.cut form.data.toList [63]).2.1.toArray⟩:ByteArray),(Lib.cut form.data.toList [63]).2.2)=_
  rw [(cut_63 _).1,(cut_63 _).2]
  rfl
 generalize hP:fPre form.data.toList=P at hcut
 generalize hR:fPost form.data.toList=R at hcut
 have hlen:P.length+R.length≤form.size:=by
  rw [← data_length,← hP,← hR]
  unfold fPre fPost
  have:=congrArg List.length (List.takeWhile_append_dropWhile (p:=(· != 63)) (l:=form.data.toList))
  rw [List.length_append] at this
  rw [List.length_tail]
  omega
 have hsz:((bs8 (P++R)).size:Int)=((P++R).length:Int):=by rw [bs8_size]
 have him:∀ r,Evt (fun k=>impl_FormRight.l0 k form (bs8 P) (bs8 (P++R)) ((bs8 (P++R)).size:Int) 0 tag els) r→Evt (fun k=>impl_FormRight.f k form tag els) r:=fun r hr=>by
  unfold impl_FormRight.f
  simp only [hcut,Option.bind_some,bs8_app]
  refine Evt.pos (by rw [bs8_size,bs8_size];omega) hr
 obtain ⟨p1,p2⟩:=pass_loop ((bs8 (P++R)).size:Int) (fun i=>okF (bt (bs8 (P++R)) i)) (0:Int) (fun k i=>impl_FormRight.l0 k form (bs8 P) (bs8 (P++R)) ((bs8 (P++R)).size:Int) i tag els) (fun i h0 hlt=>by
  have hw:wrap64 (i+1)=i+1:=w64 (by omega) (by rw [List.length_append] at hsz;omega)
  have hb:=bt_range (bs8 (P++R)) i
  simp only [impl_FormRight.l0,strings_IndexByte.f,Option.bind_some,hw]
  exact ⟨fun hk r hr=>Evt.pos hlt (Evt.pos h0 (Evt.pos hlt (Evt.neg (fun x=>(six_iff _ hb.1 hb.2).1 x hk) hr))),fun hk=>Evt.pos hlt (Evt.pos h0 (Evt.pos hlt (Evt.pos ((six_iff _ hb.1 hb.2).2 hk) (Evt.pure _))))⟩) (bs8 (P++R)).size 0 (Int.le_refl _) (by omega) (by omega)
 have hall:(∀ j:Int,0≤j→j<((bs8 (P++R)).size:Int)→okF (bt (bs8 (P++R)) j)) ↔ okL (P++R):=by
  rw [all_bytes (bs8 (P++R)) okF,show (bs8 (P++R)).data.toList=P++R by simp [bs8]]
  rfl
 by_cases hbig:(form.size:Int)>20000
 ·refine ⟨0,.inl (by decide),?_,?_⟩
  ·unfold spec_FormRight.f
   exact Evt.pos hbig (Evt.pure _)
  ·by_cases hk:okL (P++R)
   ·refine him _ (p1 (hall.2 hk) _ ?_)
    apply Evt.succ
    simp only [impl_FormRight.l0]
    exact Evt.neg (by omega) (Evt.bind (longText1_ev form) (Evt.pos (B_true hbig) (Evt.pure _)))
   ·exact him _ (p2 (fun x=>hk (hall.1 x)))
 ·have hsm:form.size≤20000:=by omega
  obtain ⟨s1,s2⟩:=form_one tag els form hsm form.data.toList [] rfl
  rw [hP,hR] at s1 s2
  have hsp:∀ r,Evt (fun k=>spec_FormRight.l0 k form (nums []) (-1) (([]:List UInt8).length:Int) tag els) r→Evt (fun k=>spec_FormRight.f k form tag els) r:=fun r hr=>by
   unfold spec_FormRight.f
   exact Evt.neg hbig hr
  by_cases hk:okL (P++R)
  ·obtain ⟨r,r0,r1,r2⟩:=els_both tag els P (P++R) hk (by rw [List.length_append];omega) (by simp) he els.length 0 (Int.le_refl _) (by omega) (by omega) (by omega)
   refine ⟨r,r0,hsp _ (s1 hk _ ?_),him _ (p1 (hall.2 hk) _ ?_)⟩
   ·apply Evt.succ
    simp only [spec_FormRight.j1]
    exact r1
   ·apply Evt.succ
    simp only [impl_FormRight.l0]
    exact Evt.neg (by omega) (Evt.bind (longText1_ev form) (Evt.neg (by rw [B_false hbig];decide) r2))
  ·exact ⟨0,.inl (by decide),hsp _ (s2 hk),him _ (p2 (fun x=>hk (hall.1 x)))⟩
end
end Go.Proofs.YtaememmnhmebcaaGreatDoor.QB
namespace Go.Proofs.YtaememmnhmebcaaGreatDoor.QB
open Go.RowKit Go.Proofs.YtaememmnhmebcaaGreatDoorW.PrintWords Go.Proofs.YtaememmnhmebcaaGreatDoor.Ev0 Go.Proofs.YtaememmnhmebcaaGreatDoor.Num
abbrev sDOC:ByteArray:=⟨#[68,79,67]⟩
abbrev sNOT:ByteArray:=⟨#[78,79,84]⟩
abbrev sLIN:ByteArray:=⟨#[76,73,78]⟩
abbrev sITM:ByteArray:=⟨#[73,84,77]⟩
abbrev sACK:ByteArray:=⟨#[65,67,75]⟩
def tab (k:Int):List S87 :=
 if k=1 then [⟨sDOC,1,1,⟨#[114,100]⟩⟩,⟨sNOT,0,2,⟨#[116]⟩⟩,⟨sLIN,1,20,⟨#[110,114,113,63,110]⟩⟩]
 else if k=2∨k=4 then [⟨sDOC,1,1,⟨#[114,114,100]⟩⟩,⟨sLIN,1,20,⟨#[110,113,63,116]⟩⟩]
 else if k=3 then [⟨sDOC,1,1,⟨#[114,114,100]⟩⟩,⟨sNOT,0,2,⟨#[116]⟩⟩,⟨sLIN,1,20,⟨#[110,113]⟩⟩]
 else if k=5 then [⟨sDOC,1,1,⟨#[114,100]⟩⟩,⟨sITM,1,20,⟨#[114,110]⟩⟩]
 else if k=6 then [⟨sDOC,1,1,⟨#[114,100]⟩⟩,⟨sITM,1,20,⟨#[114,122,63,116]⟩⟩]
 else if k=7 then [⟨sDOC,1,1,⟨#[114,100]⟩⟩,⟨sACK,1,1,⟨#[110,110,63,110]⟩⟩]
 else []
theorem kinds (k:Int):(k=1∨k=2∨k=3∨k=4∨k=5∨k=6∨k=7)∨((k<1∨7<k)∧tab k=[]):=by
 by_cases h:1≤k∧k≤7
 ·exact .inl (by omega)
 ·refine .inr ⟨by omega,?_⟩
  unfold tab
  repeat rw [if_neg (by omega)]
theorem implTab_ev (k:Int):Evt (fun n=>impl_tableOf.f n k) (tab k):=by
 unfold impl_tableOf.f impl_tableOf_1.f impl_tableOf_2.f
 have j1:∀ x,Evt (fun n=>impl_tableOf.j0 n x true (⟨#[78,79,84]⟩:ByteArray) 0 2 (⟨#[116]⟩:ByteArray)) (tab 2):=fun x=>by
  apply Evt.succ
  simp only [impl_tableOf.j0,impl_tableOf_1.f,impl_tableOf_2.f,Option.bind_some,if_true]
  exact (Evt.pure _).same rfl
 have j2:∀ x,¬ (x=1∨x=2∨x=4)→Evt (fun n=>impl_tableOf.j0 n x false (⟨#[78,79,84]⟩:ByteArray) 0 2 (⟨#[116]⟩:ByteArray)) (tab x):=fun x hx=>by
  apply Evt.succ
  simp only [impl_tableOf.j0,impl_tableOf_1.f,impl_tableOf_2.f,Option.bind_some,Bool.false_eq_true,if_false]
  by_cases h3:x=3
  ·subst h3
   exact Evt.pos rfl ((Evt.pure _).same rfl)
  refine Evt.neg h3 ?_
  by_cases h5:x=5
  ·subst h5
   exact Evt.pos rfl ((Evt.pure _).same rfl)
  refine Evt.neg h5 ?_
  by_cases h6:x=6
  ·subst h6
   exact Evt.pos rfl ((Evt.pure _).same rfl)
  refine Evt.neg h6 ?_
  by_cases h7:x=7
  ·subst h7
   exact Evt.pos rfl ((Evt.pure _).same rfl)
  refine Evt.neg h7 ((Evt.pure _).same ?_)
  unfold tab
  rw [if_neg (by omega),if_neg (by omega),if_neg (by omega),if_neg (by omega),if_neg (by omega),if_neg (by omega)]
 simp only [Option.bind_some]
 refine Evt.ite (fun h=>(Evt.pure _).same (by rw [h];rfl)) (fun h1=>Evt.ite (fun h=>?_) (fun h2=>?_))
 ·subst h
  exact j1 2
 ·by_cases h:k=4
  ·subst h
   exact (j1 4).same rfl
  ·rw [show (k == 4)=false by simpa using h]
   exact j2 k (by omega)
theorem specTab_ev (k:Int):Evt (fun n=>spec_TableOf.f n k) (tab k):=by
 unfold spec_TableOf.f
 have j1:∀ x,Evt (fun n=>spec_TableOf.j0 n x true (⟨#[68,79,67]⟩:ByteArray) 1 1 (⟨#[114,100]⟩:ByteArray) (⟨#[68,79,67]⟩:ByteArray) 1 1 (⟨#[114,114,100]⟩:ByteArray) (⟨#[78,79,84]⟩:ByteArray) 0 2 (⟨#[116]⟩:ByteArray)) (tab 2):=fun x=>by
  apply Evt.succ
  simp only [spec_TableOf.j0,if_true]
  exact (Evt.pure _).same rfl
 have j2:∀ x,¬ (x=1∨x=2∨x=4)→Evt (fun n=>spec_TableOf.j0 n x false (⟨#[68,79,67]⟩:ByteArray) 1 1 (⟨#[114,100]⟩:ByteArray) (⟨#[68,79,67]⟩:ByteArray) 1 1 (⟨#[114,114,100]⟩:ByteArray) (⟨#[78,79,84]⟩:ByteArray) 0 2 (⟨#[116]⟩:ByteArray)) (tab x):=fun x hx=>by
  apply Evt.succ
  simp only [spec_TableOf.j0,Bool.false_eq_true,if_false]
  by_cases h3:x=3
  ·subst h3
   exact Evt.pos rfl ((Evt.pure _).same rfl)
  refine Evt.neg h3 ?_
  by_cases h5:x=5
  ·subst h5
   exact Evt.pos rfl ((Evt.pure _).same rfl)
  refine Evt.neg h5 ?_
  by_cases h6:x=6
  ·subst h6
   exact Evt.pos rfl ((Evt.pure _).same rfl)
  refine Evt.neg h6 ?_
  by_cases h7:x=7
  ·subst h7
   exact Evt.pos rfl ((Evt.pure _).same rfl)
  refine Evt.neg h7 ((Evt.pure _).same ?_)
  unfold tab
  rw [if_neg (by omega),if_neg (by omega),if_neg (by omega),if_neg (by omega),if_neg (by omega),if_neg (by omega)]
 refine Evt.ite (fun h=>(Evt.pure _).same (by rw [h];rfl)) (fun h1=>Evt.ite (fun h=>?_) (fun h2=>?_))
 ·subst h
  exact j1 2
 ·by_cases h:k=4
  ·subst h
   exact (j1 4).same rfl
  ·rw [show (k == 4)=false by simpa using h]
   exact j2 k (by omega)
def okRow (r:S87):Prop:=1≤r.f2∧r.f2≤20∧r.f3.size≤100
theorem tab_rows (k:Int):(∀ r ∈ tab k,okRow r)∧(tab k).length≤3:=by
 rcases kinds k with h | ⟨_,h⟩
 ·rcases h with rfl|rfl|rfl|rfl|rfl|rfl|rfl <;>
   exact ⟨fun r hr=>(by simp [tab] at hr;rcases hr with rfl|rfl|rfl <;> exact ⟨by decide,by decide,by decide⟩),by decide⟩
 ·rw [h]
  exact ⟨fun r hr=>(by cases hr),by decide⟩
def Fits (body:List S46):List S87→Int→Prop
 | [],at_=>at_=(body.length:Int)
 | r :: rows,at_=>∃ e:Int,at_≤e∧e≤(body.length:Int)∧r.f1≤e - at_∧e - at_≤r.f2 ∧
   (∀ j:Int,at_≤j→j<e→(rd_T46 body j).f0=r.f0∧Evt (fun k=>impl_FormRight.f k r.f3 (rd_T46 body j).f0 (rd_T46 body j).f1) (-1))∧Fits body rows e
def fewB (l:List S46):Prop:=l.length≤1048576∧∀ x ∈ l,fewI x.f1
theorem fewB_at {l:List S46} (h:fewB l) (i:Int) (h0:0≤i) (hlt:i<(l.length:Int)):fewI (rd_T46 l i).f1:=by
 unfold rd_T46
 rw [getD_at l _ _ (by omega)]
 exact h.2 _ (List.getElem_mem _)
section
variable (body : List S46) (he : fewB body) (hl : body.length ≤ 400) (T : List S87) (hT : T.length ≤ 3)
include he hl hT
theorem tab_in (i:Int) (hi0:0≤i) (hiT:i<(T.length:Int)) (hr:okRow (rd_T87 T i))
  (next:∀ a,0≤a→a≤(body.length:Int)→∃ r,Evt (fun k=>spec_TableCheck.l0 k body T a (i+1)) r∧Evt (fun k=>impl_TableCheck.l0 k body a (rd_T87 T i).f0 T (T.length:Int) (i+1)) r∧(r.2.2=0→Fits body (T.drop (i+1).toNat) a))
  (at0:Int) (ha0:0≤at0) (d:Nat):∀ a n:Int,at0≤a→a≤(body.length:Int)→n=a - at0→n≤(rd_T87 T i).f2→(body.length:Int) - a≤d →
  (∀ j:Int,at0≤j→j<a→(rd_T46 body j).f0=(rd_T87 T i).f0∧Evt (fun k=>impl_FormRight.f k (rd_T87 T i).f3 (rd_T46 body j).f0 (rd_T46 body j).f1) (-1)) →
  ∃ r,Evt (fun k=>spec_TableCheck.l1 k body T a i n) r∧Evt (fun k=>impl_TableCheck.l1 k body a n T (T.length:Int) i (rd_T87 T i).f0 (rd_T87 T i).f1 (rd_T87 T i).f2 (rd_T87 T i).f3) r∧(r.2.2=0→Fits body (T.drop i.toNat) at0):=by
 have hdrop:T.drop i.toNat=rd_T87 T i :: T.drop (i+1).toNat:=by
  have h':i.toNat<T.length:=by omega
  rw [List.drop_eq_getElem_cons h',show (i+1).toNat=i.toNat+1 by omega]
  unfold rd_T87
  rw [getD_at T _ _ h']
 have hw:wrap64 (i+1)=i+1:=w64 (by omega) (by omega)
 have fin:∀ a n:Int,at0≤a→a≤(body.length:Int)→n=a - at0→n≤(rd_T87 T i).f2 →
   (∀ j:Int,at0≤j→j<a→(rd_T46 body j).f0=(rd_T87 T i).f0∧Evt (fun k=>impl_FormRight.f k (rd_T87 T i).f3 (rd_T46 body j).f0 (rd_T46 body j).f1) (-1)) →
   ∃ r,Evt (fun k=>spec_TableCheck.j2 k body T a i n false) r∧Evt (fun k=>impl_TableCheck.j2 k body a n T (T.length:Int) i false (rd_T87 T i).f0 (rd_T87 T i).f1 (rd_T87 T i).f2 (rd_T87 T i).f3) r∧(r.2.2=0→Fits body (T.drop i.toNat) at0):=fun a n g0 g1 g2 g3 prev=>by
  by_cases hn:n<(rd_T87 T i).f1
  ·refine ⟨(a,0,4),?_,?_,fun h=>absurd h (by simp)⟩
   ·apply Evt.succ
    simp only [spec_TableCheck.j2]
    exact Evt.neg (by decide) (Evt.pos hi0 (Evt.pos hiT (Evt.pos hn (Evt.pure _))))
   ·apply Evt.succ
    simp only [impl_TableCheck.j2]
    exact Evt.neg (by decide) (Evt.pos hn (Evt.pure _))
  ·obtain ⟨r,r1,r2,r3⟩:=next a (by omega) g1
   refine ⟨r,?_,?_,fun h=>?_⟩
   ·apply Evt.succ
    simp only [spec_TableCheck.j2,hw]
    exact Evt.neg (by decide) (Evt.pos hi0 (Evt.pos hiT (Evt.neg hn r1)))
   ·apply Evt.succ
    simp only [impl_TableCheck.j2,hw]
    exact Evt.neg (by decide) (Evt.neg hn r2)
   ·rw [hdrop]
    exact ⟨a,g0,g1,by omega,by omega,prev,r3 h⟩
 have enter:∀ (a n:Int) (b:Bool) r,0≤a→((n<(rd_T87 T i).f2∧a<(body.length:Int))→b=((rd_T46 body a).f0.toList == (rd_T87 T i).f0.toList))→(¬ (n<(rd_T87 T i).f2∧a<(body.length:Int))→b=false) →
   Evt (fun k=>spec_TableCheck.j2 k body T a i n b) r→Evt (fun k=>impl_TableCheck.j2 k body a n T (T.length:Int) i b (rd_T87 T i).f0 (rd_T87 T i).f1 (rd_T87 T i).f2 (rd_T87 T i).f3) r →
   Evt (fun k=>spec_TableCheck.l1 k body T a i n) r∧Evt (fun k=>impl_TableCheck.l1 k body a n T (T.length:Int) i (rd_T87 T i).f0 (rd_T87 T i).f1 (rd_T87 T i).f2 (rd_T87 T i).f3) r:=fun a n b r ha hb1 hb2 r1 r2=>by
  constructor
  ·apply Evt.succ
   simp only [spec_TableCheck.l1]
   refine Evt.pos hi0 (Evt.pos hiT ?_)
   by_cases h1:n<(rd_T87 T i).f2
   ·by_cases h2:a<(body.length:Int)
    ·refine Evt.pos h1 (Evt.pos h2 (Evt.pos ha ?_))
     rw [← hb1 ⟨h1,h2⟩]
     exact r1
    ·rw [hb2 (fun x=>h2 x.2)] at r1
     exact Evt.pos h1 (Evt.neg h2 r1)
   ·rw [hb2 (fun x=>h1 x.1)] at r1
    exact Evt.neg h1 r1
  ·apply Evt.succ
   simp only [impl_TableCheck.l1]
   by_cases h1:n<(rd_T87 T i).f2
   ·by_cases h2:a<(body.length:Int)
    ·refine Evt.pos h1 (Evt.pos h2 (Evt.pos ha ?_))
     rw [← hb1 ⟨h1,h2⟩]
     exact r2
    ·rw [hb2 (fun x=>h2 x.2)] at r2
     exact Evt.pos h1 (Evt.neg h2 r2)
   ·rw [hb2 (fun x=>h1 x.1)] at r2
    exact Evt.neg h1 r2
 have quit:∀ a n:Int,at0≤a→a≤(body.length:Int)→n=a - at0→n≤(rd_T87 T i).f2 →
   (∀ j:Int,at0≤j→j<a→(rd_T46 body j).f0=(rd_T87 T i).f0∧Evt (fun k=>impl_FormRight.f k (rd_T87 T i).f3 (rd_T46 body j).f0 (rd_T46 body j).f1) (-1)) →
   ((n<(rd_T87 T i).f2∧a<(body.length:Int))→false=((rd_T46 body a).f0.toList == (rd_T87 T i).f0.toList)) →
   ∃ r,Evt (fun k=>spec_TableCheck.l1 k body T a i n) r∧Evt (fun k=>impl_TableCheck.l1 k body a n T (T.length:Int) i (rd_T87 T i).f0 (rd_T87 T i).f1 (rd_T87 T i).f2 (rd_T87 T i).f3) r∧(r.2.2=0→Fits body (T.drop i.toNat) at0):=fun a n g0 g1 g2 g3 prev hb=>by
  obtain ⟨r,r1,r2,r3⟩:=fin a n g0 g1 g2 g3 prev
  obtain ⟨s1,s2⟩:=enter a n false r (by omega) hb (fun _=>rfl) r1 r2
  exact ⟨r,s1,s2,r3⟩
 induction d with
 | zero =>
  intro a n g0 g1 g2 g3 gd prev
  exact quit a n g0 g1 g2 g3 prev (fun x=>absurd x.2 (by omega))
 | succ d ih =>
  intro a n g0 g1 g2 g3 gd prev
  by_cases h1:n<(rd_T87 T i).f2∧a<(body.length:Int)
  ·by_cases htag:(rd_T46 body a).f0.toList=(rd_T87 T i).f0.toList
   ·have hb:true=((rd_T46 body a).f0.toList == (rd_T87 T i).f0.toList):=by rw [htag];simp
    have hea:wrap64 (a+1)=a+1:=w64 (by omega) (by omega)
    have hen:wrap64 (n+1)=n+1:=w64 (by omega) (by omega)
    have hf3:=hr.2.2
    obtain ⟨f,f0,f1,f2⟩:=form_both (rd_T46 body a).f0 (rd_T46 body a).f1 (rd_T87 T i).f3 (by omega) (fewB_at he a (by omega) h1.2)
    by_cases hf:f≥0
    ·obtain ⟨s1,s2⟩:=enter a n true (a,f,3) (by omega) (fun _=>hb) (fun x=>absurd h1 x) (by
      apply Evt.succ
      simp only [spec_TableCheck.j2]
      exact Evt.pos (by simp) (Evt.pos hi0 (Evt.pos hiT (Evt.pos (by omega) (Evt.pos h1.2 (Evt.bind f1 (Evt.pos hf (Evt.pure _)))))))) (by
      apply Evt.succ
      simp only [impl_TableCheck.j2]
      exact Evt.pos (by simp) (Evt.pos (by omega) (Evt.pos h1.2 (Evt.bind f2 (Evt.pos hf (Evt.pure _))))))
     exact ⟨_,s1,s2,fun h=>absurd h (by simp)⟩
    ·obtain rfl:f = -1:=f0.resolve_left (by omega)
     obtain ⟨r,r1,r2,r3⟩:=ih (a+1) (n+1) (by omega) (by omega) (by omega) (by omega) (by omega) (fun j j0 j1=>by
      by_cases e:j=a
      ·rw [e]
       exact ⟨bytes_ext.1 htag,f2⟩
      ·exact prev j j0 (by omega))
     obtain ⟨s1,s2⟩:=enter a n true r (by omega) (fun _=>hb) (fun x=>absurd h1 x) (by
      apply Evt.succ
      simp only [spec_TableCheck.j2,hea,hen]
      exact Evt.pos (by simp) (Evt.pos hi0 (Evt.pos hiT (Evt.pos (by omega) (Evt.pos h1.2 (Evt.bind f1 (Evt.neg hf r1))))))) (by
      apply Evt.succ
      simp only [impl_TableCheck.j2,hea,hen]
      exact Evt.pos (by simp) (Evt.pos (by omega) (Evt.pos h1.2 (Evt.bind f2 (Evt.neg hf r2)))))
     exact ⟨r,s1,s2,r3⟩
   ·exact quit a n g0 g1 g2 g3 prev (fun _=>by symm;simpa using htag)
  ·exact quit a n g0 g1 g2 g3 prev (fun x=>absurd x h1)
theorem tab_out (hne:T≠[]) (hrows:∀ r ∈ T,okRow r) (d:Nat):∀ (i a:Int) (last:ByteArray),0≤i→i≤(T.length:Int)→(T.length:Int) - i≤d→0≤a→a≤(body.length:Int)→(0<i→last=(rd_T87 T (i - 1)).f0) →
  ∃ r,Evt (fun k=>spec_TableCheck.l0 k body T a i) r∧Evt (fun k=>impl_TableCheck.l0 k body a last T (T.length:Int) i) r∧(r.2.2=0→Fits body (T.drop i.toNat) a):=by
 have hpos:0<T.length:=List.length_pos_iff.2 hne
 have stop:∀ (a:Int) (last:ByteArray),0≤a→a≤(body.length:Int)→last=(rd_T87 T ((T.length:Int) - 1)).f0 →
   ∃ r,Evt (fun k=>spec_TableCheck.l0 k body T a (T.length:Int)) r∧Evt (fun k=>impl_TableCheck.l0 k body a last T (T.length:Int) (T.length:Int)) r∧(r.2.2=0→Fits body (T.drop (T.length:Int).toNat) a):=fun a last a0 a1 hlast=>by
  have hw1:wrap64 ((T.length:Int) - 1)=(T.length:Int) - 1:=w64 (by omega) (by omega)
  by_cases hend:a=(body.length:Int)
  ·refine ⟨(0,0,0),?_,?_,fun _=>?_⟩
   ·apply Evt.succ
    simp only [spec_TableCheck.l0]
    exact Evt.neg (by omega) (Evt.neg (by omega) (Evt.pure _))
   ·apply Evt.succ
    simp only [impl_TableCheck.l0]
    exact Evt.neg (by omega) (Evt.pos hend (Evt.pure _))
   ·rw [Int.toNat_natCast,List.drop_length]
    exact hend
  ·have hlt:a<(body.length:Int):=by omega
   by_cases htag:(rd_T46 body a).f0.toList=(rd_T87 T ((T.length:Int) - 1)).f0.toList
   ·refine ⟨(a,0,7),?_,?_,fun h=>absurd h (by simp)⟩
    ·apply Evt.succ
     simp only [spec_TableCheck.l0,hw1]
     exact Evt.neg (by omega) (Evt.pos hlt (Evt.pos a0 (Evt.pos (by omega) (Evt.pos (by omega) (Evt.pos htag (Evt.pure _))))))
    ·apply Evt.succ
     simp only [impl_TableCheck.l0]
     exact Evt.neg (by omega) (Evt.neg hend (Evt.pos a0 (Evt.pos hlt (Evt.pos (by rw [hlast];exact htag) (Evt.pure _)))))
   ·refine ⟨(a,0,3),?_,?_,fun h=>absurd h (by simp)⟩
    ·apply Evt.succ
     simp only [spec_TableCheck.l0,hw1]
     exact Evt.neg (by omega) (Evt.pos hlt (Evt.pos a0 (Evt.pos (by omega) (Evt.pos (by omega) (Evt.neg htag (Evt.pure _))))))
    ·apply Evt.succ
     simp only [impl_TableCheck.l0]
     exact Evt.neg (by omega) (Evt.neg hend (Evt.pos a0 (Evt.pos hlt (Evt.neg (by rw [hlast];exact htag) (Evt.pure _)))))
 induction d with
 | zero =>
  intro i a last i0 i1 hd a0 a1 hlast
  obtain rfl:i=(T.length:Int):=by omega
  exact stop a last a0 a1 (hlast (by omega))
 | succ d ih =>
  intro i a last i0 i1 hd a0 a1 hlast
  by_cases hlt:i<(T.length:Int)
  ·have hr:okRow (rd_T87 T i):=by
    unfold rd_T87
    rw [getD_at T _ _ (by omega)]
    exact hrows _ (List.getElem_mem _)
   obtain ⟨r,r1,r2,r3⟩:=tab_in body he hl T hT i i0 hlt hr (fun b b0 b1=>ih (i+1) b _ (by omega) (by omega) (by omega) b0 b1 (fun _=>by rw [show i+1 - 1=i by omega])) a a0 body.length a 0 (Int.le_refl _) a1 (by omega) (by have:=hr.1;omega) (by omega) (fun j j0 j1=>absurd j1 (by omega))
   refine ⟨r,?_,?_,r3⟩
   ·apply Evt.succ
    simp only [spec_TableCheck.l0]
    exact Evt.pos hlt r1
   ·apply Evt.succ
    simp only [impl_TableCheck.l0]
    exact Evt.pos hlt (Evt.pos i0 (Evt.pos hlt r2))
  ·obtain rfl:i=(T.length:Int):=by omega
   exact stop a last a0 a1 (hlast (by omega))
end
theorem table_both (k:Int) (body:List S46) (he:fewB body):∃ r,Evt (fun n=>spec_TableCheck.f n k body) r∧Evt (fun n=>impl_TableCheck.f n k body) r∧(r.2.2=0→tab k≠[]∧body.length≤400∧Fits body (tab k) 0):=by
 have hb:=he.1
 unfold spec_TableCheck.f impl_TableCheck.f impl_Segment.f
 simp only [Option.bind_some,within_ev]
 by_cases hbig:(body.length:Int)>400
 ·exact ⟨(0,0,2),Evt.pos hbig (Evt.pure _),Evt.pos (decide_eq_true hbig) (Evt.pure _),fun h=>absurd h (by simp)⟩
 have hn:¬ decide ((body.length:Int)>400)=true:=by simpa using hbig
 rcases kinds k with h | ⟨h,h0⟩
 ·have hne:tab k≠[]:=by rcases h with rfl|rfl|rfl|rfl|rfl|rfl|rfl <;> decide
  have hpos:0<(tab k).length:=List.length_pos_iff.2 hne
  obtain ⟨r,r1,r2,r3⟩:=tab_out body he (by omega) (tab k) (tab_rows k).2 hne (tab_rows k).1 (tab k).length 0 0 (⟨#[]⟩:ByteArray) (Int.le_refl _) (by omega) (by omega) (Int.le_refl _) (by omega) (fun h=>absurd h (by omega))
  exact ⟨r,Evt.neg hbig (Evt.bind (specTab_ev k) (Evt.neg (by omega) r1)),Evt.neg hn (Evt.pos (B_true (by omega)) (Evt.bind (implTab_ev k) r2)),fun h=>⟨hne,by omega,r3 h⟩⟩
 ·refine ⟨(0,0,1),Evt.neg hbig (Evt.bind (specTab_ev k) ?_),Evt.neg hn (Evt.neg (by rw [B_false (by omega)];decide) (Evt.pure _)),fun h=>absurd h (by simp)⟩
  rw [h0]
  exact Evt.pos (by simp) (Evt.pure _)
theorem eqB_refl (l:List S46) (hl:fewB l):Evt (fun k=>laws_eqSegmentS.f k l l) true:=by
 have hn:=hl.1
 unfold laws_eqSegmentS.f
 refine Evt.pos rfl (all_loop (l.length:Int) (by omega) (fun k i=>laws_eqSegmentS.l0 k l l i) ?_ ?_)
 ·intro i h0 hlt ih
  have hw:wrap64 (i+1)=i+1:=w64 (by omega) (by omega)
  simp only [laws_eqSegmentS.l0,hw]
  exact Evt.pos hlt (Evt.pos h0 (Evt.pos hlt (Evt.bind (eqSeg_refl _ _ (fewB_at hl i h0 hlt)) (Evt.pos (by simp) ih))))
 ·simp only [laws_eqSegmentS.l0]
  exact Evt.neg (by omega) (Evt.pure _)
end Go.Proofs.YtaememmnhmebcaaGreatDoor.QB
namespace Go.Proofs.YtaememmnhmebcaaGreatDoor.QB
open Go.RowKit Go.Proofs.YtaememmnhmebcaaGreatDoorW.PrintWords Go.Proofs.YtaememmnhmebcaaGreatDoor.Ev0 Go.Proofs.YtaememmnhmebcaaGreatDoor.Num
theorem evt_uniq {α:Type} {f:Nat→Option α} {r s:α} (h1:Evt f r) (h2:Evt f s):r=s:=by
 obtain ⟨K,hK⟩:=h1
 obtain ⟨L,hL⟩:=h2
 exact Option.some.inj ((hK (K+L) (by omega)).symm.trans (hL (K+L) (by omega)))
def numP (s:ByteArray) (lo hi:Int):Prop:=isNum s.data.toList∧lo≤valT s.data.toList∧valT s.data.toList≤hi
def elP (c:Int) (s:ByteArray):Prop:=(c=114∧NameP s)∨(c=110∧numP s 0 1000000000)∨(c=113∧numP s 1 1000000)∨(c=122∧numP s (-1000000) 1000000∧s.toList≠([48]:List UInt8))∨(c=100∧numP s 0 100000)∨(c=116∧s.toList≠([]:List UInt8)∧PartPr s)
theorem isOf_ev (c:Int) (hc:okF c) (s:ByteArray) (hs:s.size≤1048576):Evt (fun k=>impl_isOf.f k c s) (B (elP c s)):=by
 unfold impl_isOf.f
 have num:∀ lo hi:Int,-1000000000≤lo→hi≤1000000000→∃ v,Evt (fun k=>impl_numberIn.f k s lo hi) (v,B (numP s lo hi)):=fun lo hi h0 h1=>by
  obtain ⟨v,hv,_⟩:=numberIn_ev s (by omega) lo hi h0 h1
  exact ⟨v,hv⟩
 rcases hc with rfl|rfl|rfl|rfl|rfl|rfl
 ·exact Evt.pos rfl (Evt.bind (implName_ev s (by omega)) ((Evt.pure _).same (B_congr (by simp [elP]))))
 ·obtain ⟨v,hv⟩:=num 0 1000000000 (by decide) (by decide)
  exact Evt.neg (by decide) (Evt.pos rfl (Evt.bind hv ((Evt.pure _).same (B_congr (by simp [elP])))))
 ·obtain ⟨v,hv⟩:=num 1 1000000 (by decide) (by decide)
  exact Evt.neg (by decide) (Evt.neg (by decide) (Evt.pos rfl (Evt.bind hv ((Evt.pure _).same (B_congr (by simp [elP]))))))
 ·obtain ⟨v,hv⟩:=num (-1000000) 1000000 (by decide) (by decide)
  refine Evt.neg (by decide) (Evt.neg (by decide) (Evt.neg (by decide) (Evt.pos rfl (Evt.bind hv ?_))))
  refine Evt.ite (fun h=>(Evt.pure _).same ?_) (fun h=>(Evt.pure _).same (B_false (fun x=>h (B_true (by simpa [elP] using x |> fun y=>(by simp [elP] at y;exact y.1)))) ).symm)
  have h':numP s (-1000000) 1000000:=B_iff.1 h
  refine bool_B ?_
  rw [bne_iff_ne]
  exact ⟨fun e=>.inr (.inr (.inr (.inl ⟨rfl,h',e⟩))),fun e=>by simp [elP] at e;exact e.2⟩
 ·obtain ⟨v,hv⟩:=num 0 100000 (by decide) (by decide)
  exact Evt.neg (by decide) (Evt.neg (by decide) (Evt.neg (by decide) (Evt.neg (by decide) (Evt.pos rfl (Evt.bind hv ((Evt.pure _).same (B_congr (by simp [elP]))))))))
 ·refine Evt.neg (by decide) (Evt.neg (by decide) (Evt.neg (by decide) (Evt.neg (by decide) (Evt.neg (by decide) (Evt.pos rfl ?_)))))
  refine Evt.ite (fun h=>(Evt.pure _).same (B_false (fun x=>by simp [elP] at x;exact x.1 h)).symm) (fun h=>Evt.bind (implPt_ev s (by omega)) ((Evt.pure _).same (B_congr ?_)))
  exact ⟨fun x=>.inr (.inr (.inr (.inr (.inr ⟨rfl,h,x⟩)))),fun x=>by simp [elP] at x;exact x.2⟩
section
variable (tag : ByteArray) (els : List S77)
def elAt (L:List UInt8) (els:List S77) (j:Int):Prop:=(((rd_T77 els j).f0).length:Int)=1∧elP (bt (bs8 L) j) (rdOf ByteArray.empty ((rd_T77 els j).f0) 0)
theorem els_fit (pre L:List UInt8) (hL:okL L) (hn:L.length≤20000) (hp:pre.length≤L.length) (he:fewI els) (d:Nat):∀ i:Int,0≤i→i≤(els.length:Int)→i≤(L.length:Int)→(els.length:Int) - i≤d →
  Evt (fun k=>impl_FormRight.l1 k (bs8 pre) (bs8 L) els (els.length:Int) i tag els) (-1)→(els.length≤L.length∧pre.length≤els.length∧∀ j:Int,i≤j→j<(els.length:Int)→elAt L els j):=by
 have hel:=he.1
 have hLs:((bs8 L).size:Int)=(L.length:Int):=by rw [bs8_size]
 have hPs:((bs8 pre).size:Int)=(pre.length:Int):=by rw [bs8_size]
 have stop:(els.length:Int)≤(L.length:Int)→Evt (fun k=>impl_FormRight.l1 k (bs8 pre) (bs8 L) els (els.length:Int) (els.length:Int) tag els) (-1)→(els.length≤L.length∧pre.length≤els.length∧∀ j:Int,(els.length:Int)≤j→j<(els.length:Int)→elAt L els j):=fun hle h=>by
  by_cases g:(els.length:Int)<(pre.length:Int)
  ·have:Evt (fun k=>impl_FormRight.l1 k (bs8 pre) (bs8 L) els (els.length:Int) (els.length:Int) tag els) (els.length:Int):=by
    apply Evt.succ
    simp only [impl_FormRight.l1]
    exact Evt.neg (by omega) (Evt.pos (by omega) (Evt.pure _))
   have:=evt_uniq this h
   omega
  ·exact ⟨by omega,by omega,fun j h1 h2=>absurd h2 (by omega)⟩
 induction d with
 | zero =>
  intro i h0 h1 h2 hd h
  obtain rfl:i=(els.length:Int):=by omega
  exact stop h2 h
 | succ d ih =>
  intro i h0 h1 h2 hd h
  by_cases hlt:i<(els.length:Int)
  ·have hw:wrap64 (i+1)=i+1:=w64 (by omega) (by omega)
   have impl:∀ r,Evt (fun k=>if i=((bs8 L).size:Int) then (some i) else (if (((rd_T77 els i).f0).length:Int)=1 then (if i<((bs8 L).size:Int) then (if 0<(((rd_T77 els i).f0).length:Int) then ((impl_isOf.f k (bt (bs8 L) i) (rdOf ByteArray.empty ((rd_T77 els i).f0) 0)).bind fun t239=>(if t239=true then (impl_FormRight.l1 k (bs8 pre) (bs8 L) els (els.length:Int) (i+1) tag els) else (some i))) else (none)) else (none)) else (some i))) r→r = -1:=fun r hr=>by
    have:Evt (fun k=>impl_FormRight.l1 k (bs8 pre) (bs8 L) els (els.length:Int) i tag els) r:=by
     apply Evt.succ
     simp only [impl_FormRight.l1,hw]
     exact Evt.pos hlt (Evt.pos h0 (Evt.pos hlt hr))
    exact evt_uniq this h
   by_cases hi:i=(L.length:Int)
   ·have:=impl _ (Evt.pos (by omega) (Evt.pure _))
    omega
   have hiL:i<(L.length:Int):=by omega
   have hc:okF (bt (bs8 L) i):=by
    obtain ⟨c,g1,g2⟩:=bt_get (bs8 L) i h0 (by omega)
    rw [g2]
    refine hL c (List.mem_of_getElem? (i:=i.toNat) ?_)
    rw [show (bs8 L).data.toList=L by simp [bs8]] at g1
    exact g1
   by_cases h1':(((rd_T77 els i).f0).length:Int)=1
   ·have hk:=fewI_at he i h0 hlt
    have hof:=isOf_ev (bt (bs8 L) i) hc _ (hk.2 _ (rdT_mem _ 0 (Int.le_refl _) (by omega)))
    by_cases hP:elP (bt (bs8 L) i) (rdOf ByteArray.empty ((rd_T77 els i).f0) 0)
    ·rw [B_true hP] at hof
     obtain ⟨r,_,_,r2⟩:=els_both tag els pre L hL hn hp he els.length (i+1) (by omega) (by omega) (by omega) (by omega)
     have hr:=impl r (Evt.neg (by omega) (Evt.pos h1' (Evt.pos (by omega) (Evt.pos (by omega) (Evt.bind hof (Evt.pos rfl r2))))))
     rw [hr] at r2
     obtain ⟨a1,a2,a3⟩:=ih (i+1) (by omega) (by omega) (by omega) (by omega) r2
     refine ⟨a1,a2,fun j j0 j1=>?_⟩
     by_cases e:j=i
     ·rw [e];exact ⟨h1',hP⟩
     ·exact a3 j (by omega) j1
    ·rw [B_false hP] at hof
     have:=impl _ (Evt.neg (by omega) (Evt.pos h1' (Evt.pos (by omega) (Evt.pos (by omega) (Evt.bind hof (Evt.neg (by decide) (Evt.pure _)))))))
     omega
   ·have:=impl _ (Evt.neg (by omega) (Evt.neg h1' (Evt.pure _)))
    omega
  ·obtain rfl:i=(els.length:Int):=by omega
   exact stop h2 h
theorem form_fit (form:ByteArray) (hf:form.size≤20000) (he:fewI els) (h:Evt (fun k=>impl_FormRight.f k form tag els) (-1)) :
  els.length≤(fPre form.data.toList++fPost form.data.toList).length∧(fPre form.data.toList).length≤els.length∧∀ j:Int,0≤j→j<(els.length:Int)→elAt (fPre form.data.toList++fPost form.data.toList) els j:=by
 have hcut:strings_Cut.f form (⟨#[63]⟩:ByteArray)=some (bs8 (fPre form.data.toList),bs8 (fPost form.data.toList),(Lib.cut form.data.toList [63]).2.2):=by
  unfold strings_Cut.f
  rw [if_pos (by omega)]
  show some ((⟨(Lib.cut form.data.toList [63]).1.toArray⟩:ByteArray),(⟨(Lib.cut form.data.toList [63]).2.1.toArray⟩:ByteArray),(Lib.cut form.data.toList [63]).2.2)=_
  rw [(cut_63 _).1,(cut_63 _).2]
  rfl
 generalize hP:fPre form.data.toList=P at hcut
 generalize hR:fPost form.data.toList=R at hcut
 have hlen:P.length+R.length≤form.size:=by
  rw [← data_length,← hP,← hR]
  unfold fPre fPost
  have:=congrArg List.length (List.takeWhile_append_dropWhile (p:=(· != 63)) (l:=form.data.toList))
  rw [List.length_append] at this
  rw [List.length_tail]
  omega
 have hsz:((bs8 (P++R)).size:Int)=((P++R).length:Int):=by rw [bs8_size]
 have him:∀ r,Evt (fun k=>impl_FormRight.l0 k form (bs8 P) (bs8 (P++R)) ((bs8 (P++R)).size:Int) 0 tag els) r→r = -1:=fun r hr=>by
  have:Evt (fun k=>impl_FormRight.f k form tag els) r:=by
   unfold impl_FormRight.f
   simp only [hcut,Option.bind_some,bs8_app]
   exact Evt.pos (by rw [bs8_size,bs8_size];omega) hr
  exact evt_uniq this h
 obtain ⟨p1,p2⟩:=pass_loop ((bs8 (P++R)).size:Int) (fun i=>okF (bt (bs8 (P++R)) i)) (0:Int) (fun k i=>impl_FormRight.l0 k form (bs8 P) (bs8 (P++R)) ((bs8 (P++R)).size:Int) i tag els) (fun i h0 hlt=>by
  have hw:wrap64 (i+1)=i+1:=w64 (by omega) (by rw [List.length_append] at hsz;omega)
  have hb:=bt_range (bs8 (P++R)) i
  simp only [impl_FormRight.l0,strings_IndexByte.f,Option.bind_some,hw]
  exact ⟨fun hk r hr=>Evt.pos hlt (Evt.pos h0 (Evt.pos hlt (Evt.neg (fun x=>(six_iff _ hb.1 hb.2).1 x hk) hr))),fun hk=>Evt.pos hlt (Evt.pos h0 (Evt.pos hlt (Evt.pos ((six_iff _ hb.1 hb.2).2 hk) (Evt.pure _))))⟩) (bs8 (P++R)).size 0 (Int.le_refl _) (by omega) (by omega)
 have hall:(∀ j:Int,0≤j→j<((bs8 (P++R)).size:Int)→okF (bt (bs8 (P++R)) j)) ↔ okL (P++R):=by
  rw [all_bytes (bs8 (P++R)) okF,show (bs8 (P++R)).data.toList=P++R by simp [bs8]]
  rfl
 by_cases hk:okL (P++R)
 ·obtain ⟨r,_,_,r2⟩:=els_both tag els P (P++R) hk (by rw [List.length_append];omega) (by simp) he els.length 0 (Int.le_refl _) (by omega) (by omega) (by omega)
  have hr:=him r (p1 (hall.2 hk) _ (by
   apply Evt.succ
   simp only [impl_FormRight.l0]
   exact Evt.neg (by omega) (Evt.bind (longText1_ev form) (Evt.neg (by rw [B_false (by omega)];decide) r2))))
  rw [hr] at r2
  exact els_fit tag els P (P++R) hk (by rw [List.length_append];omega) (by simp) he els.length 0 (Int.le_refl _) (by omega) (by omega) (by omega) r2
 ·have:=him 0 (p2 (fun x=>hk (hall.1 x)))
  omega
end
end Go.Proofs.YtaememmnhmebcaaGreatDoor.QB
namespace Go.Proofs.YtaememmnhmebcaaGreatDoor.QB
open Go.RowKit Go.Proofs.YtaememmnhmebcaaGreatDoorW.PrintWords Go.Proofs.YtaememmnhmebcaaGreatDoor.Ev0 Go.Proofs.YtaememmnhmebcaaGreatDoor.Num
def i64 (a:Int):Prop:=-9223372036854775808≤a∧a≤9223372036854775807
def el1 (t:ByteArray):S77:=⟨[t]⟩
def sg (tag:ByteArray) (ps:List ByteArray):S46:=⟨tag,ps.map el1⟩
def dc (n:Int):ByteArray:=bs8 (Lib.itoa n)
theorem take_snoc {α:Type} (l:List α) (z:α) (i:Int) (h0:0≤i) (h:i<(l.length:Int)):l.take (i+1).toNat=l.take i.toNat++[l.getD i.toNat z]:=by
 rw [show (i+1).toNat=i.toNat+1 by omega,List.take_succ_eq_append_getElem (by omega),getD_at l z _ (by omega)]
theorem plain_ev (tag:ByteArray) (ps:List ByteArray) (h:ps.length≤1000):Evt (fun k=>impl_plain.f k tag ps) ((sg tag ps).f0,(sg tag ps).f1):=by
 unfold impl_plain.f
 have key:=up_loop (ps.length:Int) (fun k acc i=>impl_plain.l0 k ps (ps.length:Int) i tag acc) (fun i=>(ps.take i.toNat).map el1) (fun _=>((sg tag ps).f0,(sg tag ps).f1)) ?_ ?_ 0 (Int.le_refl _) (by omega)
 ·exact key
 ·intro i h0 hlt ih
  have hw:wrap64 (i+1)=i+1:=w64 (by omega) (by omega)
  have e:=take_snoc ps ByteArray.empty i h0 hlt
  simp only [e,List.map_append] at ih
  simp only [impl_plain.l0,hw]
  refine Evt.pos hlt (Evt.pos h0 (Evt.pos hlt (Evt.pos ?_ ih)))
  rw [List.length_map,List.length_take]
  omega
 ·simp only [impl_plain.l0]
  refine Evt.neg (by omega) ((Evt.pure _).same ?_)
  simp [sg]
theorem seg3_ev (tag:ByteArray) (ps:List ByteArray) (h:ps.length≤1000):Evt (fun k=>spec_l03Seg.f k tag ps) ((sg tag ps).f0,(sg tag ps).f1):=by
 unfold spec_l03Seg.f
 have key:=up_loop (ps.length:Int) (fun k acc i=>spec_l03Seg.l0 k ps i tag acc) (fun i=>(ps.take i.toNat).map el1) (fun _=>((sg tag ps).f0,(sg tag ps).f1)) ?_ ?_ 0 (Int.le_refl _) (by omega)
 ·exact key
 ·intro i h0 hlt ih
  have hw:wrap64 (i+1)=i+1:=w64 (by omega) (by omega)
  have e:=take_snoc ps ByteArray.empty i h0 hlt
  simp only [e,List.map_append] at ih
  simp only [spec_l03Seg.l0,hw]
  refine Evt.pos hlt (Evt.pos h0 (Evt.pos ?_ ih))
  rw [List.length_map,List.length_take]
  omega
 ·simp only [spec_l03Seg.l0]
  refine Evt.neg (by omega) ((Evt.pure _).same ?_)
  simp [sg]
def opM (m:Int):List ByteArray:=if m=0 then [] else [dc m]
def opN (t:ByteArray):List ByteArray:=if t.toList=([]:List UInt8) then [] else [t]
def lnS (k:Int) (l:S63):List ByteArray :=
 if k=1 then [dc l.f0,l.f1,dc l.f2]++opM l.f3 else if k=5 then [l.f1,dc l.f2] else if k=7 then [dc l.f0,dc l.f2]++opM l.f3
 else if k=6 then [l.f1,dc l.f2]++opN l.f4 else [dc l.f0,dc l.f2]++opN l.f4
def tagS (k:Int):ByteArray:=if k=5∨k=6 then sITM else if k=7 then sACK else sLIN
def lnOk (l:S63):Prop:=i64 l.f0∧i64 l.f2∧i64 l.f3
theorem lnS_len (k:Int) (l:S63):(lnS k l).length≤4:=by
 unfold lnS opM opN
 repeat' split
 all_goals simp
theorem lineS_ev (k:Int) (l:S63) (hl:lnOk l):Evt (fun n=>spec_l05Line.f n k l.f0 l.f1 l.f2 l.f3 l.f4) ((sg (tagS k) (lnS k l)).f0,(sg (tagS k) (lnS k l)).f1):=by
 obtain ⟨h0,h2,h3⟩:=hl
 have d0:=l01Dec_ev l.f0 h0.1 h0.2
 have d2:=l01Dec_ev l.f2 h2.1 h2.2
 have d3:=l01Dec_ev l.f3 h3.1 h3.2
 unfold spec_l05Line.f
 have J:∀ (x:Int) (ps:List ByteArray),ps.length≤4→Evt (fun n=>spec_l05Line.j0 n x ps l.f0 l.f1 l.f2 l.f3 l.f4) ((sg (if x=6 then sITM else sLIN) (ps++opN l.f4)).f0,(sg (if x=6 then sITM else sLIN) (ps++opN l.f4)).f1):=by
  intro x ps hp
  have J1:∀ qs:List ByteArray,qs.length≤10→Evt (fun n=>spec_l05Line.j1 n x qs) ((sg (if x=6 then sITM else sLIN) qs).f0,(sg (if x=6 then sITM else sLIN) qs).f1):=by
   intro qs hq
   apply Evt.succ
   simp only [spec_l05Line.j1]
   by_cases c:x=6
   ·rw [if_pos c];exact Evt.pos c (Evt.bind (seg3_ev _ qs (by omega)) (Evt.pure _))
   ·rw [if_neg c];exact Evt.neg c (Evt.bind (seg3_ev _ qs (by omega)) (Evt.pure _))
  apply Evt.succ
  simp only [spec_l05Line.j0]
  unfold opN
  by_cases c:l.f4.toList=([]:List UInt8)
  ·rw [if_pos c,List.append_nil];exact Evt.pos c (J1 ps (by omega))
  ·rw [if_neg c];exact Evt.neg c (Evt.pos (by omega) (J1 _ (by simp;omega)))
 have M:∀ (tag:ByteArray) (ps:List ByteArray),ps.length≤4→Evt (fun n=>if l.f3=0 then ((spec_l03Seg.f n tag ps).bind fun bt=>(some (bt.1,bt.2))) else ((spec_l01Dec.f n l.f3).bind fun t=>(if ps.length<8796093022208 then ((spec_l03Seg.f n tag (ps++[t])).bind fun bt=>(some (bt.1,bt.2))) else (none)))) ((sg tag (ps++opM l.f3)).f0,(sg tag (ps++opM l.f3)).f1):=by
  intro tag ps hp
  unfold opM
  by_cases c:l.f3=0
  ·rw [if_pos c,List.append_nil];exact Evt.pos c (Evt.bind (seg3_ev tag ps (by omega)) (Evt.pure _))
  ·rw [if_neg c];exact Evt.neg c (Evt.bind d3 (Evt.pos (by omega) (Evt.bind (seg3_ev tag _ (by simp;omega)) (Evt.pure _))))
 simp only [Option.bind_some]
 unfold lnS tagS
 by_cases k1:k=1
 ·subst k1
  exact Evt.pos rfl (Evt.bind d0 (Evt.bind d2 (M sLIN [dc l.f0,l.f1,dc l.f2] (by simp))))
 refine Evt.neg k1 ?_
 by_cases k5:k=5
 ·subst k5
  exact Evt.pos rfl (Evt.bind d2 (Evt.bind (seg3_ev sITM [l.f1,dc l.f2] (by simp)) (Evt.pure _)))
 refine Evt.neg k5 ?_
 by_cases k7:k=7
 ·subst k7
  exact Evt.pos rfl (Evt.bind d0 (Evt.bind d2 (M sACK [dc l.f0,dc l.f2] (by simp))))
 refine Evt.neg k7 ?_
 by_cases k6:k=6
 ·subst k6
  exact Evt.pos rfl (Evt.bind d2 (J 6 [l.f1,dc l.f2] (by simp)))
 refine Evt.neg k6 (Evt.bind d0 (Evt.bind d2 ?_))
 have:=J k [dc l.f0,dc l.f2] (by simp)
 rw [if_neg k6] at this
 rw [if_neg k1,if_neg k5,if_neg k7,if_neg k6,if_neg (by omega),if_neg k7]
 exact this
structure PP where
 kind:Int
 ref:ByteArray
 oth:ByteArray
 day:Int
 notes:List ByteArray
 lines:List S63
def docP (p:PP):List ByteArray:=if 2≤p.kind∧p.kind≤4 then [p.ref,p.oth,dc p.day] else [p.ref,dc p.day]
def bodyS (p:PP):List S46:=sg sDOC (docP p) :: (p.notes.map (fun n=>sg sNOT [n])++p.lines.map (fun l=>sg (tagS p.kind) (lnS p.kind l)))
def ppOk (p:PP):Prop:=i64 p.kind∧i64 p.day∧p.ref.size≤1048576∧p.oth.size≤1048576∧(∀ n ∈ p.notes,n.size≤1048576)∧(∀ l ∈ p.lines,lnOk l∧l.f1.size≤1048576∧l.f4.size≤1048576)
theorem lines_at {p:PP} (h:ppOk p) (i:Int) (h0:0≤i) (hlt:i<(p.lines.length:Int)):lnOk (rd_T63 p.lines i)∧(rd_T63 p.lines i).f1.size≤1048576∧(rd_T63 p.lines i).f4.size≤1048576:=by
 unfold rd_T63
 rw [getD_at p.lines _ _ (by omega)]
 exact h.2.2.2.2.2 _ (List.getElem_mem _)
theorem has_ev (k:Int):spec_l05Has.f k=some (B (2≤k∧k≤4)):=by
 unfold spec_l05Has.f
 by_cases h2:k=2
 ·subst h2;rw [if_pos rfl,B_true (by decide)]
 ·rw [if_neg h2]
  by_cases h3:k=3
  ·subst h3;rw [if_pos rfl,B_true (by decide)]
  ·rw [if_neg h3]
   exact congrArg some (bool_B (by rw [beq_iff_eq];omega))
theorem bodyS_ev (p:PP) (hp:ppOk p) (hn:p.notes.length≤40) (hl:p.lines.length≤20):Evt (fun k=>spec_l05Body.f k p.kind p.ref p.oth p.day p.notes p.lines) (bodyS p):=by
 have dd:=l01Dec_ev p.day hp.2.1.1 hp.2.1.2
 have L1:Evt (fun k=>spec_l05Body.l1 k (sg sDOC (docP p) :: p.notes.map (fun n=>sg sNOT [n])) 0 p.kind p.ref p.oth p.day p.notes p.lines) (bodyS p):=by
  have key:=up_loop (p.lines.length:Int) (fun k acc i=>spec_l05Body.l1 k acc i p.kind p.ref p.oth p.day p.notes p.lines) (fun i=>sg sDOC (docP p) :: (p.notes.map (fun n=>sg sNOT [n])++(p.lines.take i.toNat).map (fun l=>sg (tagS p.kind) (lnS p.kind l)))) (fun _=>bodyS p) ?_ ?_ 0 (Int.le_refl _) (by omega)
  ·simpa using key
  ·intro i h0 hlt ih
   have hw:wrap64 (i+1)=i+1:=w64 (by omega) (by omega)
   have e:=take_snoc p.lines z63 i h0 hlt
   simp only [e,List.map_append,List.map_cons,List.map_nil] at ih
   simp only [spec_l05Body.l1,hw]
   refine Evt.pos hlt (Evt.pos h0 (Evt.bind (lineS_ev p.kind _ (lines_at hp i h0 hlt).1) (Evt.pos ?_ ?_)))
   ·simp;omega
   ·rw [List.cons_append,List.append_assoc];exact ih
  ·simp only [spec_l05Body.l1]
   exact Evt.neg (by omega) ((Evt.pure _).same (by simp [bodyS]))
 have L0:Evt (fun k=>spec_l05Body.l0 k [sg sDOC (docP p)] 0 p.kind p.ref p.oth p.day p.notes p.lines) (bodyS p):=by
  have key:=up_loop (p.notes.length:Int) (fun k acc i=>spec_l05Body.l0 k acc i p.kind p.ref p.oth p.day p.notes p.lines) (fun i=>sg sDOC (docP p) :: (p.notes.take i.toNat).map (fun n=>sg sNOT [n])) (fun _=>bodyS p) ?_ ?_ 0 (Int.le_refl _) (by omega)
  ·simpa using key
  ·intro i h0 hlt ih
   have hw:wrap64 (i+1)=i+1:=w64 (by omega) (by omega)
   have e:=take_snoc p.notes ByteArray.empty i h0 hlt
   simp only [e,List.map_append,List.map_cons,List.map_nil] at ih
   simp only [spec_l05Body.l0,hw]
   refine Evt.pos hlt (Evt.pos h0 (Evt.bind (seg3_ev sNOT [rdOf ByteArray.empty p.notes i] (by simp)) (Evt.pos ?_ ?_)))
   ·simp;omega
   ·rw [List.cons_append];exact ih
  ·simp only [spec_l05Body.l0]
   refine Evt.neg (by omega) ?_
   simpa using L1
 have J0:Evt (fun k=>spec_l05Body.j0 k (docP p) p.kind p.ref p.oth p.day p.notes p.lines) (bodyS p):=by
  apply Evt.succ
  simp only [spec_l05Body.j0]
  exact Evt.bind (seg3_ev sDOC (docP p) (by unfold docP;split <;> simp)) L0
 unfold spec_l05Body.f
 simp only [has_ev,Option.bind_some]
 refine Evt.bind dd ?_
 unfold docP at J0
 by_cases h:2≤p.kind∧p.kind≤4
 ·rw [if_pos h] at J0
  rw [B_true h]
  exact Evt.pos rfl (Evt.bind dd J0)
 ·rw [if_neg h] at J0
  rw [B_false h]
  exact Evt.neg (by decide) J0
end Go.Proofs.YtaememmnhmebcaaGreatDoor.QB
