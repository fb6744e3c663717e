-- Merged by a program of this session (wip/tool/pack.py) out of its own texts for this claim.
import Derived.Test.YtaememmnhmebcaaGreatDoorKFnExactPaperBody22
set_option linter.unusedSimpArgs false
set_option linter.unusedVariables false
namespace Go.Proofs.YtaememmnhmebcaaGreatDoor.QB
open Go.RowKit Go.Proofs.YtaememmnhmebcaaGreatDoorW.PrintWords Go.Proofs.YtaememmnhmebcaaGreatDoor.Ev0 Go.Proofs.YtaememmnhmebcaaGreatDoor.Num
theorem numb_ev (k:Int):spec_l05Numbered.f k=some (B (cntP k)):=by
 unfold spec_l05Numbered.f cntP
 by_cases h:k≥1
 ·rw [if_pos h]
  exact congrArg some ((decide_B _).trans (B_congr ⟨fun x=>⟨h,x⟩,fun x=>x.2⟩))
 ·rw [if_neg h,B_false (fun x=>h x.1)]
theorem own_ev (k:Int):spec_l05Own.f k=some (B (ownP k)):=by
 unfold spec_l05Own.f ownP
 by_cases h1:k=1
 ·rw [if_pos h1,B_true (.inl h1)]
 ·rw [if_neg h1]
  by_cases h5:k=5
  ·rw [if_pos h5,B_true (.inr (.inl h5))]
  ·rw [if_neg h5]
   exact congrArg some (bool_B (by rw [beq_iff_eq];omega))
def badS (k:Int) (ls:List LN) (i:Int):Prop :=
 (cntP k∧((rd_T63 ls i).f0≤(if 0<i then (rd_T63 ls (i - 1)).f0 else 0)∨(rd_T63 ls i).f0>999)) ∨
 (ownP k∧∃ j:Int,0≤j∧j<i∧(rd_T63 ls j).f1=(rd_T63 ls i).f1)
theorem bad_iff (k:Int) (ls:List LN):(∀ i:Int,0≤i→i<(ls.length:Int)→¬ badS k ls i) ↔ (∀ i:Int,0≤i→i<(ls.length:Int)→¬ badI k ls i):=by
 constructor
 ·intro h
  have pos:∀ (d:Nat) (i:Int),i=(d:Int)→i<(ls.length:Int)→cntP k→1≤(rd_T63 ls i).f0:=by
   intro d
   induction d with
   | zero =>
    intro i e hlt hc
    have:=h i (by omega) hlt
    unfold badS at this
    rw [if_neg (by omega)] at this
    rcases Int.lt_or_le 0 (rd_T63 ls i).f0 with g|g
    ·omega
    ·exact absurd (.inl ⟨hc,.inl g⟩) this
   | succ d ih =>
    intro i e hlt hc
    have:=h i (by omega) hlt
    unfold badS at this
    rw [if_pos (by omega)] at this
    have p:=ih (i - 1) (by omega) (by omega) hc
    rcases Int.lt_or_le (rd_T63 ls (i - 1)).f0 (rd_T63 ls i).f0 with g|g
    ·omega
    ·exact absurd (.inl ⟨hc,.inl g⟩) this
  intro i h0 hlt hb
  refine h i h0 hlt ?_
  rcases hb with ⟨hc,hb | ⟨hi,hb⟩⟩|hb
  ·have:=pos i.toNat i (by omega) hlt hc
   exact .inl ⟨hc,.inr (by omega)⟩
  ·exact .inl ⟨hc,.inl (by rw [if_pos hi];exact hb)⟩
  ·exact .inr hb
 ·intro h i h0 hlt hb
  refine h i h0 hlt ?_
  rcases hb with ⟨hc,hb|hb⟩|hb
  ·by_cases hi:0<i
   ·rw [if_pos hi] at hb
    exact .inl ⟨hc,.inr ⟨hi,hb⟩⟩
   ·rw [if_neg hi] at hb
    exact .inl ⟨hc,.inl (by omega)⟩
  ·exact .inl ⟨hc,.inl (by omega)⟩
  ·exact .inr hb
theorem lnOk_proj {k:Int} {l:LN} (h:lnOk l):lnOk (projL k l):=by
 obtain ⟨a,b,c⟩:=h
 have z:i64 0:=⟨by decide,by decide⟩
 unfold projL
 repeat' split
 all_goals exact ⟨by first|exact a|exact z,by first|exact b|exact z,by first|exact c|exact z⟩
theorem lnS_proj (k:Int) (hk:kOk k) (l:LN) (h:LF (letA k) (letA k++letB k) (lnS k l)):lnS k (projL k l)=lnS k l:=by
 obtain ⟨a,b⟩:=hk
 have hk7:k=1∨k=2∨k=3∨k=4∨k=5∨k=6∨k=7:=by omega
 rcases hk7 with rfl|rfl|rfl|rfl|rfl|rfl|rfl
 ·rfl
 ·rfl
 ·have c:l.f4.toList=([]:List UInt8):=by
   by_cases c:l.f4.toList=([]:List UInt8)
   ·exact c
   ·exfalso
    have:=h.2.1
    simp [lnS,opN,c,letA,letB] at this
  have e:opN l.f4=[]:=by unfold opN;rw [if_pos c]
  have e2:opN nul=[]:=by unfold opN;rw [if_pos (bytes_nil.2 rfl)]
  show [dc l.f0,dc l.f2]++opN nul=[dc l.f0,dc l.f2]++opN l.f4
  rw [e,e2]
 ·rfl
 ·rfl
 ·rfl
 ·rfl
abbrev RT:=Int × ByteArray × ByteArray × Int × List ByteArray × (List LN) × Int × Int
theorem restG (p:PP) (L) (i:Nat) (h:i<p.lines.length):rd_T46 (bodyG p L) ((1+p.notes.length+i:Nat):Int)=sg (tagS p.kind) (L p.lines[i]):=by
 rw [show ((1+p.notes.length+i:Nat):Int)=1+(p.notes.length:Int)+(i:Int) by omega]
 exact bodyG_l p L i h
theorem paperS_lines (p : PP) (hk : kOk p.kind) (hp : ppOk p) (fb : FB p (lnS p.kind)) (oth : ByteArray) : ∀ (d q : Nat), q + d = p.lines.length →
    ∃ r : RT, Evt (fun k => spec_PaperOf.l0 k p.kind (bodyG p (lnS p.kind)) ((1 + p.notes.length + q : Nat) : Int) p.kind p.ref oth p.day p.notes ((p.lines.map (projL p.kind)).take q)) r ∧
      (((∀ i : Int, (q : Int) ≤ i → i < (p.lines.length : Int) → ¬ badS p.kind (p.lines.map (projL p.kind)) i) ∧ r = (p.kind, p.ref, oth, p.day, p.notes, p.lines.map (projL p.kind), 0, 0)) ∨
       ((∃ i : Int, (q : Int) ≤ i ∧ i < (p.lines.length : Int) ∧ badS p.kind (p.lines.map (projL p.kind)) i) ∧ r.2.2.2.2.2.2.2 ≠ 0)) := by
  have hlen := bodyG_len p (lnS p.kind)
  have hL := restG p (lnS p.kind)
  have n2 := fb.notes
  have l20 := fb.lines
  have fl := fb.line
  generalize bodyG p (lnS p.kind) = body at *
  have hml : (p.lines.map (projL p.kind)).length = p.lines.length := by simp
  have hmg : ∀ (i : Nat) (h : i < p.lines.length), rd_T63 (p.lines.map (projL p.kind)) (i : Int) = projL p.kind p.lines[i] := fun i h => by
    rw [rdl_at _ _ (by rw [hml]; exact h), List.getElem_map]
  generalize hls : p.lines.map (projL p.kind) = ls at *
  intro d
  induction d with
  | zero =>
    intro q hq
    refine ⟨_, ?_, .inl ⟨fun i a b => absurd b (by omega), rfl⟩⟩
    apply Evt.succ
    simp only [spec_PaperOf.l0]
    refine Evt.neg (by omega) ((Evt.pure _).same ?_)
    rw [List.take_of_length_le (by omega)]
  | succ d ih =>
    intro q hq
    have hqn : q < p.lines.length := by omega
    obtain ⟨r, hr, hc⟩ := ih (q + 1) (by omega)
    have hw : wrap64 (((1 + p.notes.length + q : Nat) : Int) + 1) = ((1 + p.notes.length + (q + 1) : Nat) : Int) := by rw [w64 (by omega) (by omega)]; omega
    have hseg := hL q hqn
    have hx := hmg q hqn
    have hsl := small_at hp q hqn
    have hfl := fl _ (List.getElem_mem hqn)
    have hread := lineR_ev p.kind hk p.lines[q] hsl (tagS p.kind) hfl
    have hwrite := lineS_ev p.kind (projL p.kind p.lines[q]) (lnOk_proj hsl.1)
    rw [lnS_proj p.kind hk _ hfl] at hwrite
    have hsame := sameSeg_ev (tagS p.kind) (lnS p.kind p.lines[q]) (by have := lnS_len p.kind p.lines[q]; omega)
    rw [List.take_succ_eq_append_getElem (by rw [hml]; exact hqn)] at hr
    have hxe : ls[q]'(by rw [hml]; exact hqn) = projL p.kind p.lines[q] := by rw [← hx, rdl_at _ _ (by rw [hml]; exact hqn)]
    rw [hxe] at hr
    generalize hX : projL p.kind p.lines[q] = x at *
    have htl : ((ls.take q).length : Int) = (q : Int) := by simp; omega
    -- the line stands: it is written, held to the segment, taken
    have G : Evt (fun k => (spec_l05Line.f k p.kind x.f0 x.f1 x.f2 x.f3 x.f4).bind fun bt401 => (if 0 ≤ ((1 + p.notes.length + q : Nat) : Int) then (if ((1 + p.notes.length + q : Nat) : Int) < (body.length : Int) then ((spec_l03SameSeg.f k bt401.1 bt401.2 ((rd_T46 body ((1 + p.notes.length + q : Nat) : Int)).f0) ((rd_T46 body ((1 + p.notes.length + q : Nat) : Int)).f1)).bind fun t406 => (if t406 = true then (if (ls.take q).length < 2513169434916 then (spec_PaperOf.l0 k p.kind body (wrap64 (((1 + p.notes.length + q : Nat) : Int) + 1)) p.kind p.ref oth p.day p.notes (ls.take q ++ [(⟨x.f0, x.f1, x.f2, x.f3, x.f4⟩ : LN)])) else (none)) else (some (0, nul, nul, 0, ([] : List ByteArray), ([] : List LN), ((1 + p.notes.length + q : Nat) : Int), 3)))) else (none)) else (none))) r := by
      rw [hw, hseg]
      exact Evt.bind hwrite (Evt.pos (by omega) (Evt.pos (by omega) (Evt.bind hsame (Evt.pos rfl (Evt.pos (by omega) hr)))))
    have J5 : ∀ y : Int, Evt (fun k => spec_PaperOf.j5 k p.kind body ((1 + p.notes.length + q : Nat) : Int) y false p.kind p.ref oth p.day p.notes (ls.take q) x.f0 x.f1 x.f2 x.f3 x.f4) r := fun y => by
      apply Evt.succ
      simp only [spec_PaperOf.j5]
      exact Evt.neg (by simp) G
    let ER : RT := (0, nul, nul, 0, ([] : List ByteArray), ([] : List LN), ((1 + p.notes.length + q : Nat) : Int), 11)
    have OL : ∃ r' : RT, Evt (fun k => spec_PaperOf.l1 k p.kind body ((1 + p.notes.length + q : Nat) : Int) 0 p.kind p.ref oth p.day p.notes (ls.take q) x.f0 x.f1 x.f2 x.f3 x.f4) r' ∧ ((¬ (ownP p.kind ∧ ∃ j : Int, 0 ≤ j ∧ j < (q : Int) ∧ (rd_T63 ls j).f1 = x.f1) ∧ r' = r) ∨ ((ownP p.kind ∧ ∃ j : Int, 0 ≤ j ∧ j < (q : Int) ∧ (rd_T63 ls j).f1 = x.f1) ∧ r' = ER)) := by
      by_cases ow : ownP p.kind
      · have key := find_loopG ((ls.take q).length : Int) (by omega) (fun j => (rd_T63 ls j).f1 = x.f1) (fun z => if z = -1 then r else ER) (fun k j => spec_PaperOf.l1 k p.kind body ((1 + p.notes.length + q : Nat) : Int) j p.kind p.ref oth p.day p.notes (ls.take q) x.f0 x.f1 x.f2 x.f3 x.f4) ?_ ?_
        · obtain ⟨z, hz, hzc⟩ := key
          rcases hzc with ⟨rfl, hno⟩ | ⟨z0, z1, z2⟩
          · exact ⟨r, hz.same (if_pos rfl), .inl ⟨fun ⟨_, j, j0, j1, j2⟩ => hno j j0 (by omega) j2, rfl⟩⟩
          · exact ⟨ER, hz.same (if_neg (by omega)), .inr ⟨⟨ow, z, z0, by omega, z2⟩, rfl⟩⟩
        · intro j j0 jlt
          have hwj : wrap64 (j + 1) = j + 1 := w64 (by omega) (by omega)
          have e := take_at ls q j j0 (by omega) (by omega)
          simp only [spec_PaperOf.l1, own_ev, Option.bind_some]
          rw [B_true ow]
          refine ⟨fun hj => Evt.pos jlt ?_, fun hj r' hr' => Evt.pos jlt ?_⟩
          · apply Evt.succ
            simp only [spec_PaperOf.j5, e]
            rw [if_neg (by omega : ¬ j = -1)]
            exact Evt.pos (by simp) (Evt.pos j0 (Evt.pos jlt (Evt.pos (by rw [hj]) (Evt.pure _))))
          · apply Evt.succ
            simp only [spec_PaperOf.j5, e, hwj]
            exact Evt.pos (by simp) (Evt.pos j0 (Evt.pos jlt (Evt.neg (fun e => hj (bytes_ext.1 e)) hr')))
        · simp only [spec_PaperOf.l1, if_true]
          exact Evt.neg (by omega) (J5 _)
      · refine ⟨r, ?_, .inl ⟨fun z => ow z.1, rfl⟩⟩
        apply Evt.succ
        simp only [spec_PaperOf.l1, own_ev, Option.bind_some]
        rw [B_false ow]
        exact Evt.ite (fun _ => J5 _) (fun _ => J5 _)
    obtain ⟨r', hr', hc'⟩ := OL
    have J3 : ∀ b : Bool, Evt (fun k => spec_PaperOf.j3 k p.kind body ((1 + p.notes.length + q : Nat) : Int) b p.kind p.ref oth p.day p.notes (ls.take q) x.f0 x.f1 x.f2 x.f3 x.f4) (if b = true then ER else r') := fun b => by
      apply Evt.succ
      simp only [spec_PaperOf.j3]
      cases b
      · exact Evt.neg (by simp) hr'
      · exact Evt.pos rfl (Evt.pure _)
    have J2 : ∀ last : Int, Evt (fun k => spec_PaperOf.j2 k p.kind body ((1 + p.notes.length + q : Nat) : Int) last p.kind p.ref oth p.day p.notes (ls.take q) x.f0 x.f1 x.f2 x.f3 x.f4) (if B (cntP p.kind ∧ (x.f0 ≤ last ∨ x.f0 > 999)) = true then ER else r') := fun last => by
      apply Evt.succ
      simp only [spec_PaperOf.j2, numb_ev, Option.bind_some]
      by_cases cc : cntP p.kind
      · rw [B_true cc]
        refine Evt.pos rfl ?_
        by_cases cl : x.f0 ≤ last
        · exact Evt.pos cl ((J3 true).same (by rw [B_true ⟨cc, .inl cl⟩]))
        · refine Evt.neg cl ((J3 _).same ?_)
          by_cases cg : x.f0 > 999
          · rw [decide_eq_true cg, B_true ⟨cc, .inr cg⟩]
          · rw [decide_eq_false cg, B_false (fun z => z.2.elim cl cg)]
      · rw [B_false cc]
        exact Evt.neg (by decide) ((J3 false).same (by rw [B_false (fun z => cc z.1)]))
    let last : Int := if 0 < (q : Int) then (rd_T63 ls ((q : Int) - 1)).f0 else 0
    refine ⟨if B (cntP p.kind ∧ (x.f0 ≤ last ∨ x.f0 > 999)) = true then ER else r', ?_, ?_⟩
    · apply Evt.succ
      simp only [spec_PaperOf.l0, hseg]
      refine Evt.pos (by omega) (Evt.pos (by omega) (Evt.neg (tag_not _) (Evt.bind hread ?_)))
      by_cases c : (q : Int) > 0
      · have hw2 : wrap64 (((ls.take q).length : Int) - 1) = (q : Int) - 1 := by rw [htl]; exact w64 (by omega) (by omega)
        rw [hw2, take_at ls q ((q : Int) - 1) (by omega) (by omega) (by omega)]
        refine Evt.pos (by omega) (Evt.pos (by omega) (Evt.pos (by omega) ((J2 _).same ?_)))
        rw [show last = (rd_T63 ls ((q : Int) - 1)).f0 from if_pos c]
      · refine Evt.neg (by omega) ((J2 _).same ?_)
        rw [show last = 0 from if_neg c]
    · have hb : badS p.kind ls (q : Int) ↔ ((cntP p.kind ∧ (x.f0 ≤ last ∨ x.f0 > 999)) ∨ (ownP p.kind ∧ ∃ j : Int, 0 ≤ j ∧ j < (q : Int) ∧ (rd_T63 ls j).f1 = x.f1)) := by
        unfold badS
        rw [hx]
      by_cases c1 : cntP p.kind ∧ (x.f0 ≤ last ∨ x.f0 > 999)
      · rw [B_true c1, if_pos rfl]
        exact .inr ⟨⟨(q : Int), by omega, by omega, hb.2 (.inl c1)⟩, (show (11 : Int) ≠ 0 by decide)⟩
      · rw [B_false c1, if_neg (by decide)]
        rcases hc' with ⟨no, rfl⟩ | ⟨ye, rfl⟩
        · rcases hc with ⟨h1, h2⟩ | ⟨⟨i, a, b, c⟩, h2⟩
          · refine .inl ⟨fun i a b => ?_, h2⟩
            by_cases e : i = (q : Int)
            · rw [e]; exact fun z => (hb.1 z).elim c1 no
            · exact h1 i (by omega) b
          · exact .inr ⟨⟨i, by omega, b, c⟩, h2⟩
        · exact .inr ⟨⟨(q : Int), by omega, by omega, hb.2 (.inr ye)⟩, (show (11 : Int) ≠ 0 by decide)⟩
end Go.Proofs.YtaememmnhmebcaaGreatDoor.QB
namespace Go.Proofs.YtaememmnhmebcaaGreatDoor.QB
open Go.RowKit Go.Proofs.YtaememmnhmebcaaGreatDoorW.PrintWords Go.Proofs.YtaememmnhmebcaaGreatDoor.Ev0 Go.Proofs.YtaememmnhmebcaaGreatDoor.Num
theorem Evt_up {α:Type} {f:Nat→Option α} {r:α} (h:Evt f r):Evt (fun k=>f (k+1)) r:=by
 obtain ⟨K,hK⟩:=h
 exact ⟨K,fun k hk=>hK (k+1) (by omega)⟩
theorem paperS_ev (p:PP) (hk:kOk p.kind) (hp:ppOk p) (fb:FB p (lnS p.kind)) (t:Int × Int × Int) (ht:Evt (fun k=>spec_TableCheck.f k p.kind (bodyG p (lnS p.kind))) t) (h0:t.2.2=0) :
    ∃ r:RT,Evt (fun k=>spec_PaperOf.f k p.kind (bodyG p (lnS p.kind))) r ∧
      (((∀ i:Int,0≤i→i<(p.lines.length:Int)→¬ badS p.kind (p.lines.map (projL p.kind)) i)∧r=(p.kind,p.ref,othP p,p.day,p.notes,p.lines.map (projL p.kind),0,0)) ∨
       ((∃ i:Int,0≤i∧i<(p.lines.length:Int)∧badS p.kind (p.lines.map (projL p.kind)) i)∧r.2.2.2.2.2.2.2≠0)):=by
  have hlen:=bodyG_len p (lnS p.kind)
  have hd0:=bodyG_0 p (lnS p.kind)
  have hN:=bodyG_n p (lnS p.kind)
  have n2:=fb.notes
  obtain ⟨dT,d0,d1⟩:=doc_day p hp.2.1 fb.doc
  obtain ⟨r,hr,hc⟩:=paperS_lines p hk hp fb (othP p) p.lines.length 0 (by omega)
  refine ⟨r,?_,hc⟩
  clear hc
  rw [List.take_zero,Nat.add_zero] at hr
  generalize bodyG p (lnS p.kind)=body at *
  have L0:Evt (fun k=>spec_PaperOf.l0 k p.kind body 1 p.kind p.ref (othP p) p.day [] []) r:=by
    have key:=up_loop (p.notes.length:Int) (fun k (s:List ByteArray) i=>spec_PaperOf.l0 k p.kind body (1+i) p.kind p.ref (othP p) p.day s []) (fun i=>p.notes.take i.toNat) (fun _=>r) ?_ ?_ 0 (Int.le_refl _) (by omega)
    · simpa using key
    · intro i g0 hlt ih
      obtain ⟨m,rfl⟩:∃ m:Nat,i=(m:Int):=⟨i.toNat,by omega⟩
      have hm:m<p.notes.length:=by omega
      have hw:wrap64 (1+(m:Int)+1)=1+((m:Int)+1):=by rw [w64 (by omega) (by omega)];omega
      have hpart:=part_f sNOT [p.notes[m]] 0
      simp only [spec_PaperOf.l0,hN m hm,hw]
      rw [show ((m:Int)+1).toNat=m+1 by omega,List.take_succ_eq_append_getElem hm] at ih
      exact Evt.pos (by omega) (Evt.pos (by omega) (Evt.pos not_tag (Evt.bind (Evt.const hpart) (Evt.pos (by simp;omega) ih))))
    · have:=Evt_up hr
      rw [Int.toNat_natCast,List.take_of_length_le (by omega)]
      rwa [show ((1+p.notes.length:Nat):Int)=1+(p.notes.length:Int) by omega] at this
  have J0:Evt (fun k=>spec_PaperOf.j0 k p.kind body p.kind p.ref (othP p) p.day) r:=by
    apply Evt.succ
    simp only [spec_PaperOf.j0]
    exact L0
  unfold spec_PaperOf.f
  refine Evt.bind ht (Evt.pos h0 (Evt.pos (by omega) ?_))
  simp only [hd0,has_ev,Option.bind_some]
  have p0:=part_f sDOC (docP p) 0
  have e0:(docP p).getD 0 nul=p.ref:=by unfold docP;split <;> rfl
  rw [e0] at p0
  refine Evt.bind (Evt.const p0) ?_
  by_cases c:2≤p.kind∧p.kind≤4
  · have ed:docP p=[p.ref,p.oth,dc p.day]:=by unfold docP;rw [if_pos c]
    have eo:othP p=p.oth:=by unfold othP;rw [if_pos c]
    rw [eo] at J0
    have p1:=part_f sDOC (docP p) 1
    have e1:(docP p).getD 1 nul=p.oth:=by rw [ed];rfl
    rw [e1] at p1
    obtain ⟨v,hv,_⟩:=l01Num_ev p.oth (by have:=hp.2.2.2.1;omega)
    have n1:Evt (fun k=>spec_l05Num.f k sDOC ((docP p).map el1) 1) v:=by
      unfold spec_l05Num.f
      rw [show (1:Int)=((1:Nat):Int) from rfl,p1]
      simp only [Option.bind_some]
      exact Evt.bind hv (Evt.pure _)
    have n2':=num_T sDOC (docP p) 2 (by rw [ed];exact dT)
    rw [show (docP p).getD 2 nul=dc p.day by rw [ed];rfl,dc_val] at n2'
    refine Evt.bind n1 ?_
    rw [B_true c]
    exact Evt.pos rfl (Evt.bind (Evt.const p1) (Evt.bind n2' J0))
  · have ed:docP p=[p.ref,dc p.day]:=by unfold docP;rw [if_neg c]
    have eo:othP p=nul:=by unfold othP;rw [if_neg c]
    rw [eo] at J0
    have n1:=num_T sDOC (docP p) 1 (by rw [ed];exact dT)
    rw [show (docP p).getD 1 nul=dc p.day by rw [ed];rfl,dc_val] at n1
    refine Evt.bind n1 ?_
    rw [B_false c]
    exact Evt.neg (by decide) J0
theorem sameS_ev (p:PP) (n2:p.notes.length≤1000) (l20:p.lines.length≤1000):Evt (fun k=>spec_PaperSame.f k p.kind p.ref (othP p) p.day p.notes (p.lines.map (projL p.kind)) p.kind p.ref p.oth p.day p.notes p.lines) (B (okP p)):=by
 unfold spec_PaperSame.f
 have J:∀ b:Bool,b=true→Evt (fun k=>spec_PaperSame.j0 k b p.kind p.ref (othP p) p.day p.notes (p.lines.map (projL p.kind)) p.kind p.ref p.oth p.day p.notes p.lines) false:=fun b hb=>by
  apply Evt.succ
  simp only [spec_PaperSame.j0]
  exact Evt.pos hb (Evt.pure _)
 refine Evt.pos rfl (Evt.pos rfl ?_)
 by_cases c:othP p=p.oth
 ·refine Evt.pos (by rw [c]) (Evt.pos rfl (Evt.pos rfl ?_))
  rw [show (((p.lines.map (projL p.kind)).length:Int) != (p.lines.length:Int))=false by simp]
  apply Evt.succ
  simp only [spec_PaperSame.j0]
  refine Evt.neg (by simp) ?_
  have L1:=right_loop ((p.lines.map (projL p.kind)).length:Int) (by omega) (fun i=>projL p.kind (rd_T63 p.lines i)=rd_T63 p.lines i) True (fun k i=>spec_PaperSame.l1 k i p.kind p.ref (othP p) p.day p.notes (p.lines.map (projL p.kind)) p.kind p.ref p.oth p.day p.notes p.lines) ?_ ?_
  ·have key:=up_loop (p.notes.length:Int) (fun k (_:Unit) i=>spec_PaperSame.l0 k i p.kind p.ref (othP p) p.day p.notes (p.lines.map (projL p.kind)) p.kind p.ref p.oth p.day p.notes p.lines) (fun _=>()) (fun _=>B (okP p)) ?_ ?_ 0 (Int.le_refl _) (by omega)
   ·exact key
   ·intro i h0 hlt ih
    have hw:wrap64 (i+1)=i+1:=w64 (by omega) (by omega)
    simp only [spec_PaperSame.l0,hw,if_true]
    exact Evt.pos hlt (Evt.pos h0 (Evt.pos hlt ih))
   ·simp only [spec_PaperSame.l0]
    refine Evt.neg (by omega) (L1.same (B_congr ?_))
    rw [List.length_map]
    constructor
    ·intro h
     exact ⟨c,(all_lines p (fun l=>projL p.kind l=l)).1 h.1⟩
    ·intro h
     exact ⟨(all_lines p (fun l=>projL p.kind l=l)).2 h.2,trivial⟩
  ·intro i h0 hlt
   have hlt':i<(p.lines.length:Int):=by rwa [List.length_map] at hlt
   have hw:wrap64 (i+1)=i+1:=w64 (by omega) (by omega)
   simp only [spec_PaperSame.l1,hw,rdp_at p i h0 hlt']
   exact ⟨fun hk r hr=>Evt.pos hlt (Evt.pos h0 (Evt.pos hlt' (Evt.neg (fun x=>(ln_ne _ _).1 x hk) hr))),fun hk=>Evt.pos hlt (Evt.pos h0 (Evt.pos hlt' (Evt.pos ((ln_ne _ _).2 hk) (Evt.pure _))))⟩
  ·simp only [spec_PaperSame.l1]
   exact Evt.neg (by omega) ((Evt.pure _).same (B_true trivial).symm)
 ·exact Evt.neg (fun h=>c (bytes_ext.1 h)) ((J true rfl).same (B_false (fun h=>c h.1)).symm)
end Go.Proofs.YtaememmnhmebcaaGreatDoor.QB
namespace Go.Proofs.YtaememmnhmebcaaGreatDoor.QB
open Go.RowKit Go.Proofs.YtaememmnhmebcaaGreatDoorW.PrintWords Go.Proofs.YtaememmnhmebcaaGreatDoor.Ev0 Go.Proofs.YtaememmnhmebcaaGreatDoor.Num
theorem part_of {t:ByteArray} (h:t.size≤40) (hc:∀ c ∈ t.data.toList,32≤(c.toNat:Int)∧(c.toNat:Int)≤126):PartPr t :=
 ⟨by omega,(all_bytes t (fun c=>32≤c∧c≤126)).2 hc⟩
theorem gd_num {t:ByteArray} (h:isNum t.data.toList) (a : -1000000000≤valT t.data.toList) (b:valT t.data.toList≤1000000000):gd t:=by
 have h12:=num_12 _ h a b
 obtain ⟨h1,h2,h3⟩:=h
 have hs:t.data.toList.length≤13:=by
  unfold digs at h12
  split at h12
  ·rw [List.length_tail] at h12;omega
  ·omega
 refine ⟨part_of (by rw [← data_length];omega) (fun c hc=>?_),fun e=>?_⟩
 ·have hcd:c=45∨dig c:=by
   unfold digs at h2
   split at h2
   ·rename_i hh
    cases hl:t.data.toList with
    | nil=>rw [hl] at hc;cases hc
    | cons x xs =>
     rw [hl] at hc hh h2
     rcases List.mem_cons.1 hc with rfl|hc
     ·exact .inl (Option.some.inj hh)
     ·exact .inr (h2 c hc)
   ·exact .inr (h2 c hc)
  rcases hcd with rfl|hd
  ·decide
  ·have:=(dig_int c).1 hd
   omega
 ·have:=(size_nil t).2 (bytes_nil.1 e)
  rw [this] at h1
  exact h1 rfl
theorem gd_of {c:Int} {t:ByteArray} (h:elP c t):gd t:=by
 unfold elP numP at h
 rcases h with ⟨e,h⟩ | ⟨e,h,a,b⟩ | ⟨e,h,a,b⟩ | ⟨e,⟨h,a,b⟩,_⟩ | ⟨e,h,a,b⟩ | ⟨e,h,g⟩
 ·refine ⟨⟨by have:=h.2.1;omega,fun i h0 hlt=>?_⟩,fun e=>?_⟩
  ·rcases h.2.2.2 i h0 hlt with g|g|g <;> omega
  ·have:=bytes_nil.1 e
   have:=h.1
   omega
 ·exact gd_num h (by omega) (by omega)
 ·exact gd_num h (by omega) (by omega)
 ·exact gd_num h (by omega) (by omega)
 ·exact gd_num h (by omega) (by omega)
 ·exact ⟨g,h⟩
theorem lf_gd {pre all:List UInt8} {ps:List ByteArray} (h:LF pre all ps):∀ t ∈ ps,gd t:=by
 intro t ht
 obtain ⟨j,hj,rfl⟩:=List.mem_iff_getElem.1 ht
 have hja:j<all.length:=by have:=h.2.1;omega
 exact gd_of (h.2.2 j all[j] ps[j] (List.getElem?_eq_getElem hja) (List.getElem?_eq_getElem hj))
theorem segs_ev (p:PP) (hp:ppOk p) (i:Int) (h0:0≤i) (h:i<((bodyS p).length:Int)) :
  ∃ b,Evt (fun k=>spec_SegmentRight.f k (rd_T46 (bodyS p) i).f0 (rd_T46 (bodyS p) i).f1) b∧(FB p (lnS p.kind)→b=true):=by
 have hlen:=bodyG_len p (lnS p.kind)
 have tg:tagS p.kind=sDOC∨tagS p.kind=sNOT∨tagS p.kind=sLIN∨tagS p.kind=sITM∨tagS p.kind=sACK:=by
  unfold tagS
  repeat' split
  all_goals simp
 change i<((bodyG p (lnS p.kind)).length:Int) at h
 show ∃ b,Evt (fun k=>spec_SegmentRight.f k (rd_T46 (bodyG p (lnS p.kind)) i).f0 (rd_T46 (bodyG p (lnS p.kind)) i).f1) b∧(FB p (lnS p.kind)→b=true)
 by_cases c0:i=0
 ·subst c0
  rw [bodyG_0]
  obtain ⟨b,hb,hg⟩:=segR_ev sDOC (.inl rfl) (docP p) (by unfold docP;split <;> simp) (fun t ht=>by
   obtain ⟨_,hd,hr,ho,_⟩:=hp
   have:=dc_size hd
   unfold docP at ht
   split at ht <;> simp at ht
   ·rcases ht with rfl|rfl|rfl <;> assumption
   ·rcases ht with rfl|rfl <;> assumption)
  exact ⟨b,hb,fun fb=>hg (lf_gd fb.doc)⟩
 ·by_cases c1:i<1+(p.notes.length:Int)
  ·obtain ⟨m,rfl⟩:∃ m:Nat,i=1+(m:Int):=⟨(i - 1).toNat,by omega⟩
   have hm:m<p.notes.length:=by omega
   rw [bodyG_n p _ m hm]
   obtain ⟨b,hb,hg⟩:=segR_ev sNOT (.inr (.inl rfl)) [p.notes[m]] (by simp) (fun t ht=>by simp at ht;rw [ht];exact hp.2.2.2.2.1 _ (List.getElem_mem hm))
   exact ⟨b,hb,fun fb=>hg (fun t ht=>by simp at ht;rw [ht];exact ⟨(fb.note _ (List.getElem_mem hm)).2,(fb.note _ (List.getElem_mem hm)).1⟩)⟩
  ·obtain ⟨m,rfl⟩:∃ m:Nat,i=1+(p.notes.length:Int)+(m:Int):=⟨(i - 1 - (p.notes.length:Int)).toNat,by omega⟩
   have hm:m<p.lines.length:=by omega
   rw [bodyG_l p _ m hm]
   obtain ⟨b,hb,hg⟩:=segR_ev (tagS p.kind) tg (lnS p.kind p.lines[m]) (by have:=lnS_len p.kind p.lines[m];omega) (lnS_size (small_at hp m hm))
   exact ⟨b,hb,fun fb=>hg (lf_gd (fb.line _ (List.getElem_mem hm)))⟩
def allS (p:PP):Prop:=okP p∧∀ i:Int,0≤i→i<(p.lines.length:Int)→¬ badS p.kind (p.lines.map (projL p.kind)) i
theorem specJ_ev (p:PP) (hp:ppOk p) (hn:p.notes.length≤40) (hl:p.lines.length≤20) (t:Int × Int × Int) (ht:Evt (fun k=>spec_TableCheck.f k p.kind (bodyS p)) t) :
  (t.2.2≠0→Evt (fun k=>spec_PaperRight.j0 k false p.kind p.ref p.oth p.day p.notes p.lines) false) ∧
  (t.2.2=0→kOk p.kind→FB p (lnS p.kind)→Evt (fun k=>spec_PaperRight.j0 k false p.kind p.ref p.oth p.day p.notes p.lines) (B (allS p))):=by
 have hb:=bodyS_ev p hp hn hl
 have hlen:(bodyS p).length=1+p.notes.length+p.lines.length:=bodyG_len p (lnS p.kind)
 have L:∀ q:Prop,Evt (fun k=>spec_PaperRight.l0 (k+1) (bodyS p) ((bodyS p).length:Int) p.kind p.ref p.oth p.day p.notes p.lines) (B q) →
   Evt (fun k=>spec_PaperRight.j0 k false p.kind p.ref p.oth p.day p.notes p.lines) (B ((∀ i:Int,0≤i→i<((bodyS p).length:Int)→Evt (fun k=>spec_SegmentRight.f k (rd_T46 (bodyS p) i).f0 (rd_T46 (bodyS p) i).f1) true)∧q)):=by
  intro q hq
  apply Evt.succ
  simp only [spec_PaperRight.j0]
  refine Evt.neg (by simp) (Evt.bind hb ?_)
  refine right_loop ((bodyS p).length:Int) (by omega) (fun i=>Evt (fun k=>spec_SegmentRight.f k (rd_T46 (bodyS p) i).f0 (rd_T46 (bodyS p) i).f1) true) q (fun k i=>spec_PaperRight.l0 k (bodyS p) i p.kind p.ref p.oth p.day p.notes p.lines) ?_ hq
  intro i h0 hlt
  have hw:wrap64 (i+1)=i+1:=w64 (by omega) (by omega)
  obtain ⟨b,hb,_⟩:=segs_ev p hp i h0 hlt
  simp only [spec_PaperRight.l0,hw]
  refine ⟨fun hk r hr=>Evt.pos hlt (Evt.pos h0 (Evt.bind hk (Evt.pos rfl hr))),fun hk=>?_⟩
  have hf:b=false:=by
   cases b
   ·rfl
   ·exact absurd hb hk
  rw [hf] at hb
  exact Evt.pos hlt (Evt.pos h0 (Evt.bind hb (Evt.neg (by simp) (Evt.pure _))))
 refine ⟨fun h=>?_,fun h hk fb=>?_⟩
 ·refine (L False ?_).same (B_false (fun x=>x.2))
  simp only [spec_PaperRight.l0]
  rw [B_false (fun x=>x)]
  have e:Evt (fun k=>spec_PaperOf.f k p.kind (bodyS p)) ((0,nul,nul,0,([]:List ByteArray),([]:List LN),t.1,t.2.2):RT):=by
   unfold spec_PaperOf.f
   exact Evt.bind ht (Evt.neg h (Evt.pure _))
  exact Evt.neg (by omega) (Evt.bind e (Evt.neg h (Evt.pure _)))
 ·refine (L (allS p) ?_).same (B_congr ⟨fun x=>x.2,fun x=>⟨fun i h0 hlt=>?_,x⟩⟩)
  ·simp only [spec_PaperRight.l0]
   refine Evt.neg (by omega) ?_
   obtain ⟨r,hr,hc⟩:=paperS_ev p hk hp fb t ht h
   refine Evt.bind hr ?_
   rcases hc with ⟨h1,rfl⟩ | ⟨⟨i,a,b,c⟩,h2⟩
   ·exact Evt.pos rfl (Evt.bind (sameS_ev p (by omega) (by omega)) ((Evt.pure _).same (B_congr ⟨fun x=>⟨x,h1⟩,fun x=>x.1⟩)))
   ·exact Evt.neg h2 ((Evt.pure _).same (B_false (fun x=>x.2 i a b c)).symm)
  ·obtain ⟨b,hb,hg⟩:=segs_ev p hp i h0 hlt
   rw [hg fb] at hb
   exact hb
theorem all_iff (p:PP):allOk p ↔ allS p:=by
 unfold allOk allS
 refine and_congr_right fun h=>?_
 have e:p.lines.map (projL p.kind)=p.lines:=by
  rw [List.map_congr_left h.2,List.map_id']
 rw [e]
 exact (bad_iff p.kind p.lines).symm
theorem specF (p:PP) (h:∀ b,p.notes.length≤40→p.lines.length≤20→Evt (fun k=>spec_PaperRight.j0 k false p.kind p.ref p.oth p.day p.notes p.lines) b→b=false) (g:p.notes.length≤40→p.lines.length≤20→∃ b,Evt (fun k=>spec_PaperRight.j0 k false p.kind p.ref p.oth p.day p.notes p.lines) b):Evt (fun k=>spec_PaperRight.f k p.kind p.ref p.oth p.day p.notes p.lines) false:=by
 have T:Evt (fun k=>spec_PaperRight.j0 k true p.kind p.ref p.oth p.day p.notes p.lines) false:=by
  apply Evt.succ
  simp only [spec_PaperRight.j0]
  exact Evt.pos trivial (Evt.pure _)
 unfold spec_PaperRight.f
 refine Evt.ite (fun _=>T) (fun h1=>?_)
 by_cases c:(p.lines.length:Int)>20
 ·rw [decide_eq_true c];exact T
 ·rw [decide_eq_false c]
  obtain ⟨b,hb⟩:=g (by omega) (by omega)
  have:=h b (by omega) (by omega) hb
  rwa [this] at hb
theorem right_body (p : PP) (hp : ppOk p) : ∃ b, Evt (fun k => impl_PaperRight.f k p.kind p.ref p.oth p.day p.notes p.lines) b ∧ Evt (fun k => spec_PaperRight.f k p.kind p.ref p.oth p.day p.notes p.lines) b ∧ (b = true → kOk p.kind ∧ p.notes.length ≤ 2 ∧ p.lines.length ≤ 20 ∧ bodyI p = bodyS p) := by
  have TI : Evt (fun k => impl_PaperRight.j0 k true p.kind p.ref p.oth p.day p.notes p.lines) false := by
    apply Evt.succ
    simp only [impl_PaperRight.j0]
    exact Evt.pos trivial (Evt.pure _)
  have fewS : p.notes.length ≤ 40 → p.lines.length ≤ 20 → fewB (bodyS p) := fun hn hl => few_G p hp hn hl (lnS p.kind) (fun l h => ⟨lnS_len _ l, lnS_size h⟩)
  have fewI' : p.notes.length ≤ 40 → p.lines.length ≤ 20 → fewB (bodyI p) := fun hn hl => few_G p hp hn hl (lnI p.kind) (fun l h => ⟨lnI_len _ l, lnI_size h⟩)
  -- the reference says no where no table of its body can fit
  have SN : (p.notes.length ≤ 40 → p.lines.length ≤ 20 → ¬ (tab p.kind ≠ [] ∧ Fits (bodyS p) (tab p.kind) 0)) → Evt (fun k => spec_PaperRight.f k p.kind p.ref p.oth p.day p.notes p.lines) false := fun h => by
    have key : p.notes.length ≤ 40 → p.lines.length ≤ 20 → Evt (fun k => spec_PaperRight.j0 k false p.kind p.ref p.oth p.day p.notes p.lines) false := fun hn hl => by
      obtain ⟨r, hs, _, hf⟩ := table_both p.kind (bodyS p) (fewS hn hl)
      exact (specJ_ev p hp hn hl r hs).1 (fun e => h hn hl ⟨(hf e).1, (hf e).2.2⟩)
    exact specF p (fun b hn hl hb => evt_uniq hb (key hn hl)) (fun hn hl => ⟨false, key hn hl⟩)
  unfold impl_PaperRight.f
  simp only [within_ev, Option.bind_some]
  by_cases hk : 1 ≤ p.kind ∧ p.kind ≤ 7
  rotate_left
  · refine ⟨false, ?_, SN (fun hn hl x => x.1 ?_), fun e => nomatch e⟩
    · rw [B_false hk]
      exact Evt.neg (by simp) TI
    · rcases kinds p.kind with h | ⟨_, h⟩
      · omega
      · exact h
  rw [B_true hk]
  by_cases hn2 : (p.notes.length : Int) > 2
  · refine ⟨false, Evt.pos rfl (Evt.pos hn2 TI), SN (fun hn hl x => ?_), fun e => nomatch e⟩
    have := (fits_G p hk (lnS p.kind) (fewS hn hl) x.2).notes
    omega
  by_cases hl20 : (p.lines.length : Int) > 20
  · refine ⟨false, Evt.pos rfl (Evt.neg hn2 (by rw [decide_eq_true hl20]; exact TI)), SN (fun hn hl x => by omega), fun e => nomatch e⟩
  rw [decide_eq_false hl20]
  have I : ∀ b, Evt (fun k => impl_PaperRight.j0 k false p.kind p.ref p.oth p.day p.notes p.lines) b → Evt (fun k => if true = true then (if (p.notes.length : Int) > 2 then (impl_PaperRight.j0 k true p.kind p.ref p.oth p.day p.notes p.lines) else (impl_PaperRight.j0 k false p.kind p.ref p.oth p.day p.notes p.lines)) else (impl_PaperRight.j0 k true p.kind p.ref p.oth p.day p.notes p.lines)) b := fun b h => Evt.pos rfl (Evt.neg hn2 h)
  have S : ∀ b, Evt (fun k => spec_PaperRight.j0 k false p.kind p.ref p.oth p.day p.notes p.lines) b → Evt (fun k => spec_PaperRight.f k p.kind p.ref p.oth p.day p.notes p.lines) b := fun b h => by
    unfold spec_PaperRight.f
    rw [decide_eq_false hl20]
    exact Evt.neg (by omega) h
  have hn : p.notes.length ≤ 40 := by omega
  have hl : p.lines.length ≤ 20 := by omega
  by_cases he : ∀ l ∈ p.lines, lnI p.kind l = lnS p.kind l
  · have eb : bodyI p = bodyS p := by
      unfold bodyI bodyS
      have : p.lines.map (fun l => sg (tagS p.kind) (lnI p.kind l)) = p.lines.map (fun l => sg (tagS p.kind) (lnS p.kind l)) := List.map_congr_left (fun l h => by rw [he l h])
      rw [this]
    obtain ⟨r, hs, hi, hf⟩ := table_both p.kind (bodyS p) (fewS hn hl)
    rw [← eb] at hi
    have HI := implJ_ev p hk hp (by omega) hl r hi
    have HS := specJ_ev p hp hn hl r hs
    by_cases c : r.2.2 = 0
    · obtain ⟨_, _, hfit⟩ := hf c
      have fS := fits_G p hk (lnS p.kind) (fewS hn hl) hfit
      have fI : FB p (lnI p.kind) := ⟨fS.notes, fS.lines, fS.doc, fS.note, fun l h => by rw [he l h]; exact fS.line l h⟩
      refine ⟨B (allOk p), I _ (HI.2 c fI), S _ ?_, fun _ => ⟨hk, by omega, hl, eb⟩⟩
      rw [B_congr (all_iff p)]
      exact HS.2 c hk fS
    · exact ⟨false, I _ (HI.1 c), S _ (HS.1 c), fun e => nomatch e⟩
  · have h3 : p.kind = 3 := by
      rcases Int.decEq p.kind 3 with g | g
      · exact absurd (fun l _ => by unfold lnI; rw [if_neg g]) he
      · exact g
    have hex : ∃ l ∈ p.lines, ¬ l.f4.toList = ([] : List UInt8) := by
      rcases Classical.em (∃ l ∈ p.lines, ¬ l.f4.toList = ([] : List UInt8)) with g | g
      · exact g
      · refine absurd (fun l hm => ?_) he
        have : l.f4.toList = ([] : List UInt8) := Classical.byContradiction fun x => g ⟨l, hm, x⟩
        unfold lnI lnS opN
        rw [h3, this]
        simp
    obtain ⟨l, hm, hne⟩ := hex
    have sN := SN (fun hn hl x => by
      have fS := fits_G p hk (lnS p.kind) (fewS hn hl) x.2
      have := (fS.line l hm).2.1
      unfold lnS opN letA letB at this
      rw [h3] at this
      simp [hne] at this)
    refine ⟨false, ?_, sN, fun e => nomatch e⟩
    obtain ⟨r, _, hi, hf⟩ := table_both p.kind (bodyI p) (fewI' hn hl)
    have HI := implJ_ev p hk hp (by omega) hl r hi
    by_cases c : r.2.2 = 0
    · obtain ⟨_, _, hfit⟩ := hf c
      have fI := fits_G p hk (lnI p.kind) (fewI' hn hl) hfit
      refine I _ ((HI.2 c fI).same (B_false (fun x => hne ?_)))
      have := x.1.2 l hm
      rw [← this, h3]
      exact bytes_nil.2 rfl
    · exact I _ (HI.1 c)
end Go.Proofs.YtaememmnhmebcaaGreatDoor.QB
namespace Go.Proofs.YtaememmnhmebcaaGreatDoor.QB
open Go.RowKit Go.Proofs.YtaememmnhmebcaaGreatDoorW.PrintWords Go.Proofs.YtaememmnhmebcaaGreatDoor.Ev0 Go.Proofs.YtaememmnhmebcaaGreatDoor.Num
theorem int_of {x:Int} (h:(Rd.WfInt .i64) x):i64 x:=by
 have h':(Lit.int .i64 x).wf=true:=h
 simp only [Lit.wf,Bool.and_eq_true,decide_eq_true_eq] at h'
 exact ⟨h'.1,h'.2⟩
def okLn (x:S54):Prop:=i64 x.f0∧(x.f1.size:Int)≤9223372036854775807∧i64 x.f2∧i64 x.f3∧(x.f4.size:Int)≤9223372036854775807
theorem okLn_of {x:S54} (h:wf54 x):okLn x:=by
 obtain ⟨h0,h1,h2,h3,h4⟩:=h
 have g1:x.f1.size≤2 ^ 63 - 1:=h1
 have g4:x.f4.size≤2 ^ 63 - 1:=h4
 exact ⟨int_of h0,by omega,int_of h2,int_of h3,by omega⟩
def smLn (x:S54):Prop:=x.f1.size≤1048576∧x.f4.size≤1048576
theorem szLn_ev (x:S54) (hx:okLn x) (left:Int) (h0:0≤left) (h1:left≤1048576):SzR (fun _=>laws_szLine.f x.f0 x.f1 x.f2 x.f3 x.f4 left) left (smLn x):=by
 obtain ⟨_,ha,_,_,hb⟩:=hx
 unfold laws_szLine.f
 rw [wsub h0 h1 (by omega) ha]
 by_cases g:left - (x.f1.size:Int)<0
 ·exact ⟨-1,Evt.pos g (Evt.pure _),.inl (by decide)⟩
 ·rw [wsub (by omega) (by omega) (by omega) hb]
  by_cases g2:left - (x.f1.size:Int) - (x.f4.size:Int)<0
  ·exact ⟨-1,Evt.neg g (Evt.pos g2 (Evt.pure _)),.inl (by decide)⟩
  ·exact ⟨_,Evt.neg g (Evt.neg g2 (Evt.pure _)),.inr ⟨by omega,by omega,by unfold smLn;omega⟩⟩
theorem szLnS_ev (l:List S54) (hl:l.length≤9223372036854775807) (hx:∀ x ∈ l,okLn x) (left:Int) (h0:0≤left) (h1:left≤1048576):SzR (fun k=>laws_szLineS.f k l left) left (l.length≤1048576∧∀ x ∈ l,smLn x):=by
 have key:=sz_loop l.length hl (fun i=>smLn (rd_T54 l i)) (fun k=>laws_szLineS.f k l left) (fun k s i=>laws_szLineS.l0 k l s i) left h0 h1 (fun k=>rfl) ?_ ?_
 ·obtain ⟨t,ht,h⟩:=key
  exact ⟨t,ht,h.imp id (fun ⟨g0,g1,g2,g3⟩=>⟨g0,g1,g2,all_at l z54 smLn g3⟩)⟩
 ·intro s i h0 hlt hs0 hs1
  have hw:wrap64 (i+1)=i+1:=w64 (by omega) (by omega)
  have hk:okLn (rd_T54 l i):=by
   unfold rd_T54
   rw [getD_at l _ _ (by omega)]
   exact hx _ (List.getElem_mem _)
  obtain ⟨t,ht,h2⟩:=szLn_ev _ hk s hs0 hs1
  simp only [laws_szLineS.l0,hw]
  rcases h2 with h2 | ⟨h2,h3,h4⟩
  ·exact .inl ⟨-1,by decide,Evt.pos hlt (Evt.pos h0 (Evt.bind ht (Evt.pos h2 (Evt.pure _))))⟩
  ·exact .inr ⟨t,h2,h3,h4,fun r hr=>Evt.pos hlt (Evt.pos h0 (Evt.bind ht (Evt.neg (by omega) hr)))⟩
 ·intro s i hi
  simp only [laws_szLineS.l0]
  exact Evt.neg (by omega) (Evt.pure _)
theorem szPap_ev (kind:Int) (ref oth:ByteArray) (day:Int) (notes:List ByteArray) (lines:List S54) (hr:(ref.size:Int)≤9223372036854775807) (ho:(oth.size:Int)≤9223372036854775807) (hn:okT notes) (hl:lines.length≤9223372036854775807) (hx:∀ x ∈ lines,okLn x) (left:Int) (h0:0≤left) (h1:left≤1048576) :
  SzR (fun k=>laws_szPaper.f k kind ref oth day notes lines left) left (ref.size≤1048576∧oth.size≤1048576∧fewT notes∧lines.length≤1048576∧∀ x ∈ lines,smLn x):=by
 unfold laws_szPaper.f
 rw [wsub h0 h1 (by omega) hr]
 by_cases g:left - (ref.size:Int)<0
 ·exact ⟨-1,Evt.pos g (Evt.pure _),.inl (by decide)⟩
 rw [wsub (by omega) (by omega) (by omega) ho]
 by_cases g2:left - (ref.size:Int) - (oth.size:Int)<0
 ·exact ⟨-1,Evt.neg g (Evt.pos g2 (Evt.pure _)),.inl (by decide)⟩
 obtain ⟨t,ht,h2⟩:=szT_ev notes hn (left - (ref.size:Int) - (oth.size:Int)) (by omega) (by omega)
 rcases h2 with h2 | ⟨h2,h3,h4⟩
 ·exact ⟨-1,Evt.neg g (Evt.neg g2 (Evt.bind ht (Evt.pos h2 (Evt.pure _)))),.inl (by decide)⟩
 obtain ⟨u,hu,h5⟩:=szLnS_ev lines hl hx t h2 (by omega)
 rcases h5 with h5 | ⟨h5,h6,h7,h8⟩
 ·exact ⟨-1,Evt.neg g (Evt.neg g2 (Evt.bind ht (Evt.neg (by omega) (Evt.bind hu (Evt.pos h5 (Evt.pure _)))))),.inl (by decide)⟩
 ·exact ⟨u,Evt.neg g (Evt.neg g2 (Evt.bind ht (Evt.neg (by omega) (Evt.bind hu (Evt.neg (by omega) (Evt.pure _)))))),.inr ⟨h5,by omega,by omega,by omega,h4,h7,h8⟩⟩
def cvLn (x:S54):S63:=⟨x.f0,x.f1,x.f2,x.f3,x.f4⟩
theorem toLnS_ev (l:List S54) (hl:l.length≤1048576):Evt (fun k=>laws_toLineS.f k l) (l.map cvLn):=by
 unfold laws_toLineS.f
 refine Evt.pos (by omega) (Evt.pos (by omega) ?_)
 rw [Int.toNat_natCast]
 refine fill_loop l z54 z63 cvLn (fun k acc i=>laws_toLineS.l0 k l acc i) ?_ ?_
 ·intro acc i h0 hlt ha r hr
  have hw:wrap64 (i+1)=i+1:=w64 (by omega) (by omega)
  simp only [laws_toLineS.l0,laws_toLine.f,Option.bind_some,hw]
  exact Evt.pos hlt (Evt.pos h0 (Evt.pos (by omega) hr))
 ·intro acc i hi
  simp only [laws_toLineS.l0]
  exact Evt.neg (by omega) (Evt.pure _)
theorem toPap_ev (kind:Int) (ref oth:ByteArray) (day:Int) (notes:List ByteArray) (lines:List S54) (hn:notes.length≤1048576) (hl:lines.length≤1048576):Evt (fun k=>laws_toPaper.f k kind ref oth day notes lines) (kind,ref,oth,day,notes,lines.map cvLn):=by
 unfold laws_toPaper.f
 exact Evt.bind (toT_ev notes hn) (Evt.bind (toLnS_ev lines hl) (Evt.pure _))
theorem eqLn_refl (a:Int) (b:ByteArray) (c d:Int) (e:ByteArray):laws_eqLine.f a b c d e a b c d e=some true:=by
 simp only [laws_eqLine.f,if_true]
theorem eqLnS_refl (l:List S63) (hl:l.length≤9000000):Evt (fun k=>laws_eqLineS.f k l l) true:=by
 unfold laws_eqLineS.f
 refine Evt.pos rfl (all_loop (l.length:Int) (by omega) (fun k i=>laws_eqLineS.l0 k l l i) ?_ ?_)
 ·intro i h0 hlt ih
  have hw:wrap64 (i+1)=i+1:=w64 (by omega) (by omega)
  simp only [laws_eqLineS.l0,eqLn_refl,Option.bind_some,hw]
  exact Evt.pos hlt (Evt.pos h0 (Evt.pos hlt (Evt.pos (by simp) ih)))
 ·simp only [laws_eqLineS.l0]
  exact Evt.neg (by omega) (Evt.pure _)
theorem eqPap_refl (kind:Int) (ref oth:ByteArray) (day:Int) (notes:List ByteArray) (lines:List S63) (hn:notes.length≤9000000) (hl:lines.length≤9000000):Evt (fun k=>laws_eqPaper.f k kind ref oth day notes lines kind ref oth day notes lines) true:=by
 unfold laws_eqPaper.f
 exact Evt.pos rfl (Evt.pos rfl (Evt.pos rfl (Evt.pos rfl (Evt.bind (eqS_refl notes hn) (Evt.pos rfl (Evt.bind (eqLnS_refl lines hl) (Evt.pos rfl (Evt.pure _))))))))
theorem pap_of (kind:Int) (ref oth:ByteArray) (day:Int) (notes:List ByteArray) (lines:List S54) (w0:(Rd.WfInt .i64) kind) (w1:Rd.WfStr ref) (w2:Rd.WfStr oth) (w3:(Rd.WfInt .i64) day) (w4:(Rd.WfRow Rd.WfStr) notes) (w5:(Rd.WfRow wf54) lines) :
  ∃ t,Evt (fun k=>laws_szPaper.f k kind ref oth day notes lines 1048576) t∧(t<0∨(0≤t∧notes.length≤1048576∧lines.length≤1048576∧ppOk ⟨kind,ref,oth,day,notes,lines.map cvLn⟩)):=by
 have a1:ref.size≤2 ^ 63 - 1:=w1
 have a2:oth.size≤2 ^ 63 - 1:=w2
 have a4:notes.length≤2 ^ 63 - 1:=w4.1
 have a5:lines.length≤2 ^ 63 - 1:=w5.1
 have hx:∀ x ∈ lines,okLn x:=fun x h=>okLn_of (w5.2 x h)
 have hn:okT notes:=⟨by omega,fun x h=>by have g:x.size≤2 ^ 63 - 1:=w4.2 x h;omega⟩
 obtain ⟨t,ht,h⟩:=szPap_ev kind ref oth day notes lines (by omega) (by omega) hn (by omega) hx 1048576 (by decide) (by decide)
 refine ⟨t,ht,h.imp id (fun ⟨g0,_,g1,g2,g3,g4,g5⟩=>⟨g0,g3.1,g4,int_of w0,int_of w3,g1,g2,g3.2,fun l hl=>?_⟩)⟩
 obtain ⟨y,hy,rfl⟩:=List.mem_map.1 hl
 have k:=hx y hy
 exact ⟨⟨k.1,k.2.2.1,k.2.2.2.1⟩,(g5 y hy).1,(g5 y hy).2⟩
end Go.Proofs.YtaememmnhmebcaaGreatDoor.QB
namespace Go.Proofs.YtaememmnhmebcaaGreatDoor.QB
open Go.RowKit Go.Proofs.YtaememmnhmebcaaGreatDoorW.PrintWords Go.Proofs.YtaememmnhmebcaaGreatDoor.Ev0
theorem one_size (v:Int):(strOfNums [v]).size=1:=rfl
theorem markText_l (d:Nat):∀ (a:Int) (x:ByteArray),0≤a→a<10 ^ d→a≤9223372036854775807→(x.size:Int)+d≤1000000000000000000→∃ r,Evt (fun k=>laws_markText.l0 k a x) r:=by
 induction d with
 | zero =>
  intro a x h0 h1 ha hx
  obtain rfl:a=0:=by have:(10:Int) ^ 0=1:=rfl;omega
  refine ⟨(⟨#[109]⟩:ByteArray)++x,Evt.succ ?_⟩
  simp only [laws_markText.l0]
  exact Evt.neg (by omega) (Evt.pos (by omega) (Evt.pure _))
 | succ d ih =>
  intro a x h0 h1 ha hx
  by_cases h:a>0
  ·have e:a.tdiv 10=a / 10:=Int.tdiv_eq_ediv_of_nonneg h0
   have hp:(10:Int) ^ (d+1)=10 ^ d * 10:=Int.pow_succ ..
   have hw:wrap64 (a.tdiv 10)=a / 10:=by rw [e];exact w64 (by omega) (by omega)
   obtain ⟨r,hr⟩:=ih (a / 10) (strOfNums [(wrap64 (48+(Int.tmod a 10))) % 256]++x) (by omega) (by omega) (by omega) (by rw [ByteArray.size_append,one_size];omega)
   refine ⟨r,Evt.succ ?_⟩
   simp only [laws_markText.l0,Option.bind_some,hw,one_size]
   exact Evt.pos h (Evt.pos (by omega) hr)
  ·obtain rfl:a=0:=by omega
   refine ⟨(⟨#[109]⟩:ByteArray)++x,Evt.succ ?_⟩
   simp only [laws_markText.l0]
   exact Evt.neg (by omega) (Evt.pos (by omega) (Evt.pure _))
theorem markText_ex (a:Int) (ha:a≤9223372036854775807):∃ r,Evt (fun k=>laws_markText.f k a) r:=by
 unfold laws_markText.f
 by_cases h:a≤0
 ·exact ⟨_,Evt.pos h (Evt.pure _)⟩
 ·obtain ⟨r,hr⟩:=markText_l 19 a ⟨#[]⟩ (by omega) (by omega) ha (by decide)
  exact ⟨r,Evt.neg h hr⟩
noncomputable def mt (a:Int):ByteArray:=@dite _ (∃ r,Evt (fun k=>laws_markText.f k a) r) (Classical.propDecidable _) (fun h=>Classical.choose h) (fun _=>⟨#[]⟩)
theorem mt_ev (a:Int) (ha:a≤9223372036854775807):Evt (fun k=>laws_markText.f k a) (mt a):=by
 unfold mt
 rw [dif_pos (markText_ex a ha)]
 exact Classical.choose_spec (markText_ex a ha)
theorem lin (c m i:Int):c+m * i+m=c+m * (i+1):=by rw [Int.mul_add,Int.mul_one,Int.add_assoc]
theorem mark_loop {α:Type} (n:Nat) (l:List α) (hl:l.length=n) (m c:Int) (g:Int→α) (F:Nat→List α→Int→Int→Option (Int × List α))
  (step:∀ acc i,0≤i→i<(n:Int)→acc.length=n→∀ r,Evt (fun k=>F k (acc.set i.toNat (g (c+m * i))) (c+m * i+m) (i+1)) r→Evt (fun k=>F (k+1) acc (c+m * i) i) r)
  (stop:∀ acc s,acc.length=n→Evt (fun k=>F (k+1) acc s (n:Int)) (s,acc)) :
  Evt (fun k=>F k l c 0) (c+m * n,(List.range n).map fun (j:Nat)=>g (c+m * (j:Int))):=by
 have h:=up_loop (n:Int) (fun k (s:List α × Int) i=>F k s.1 s.2 i) (fun i=>((List.range i.toNat).map (fun (j:Nat)=>g (c+m * (j:Int)))++l.drop i.toNat,c+m * i)) (fun _=>(c+m * (n:Int),(List.range n).map fun (j:Nat)=>g (c+m * (j:Int)))) ?_ ?_ 0 (Int.le_refl _) (by omega)
 ·simpa using h
 ·intro i h0 hlt ih
  have hi:i.toNat<l.length:=by omega
  refine step _ i h0 hlt (by simp;omega) _ ?_
  have e:((List.range i.toNat).map (fun (j:Nat)=>g (c+m * (j:Int)))++l.drop i.toNat).set i.toNat (g (c+m * i))=(List.range (i+1).toNat).map (fun (j:Nat)=>g (c+m * (j:Int)))++l.drop (i+1).toNat:=by
   rw [List.set_append_right _ _ (by simp),List.length_map,List.length_range,Nat.sub_self,List.drop_eq_getElem_cons hi,List.set_cons_zero,show (i+1).toNat=i.toNat+1 by omega]
   rw [List.range_succ,List.map_append,List.append_assoc]
   congr 1
   rw [List.map_singleton,List.singleton_append,show ((i.toNat:Nat):Int)=i by omega]
  rw [e,lin]
  exact ih
 ·refine (stop _ _ (by simp;omega)).same ?_
  have:l.drop n=[]:=by rw [← hl];exact List.drop_length
  simp [this]
theorem at_map {α:Type} (n:Nat) (g:Nat→α) (z:α) (i:Int) (h0:0≤i) (h:i<(n:Int)):((List.range n).map g).getD i.toNat z=g i.toNat:=by
 rw [getD_at _ _ _ (by simp;omega)]
 simp
theorem held_loop (n:Nat) (m c:Int) (F:Nat→Int→Int→Option Int)
  (step:∀ i,0≤i→i<(n:Int)→∀ r,Evt (fun k=>F k (c+m * i+m) (i+1)) r→Evt (fun k=>F (k+1) (c+m * i) i) r)
  (stop:∀ s,Evt (fun k=>F (k+1) s (n:Int)) s):Evt (fun k=>F k c 0) (c+m * n):=by
 have h:=up_loop (n:Int) (fun k (s:Int) i=>F k s i) (fun i=>c+m * i) (fun _=>c+m * (n:Int)) ?_ ?_ 0 (Int.le_refl _) (by omega)
 ·simpa using h
 ·intro i h0 hlt ih
  refine step i h0 hlt _ ?_
  rw [lin]
  exact ih
 ·exact stop _
theorem vmark_loop {α:Type} (n:Nat) (l:List α) (hl:l.length=n) (c:Nat→Int) (g:Nat→α) (F:Nat→List α→Int→Int→Option (Int × List α))
  (step:∀ acc (j:Nat),j<n→acc.length=n→acc[j]? = l[j]? → ∀ r,Evt (fun k=>F k (acc.set j (g j)) (c (j+1)) ((j:Int)+1)) r→Evt (fun k=>F (k+1) acc (c j) (j:Int)) r)
  (stop:∀ acc s,acc.length=n→Evt (fun k=>F (k+1) acc s (n:Int)) (s,acc)):Evt (fun k=>F k l (c 0) 0) (c n,(List.range n).map g):=by
 have h:=up_loop (n:Int) (fun k (s:List α × Int) i=>F k s.1 s.2 i) (fun i=>((List.range i.toNat).map g++l.drop i.toNat,c i.toNat)) (fun _=>(c n,(List.range n).map g)) ?_ ?_ 0 (Int.le_refl _) (by omega)
 ·simpa using h
 ·intro i h0 hlt ih
  obtain ⟨j,rfl⟩:=Int.eq_ofNat_of_zero_le h0
  have hj:j<l.length:=by omega
  have e:(((List.range j).map g++l.drop j)).set j (g j)=(List.range (j+1)).map g++l.drop (j+1):=by
   rw [List.set_append_right _ _ (by simp),List.length_map,List.length_range,Nat.sub_self,List.drop_eq_getElem_cons hj,List.set_cons_zero,List.range_succ,List.map_append,List.append_assoc]
   rfl
  have ih':Evt (fun k=>F k ((List.range (j+1)).map g++l.drop (j+1)) (c (j+1)) ((j:Int)+1)) (c n,(List.range n).map g):=ih
  rw [← e] at ih'
  refine step ((List.range j).map g++l.drop j) j (by omega) (by simp;omega) ?_ _ ih'
  rw [List.getElem?_append_right (by simp),List.length_map,List.length_range,Nat.sub_self,List.getElem?_drop,Nat.add_zero]
 ·refine (stop _ _ (by simp;omega)).same ?_
  have:l.drop n=[]:=by rw [← hl];exact List.drop_length
  simp [this]
theorem vheld_loop (n:Nat) (c:Nat→Int) (F:Nat→Int→Int→Option Int)
  (step:∀ j:Nat,j<n→∀ r,Evt (fun k=>F k (c (j+1)) ((j:Int)+1)) r→Evt (fun k=>F (k+1) (c j) (j:Int)) r)
  (stop:∀ s,Evt (fun k=>F (k+1) s (n:Int)) s):Evt (fun k=>F k (c 0) 0) (c n):=by
 have h:=up_loop (n:Int) (fun k (s:Int) i=>F k s i) (fun i=>c i.toNat) (fun _=>c n) ?_ ?_ 0 (Int.le_refl _) (by omega)
 ·exact h
 ·intro i h0 hlt ih
  obtain ⟨j,rfl⟩:=Int.eq_ofNat_of_zero_le h0
  exact step j (by omega) _ ih
 ·exact stop _
theorem getD_opt {α:Type} {l l':List α} {j:Nat} (z:α) (h:l[j]? = l'[j]?):l.getD j z=l'.getD j z:=by
 rw [List.getD_eq_getElem?_getD,List.getD_eq_getElem?_getD,h]
noncomputable def marksT (n:Nat) (c:Int):List ByteArray:=(List.range n).map fun (j:Nat)=>mt (c+1 * (j:Int))
theorem marksT_len (n:Nat) (c:Int):(marksT n c).length=n:=by simp [marksT]
theorem markT_ev (l:List ByteArray) (c:Int) (h0:0≤c) (hc:c+1 * (l.length:Int)≤1000000000000000000):Evt (fun k=>laws_markStringS.f k l c) (c+1 * l.length,marksT l.length c):=by
 unfold laws_markStringS.f
 refine mark_loop l.length l rfl 1 c mt (fun k acc s i=>laws_markStringS.l0 k acc s i) ?_ ?_
 ·intro acc i h1 hlt hl r hr
  have hw:wrap64 (i+1)=i+1:=w64 (by omega) (by omega)
  have w1:wrap64 (c+1 * i+1)=c+1 * i+1:=by rw [w64 (by omega) (by omega)]
  simp only [laws_markStringS.l0,hw,w1]
  exact Evt.pos (by omega) (Evt.bind (mt_ev _ (by omega)) (Evt.pos h1 hr))
 ·intro acc s hl
  simp only [laws_markStringS.l0]
  exact Evt.neg (by omega) (Evt.pure _)
theorem heldT_ev (n:Nat) (c:Int) (h0:0≤c) (hc:c+1 * (n:Int)≤1000000000000000000):Evt (fun k=>laws_heldStringS.f k (marksT n c) c) (c+1 * n):=by
 unfold laws_heldStringS.f
 have hlen:=marksT_len n c
 refine held_loop n 1 c (fun k s i=>laws_heldStringS.l0 k (marksT n c) s i) ?_ ?_
 ·intro i h1 hlt r hr
  have hw:wrap64 (i+1)=i+1:=w64 (by omega) (by omega)
  have w1:wrap64 (c+1 * i+1)=c+1 * i+1:=by rw [w64 (by omega) (by omega)]
  have e:rdOf ByteArray.empty (marksT n c) i=mt (c+1 * i):=by
   unfold rdOf marksT
   rw [at_map _ _ _ _ h1 hlt,show ((i.toNat:Nat):Int)=i by omega]
  simp only [laws_heldStringS.l0,hw,w1,e,hlen]
  exact Evt.pos hlt (Evt.pos h1 (Evt.bind (mt_ev _ (by omega)) (Evt.pos (by simp) hr)))
 ·intro s
  simp only [laws_heldStringS.l0,hlen]
  exact Evt.neg (by omega) (Evt.pure _)
abbrev ElE:=S77
abbrev SgE:=S46
def cE (l:List ElE) (c:Int):Nat→Int
 | 0=>c
 | n+1=>cE l c n+1 * ((rd_T77 l (n:Int)).f0.length:Int)
noncomputable def gE (l:List ElE) (c:Int) (j:Nat):ElE:=⟨marksT (rd_T77 l (j:Int)).f0.length (cE l c j)⟩
noncomputable def marksE (l:List ElE) (c:Int):List ElE:=(List.range l.length).map (gE l c)
def smE (l:List ElE):Prop:=l.length≤1000∧∀ j:Nat,j<l.length→(rd_T77 l (j:Int)).f0.length≤1000
theorem cE_le (l:List ElE) (c:Int) (h:smE l) (n:Nat) (hn:n≤l.length):c≤cE l c n∧cE l c n≤c+1000 * (n:Int):=by
 induction n with
 | zero=>simp [cE]
 | succ n ih =>
  have h1:=ih (by omega)
  have h2:=h.2 n (by omega)
  simp only [cE]
  omega
theorem rd_optE {l l':List ElE} {j:Nat} (h:l[j]? = l'[j]?):rd_T77 l (j:Int)=rd_T77 l' (j:Int):=getD_opt _ h
theorem rd_optS {l l':List SgE} {j:Nat} (h:l[j]? = l'[j]?):rd_T46 l (j:Int)=rd_T46 l' (j:Int):=getD_opt _ h
theorem markE_ev (l:List ElE) (c:Int) (h:smE l) (h0:0≤c) (hc:c≤100000000000000000):Evt (fun k=>laws_markElementS.f k l c) (cE l c l.length,marksE l c):=by
 unfold laws_markElementS.f
 refine vmark_loop l.length l rfl (cE l c) (gE l c) (fun k acc s i=>laws_markElementS.l0 k acc s i) ?_ ?_
 ·intro acc j hj hl he r hr
  have b:=cE_le l c h j (by omega)
  have h2:=h.2 j hj
  have h1:=h.1
  have hw:wrap64 ((j:Int)+1)=(j:Int)+1:=w64 (by omega) (by omega)
  simp only [laws_markElementS.l0,hw,rd_optE he,Int.toNat_natCast]
  exact Evt.pos (by omega) (Evt.pos (by omega) (Evt.bind (markT_ev _ (cE l c j) (by omega) (by omega)) hr))
 ·intro acc s hl
  simp only [laws_markElementS.l0]
  exact Evt.neg (by omega) (Evt.pure _)
def cG (l:List SgE) (c:Int):Nat→Int
 | 0=>c
 | n+1=>cE (rd_T46 l (n:Int)).f1 (cG l c n+1) (rd_T46 l (n:Int)).f1.length
noncomputable def gG (l:List SgE) (c:Int) (j:Nat):SgE:=⟨mt (cG l c j),marksE (rd_T46 l (j:Int)).f1 (cG l c j+1)⟩
noncomputable def marksG (l:List SgE) (c:Int):List SgE:=(List.range l.length).map (gG l c)
def smG (l:List SgE):Prop:=l.length≤1000∧∀ j:Nat,j<l.length→smE (rd_T46 l (j:Int)).f1
theorem cG_le (l:List SgE) (c:Int) (h:smG l) (n:Nat) (hn:n≤l.length):c≤cG l c n∧cG l c n≤c+1000001 * (n:Int):=by
 induction n with
 | zero=>simp [cG]
 | succ n ih =>
  have h1:=ih (by omega)
  have h2:=h.2 n (by omega)
  have h3:=cE_le (rd_T46 l (n:Int)).f1 (cG l c n+1) h2 _ (Nat.le_refl _)
  have h4:=h2.1
  simp only [cG]
  omega
theorem markG_ev (l:List SgE) (c:Int) (h:smG l) (h0:0≤c) (hc:c≤1000000):Evt (fun k=>laws_markSegmentS.f k l c) (cG l c l.length,marksG l c):=by
 unfold laws_markSegmentS.f
 refine vmark_loop l.length l rfl (cG l c) (gG l c) (fun k acc s i=>laws_markSegmentS.l0 k acc s i) ?_ ?_
 ·intro acc j hj hl he r hr
  have b:=cG_le l c h j (by omega)
  have h1:=h.1
  have hw:wrap64 ((j:Int)+1)=(j:Int)+1:=w64 (by omega) (by omega)
  have hw2:wrap64 (cG l c j+1)=cG l c j+1:=w64 (by omega) (by omega)
  simp only [laws_markSegmentS.l0,hw,hw2,rd_optS he,Int.toNat_natCast]
  exact Evt.pos (by omega) (Evt.bind (mt_ev _ (by omega)) (Evt.pos (by omega) (Evt.bind (markE_ev _ (cG l c j+1) (h.2 j hj) (by omega) (by omega)) hr)))
 ·intro acc s hl
  simp only [laws_markSegmentS.l0]
  exact Evt.neg (by omega) (Evt.pure _)
theorem marksE_at (l:List ElE) (c:Int) (j:Nat) (hj:j<l.length):rd_T77 (marksE l c) (j:Int)=gE l c j:=by
 unfold rd_T77 marksE
 rw [Int.toNat_natCast,getD_at _ _ _ (by simp;omega)]
 simp
theorem marksG_at (l:List SgE) (c:Int) (j:Nat) (hj:j<l.length):rd_T46 (marksG l c) (j:Int)=gG l c j:=by
 unfold rd_T46 marksG
 rw [Int.toNat_natCast,getD_at _ _ _ (by simp;omega)]
 simp
theorem heldE_ev (l:List ElE) (c:Int) (h:smE l) (h0:0≤c) (hc:c≤100000000000000000):Evt (fun k=>laws_heldElementS.f k (marksE l c) c) (cE l c l.length):=by
 unfold laws_heldElementS.f
 have hlen:(marksE l c).length=l.length:=by simp [marksE]
 refine vheld_loop l.length (cE l c) (fun k s i=>laws_heldElementS.l0 k (marksE l c) s i) ?_ ?_
 ·intro j hj r hr
  have b:=cE_le l c h j (by omega)
  have h2:=h.2 j hj
  have h1:=h.1
  have hw:wrap64 ((j:Int)+1)=(j:Int)+1:=w64 (by omega) (by omega)
  simp only [laws_heldElementS.l0,hw,marksE_at l c j hj,gE,hlen]
  exact Evt.pos (by omega) (Evt.pos (by omega) (Evt.bind (heldT_ev _ (cE l c j) (by omega) (by omega)) (Evt.neg (by omega) hr)))
 ·intro s
  simp only [laws_heldElementS.l0,hlen]
  exact Evt.neg (by omega) (Evt.pure _)
theorem heldG_ev (l:List SgE) (c:Int) (h:smG l) (h0:0≤c) (hc:c≤1000000):Evt (fun k=>laws_heldSegmentS.f k (marksG l c) c) (cG l c l.length):=by
 unfold laws_heldSegmentS.f
 have hlen:(marksG l c).length=l.length:=by simp [marksG]
 refine vheld_loop l.length (cG l c) (fun k s i=>laws_heldSegmentS.l0 k (marksG l c) s i) ?_ ?_
 ·intro j hj r hr
  have b:=cG_le l c h j (by omega)
  have h1:=h.1
  have h3:=cE_le (rd_T46 l (j:Int)).f1 (cG l c j+1) (h.2 j hj) _ (Nat.le_refl _)
  have hw:wrap64 ((j:Int)+1)=(j:Int)+1:=w64 (by omega) (by omega)
  have hw2:wrap64 (cG l c j+1)=cG l c j+1:=w64 (by omega) (by omega)
  simp only [laws_heldSegmentS.l0,hw,hw2,marksG_at l c j hj,gG,hlen]
  exact Evt.pos (by omega) (Evt.pos (by omega) (Evt.bind (mt_ev _ (by omega)) (Evt.pos rfl (Evt.bind (heldE_ev _ (cG l c j+1) (h.2 j hj) (by omega) (by omega)) (Evt.neg (by omega) hr)))))
 ·intro s
  simp only [laws_heldSegmentS.l0,hlen]
  exact Evt.neg (by omega) (Evt.pure _)
end Go.Proofs.YtaememmnhmebcaaGreatDoor.QB
namespace Go.Proofs.YtaememmnhmebcaaGreatDoor.QB
open Go.RowKit Go.Proofs.YtaememmnhmebcaaGreatDoor Go.Proofs.YtaememmnhmebcaaGreatDoorW.PrintWords Go.Proofs.YtaememmnhmebcaaGreatDoor.Ev0
abbrev LnX:=S63
noncomputable def gJ (s:Int):LnX:=⟨s,mt (s+1),s+2,s+3,mt (s+4)⟩
noncomputable def marksJ (n:Nat) (c:Int):List LnX:=(List.range n).map fun (j:Nat)=>gJ (c+5 * (j:Int))
theorem markJ_ev (l:List LnX) (c:Int) (h0:0≤c) (hc:c+5 * (l.length:Int)≤1000000000000000000):Evt (fun k=>laws_markLineS.f k l c) (c+5 * l.length,marksJ l.length c):=by
 unfold laws_markLineS.f
 refine mark_loop l.length l rfl 5 c gJ (fun k acc s i=>laws_markLineS.l0 k acc s i) ?_ ?_
 ·intro acc i h1 hlt hl r hr
  have hw:wrap64 (i+1)=i+1:=w64 (by omega) (by omega)
  have w1:wrap64 (c+5 * i+1)=c+5 * i+1:=w64 (by omega) (by omega)
  have w2:wrap64 (c+5 * i+1+1)=c+5 * i+2:=by rw [w64 (by omega) (by omega)];omega
  have w3:wrap64 (c+5 * i+2+1)=c+5 * i+3:=by rw [w64 (by omega) (by omega)];omega
  have w4:wrap64 (c+5 * i+3+1)=c+5 * i+4:=by rw [w64 (by omega) (by omega)];omega
  have w5:wrap64 (c+5 * i+4+1)=c+5 * i+5:=by rw [w64 (by omega) (by omega)];omega
  simp only [laws_markLineS.l0,hw,w1,w2,w3,w4,w5]
  exact Evt.pos (by omega) (Evt.pos h1 (Evt.bind (mt_ev _ (by omega)) (Evt.bind (mt_ev _ (by omega)) hr)))
 ·intro acc s hl
  simp only [laws_markLineS.l0]
  exact Evt.neg (by omega) (Evt.pure _)
end Go.Proofs.YtaememmnhmebcaaGreatDoor.QB
namespace Go.Proofs.YtaememmnhmebcaaGreatDoor.QB
open Go.RowKit Go.Proofs.YtaememmnhmebcaaGreatDoorW.PrintWords Go.Proofs.YtaememmnhmebcaaGreatDoor.Ev0 Go.Proofs.YtaememmnhmebcaaGreatDoor.Num
theorem smE_of {l:List S77} (h:l.length≤1000) (h1:∀ x ∈ l,x.f0.length≤1000):smE l:=⟨h,fun j hj=>by
 unfold rd_T77
 rw [Int.toNat_natCast,getD_at l _ _ hj]
 exact h1 _ (List.getElem_mem _)⟩
theorem smG_of {l:List S46} (h:l.length≤1000) (h1:∀ x ∈ l,smE x.f1):smG l:=⟨h,fun j hj=>by
 unfold rd_T46
 rw [Int.toNat_natCast,getD_at l _ _ hj]
 exact h1 _ (List.getElem_mem _)⟩
theorem sm_sg (t:ByteArray) (ps:List ByteArray) (h:ps.length≤1000):smE (sg t ps).f1:=smE_of (by simp [sg];omega) (fun x hx=>by
 obtain ⟨y,_,rfl⟩:=List.mem_map.1 hx
 simp [el1])
theorem sm_body (p:PP) (hn:p.notes.length≤40) (hl:p.lines.length≤20):smG (bodyS p):=smG_of (by have:=bodyG_len p (lnS p.kind);have e:(bodyS p).length=1+p.notes.length+p.lines.length:=this;omega) (fun x hx=>by
 unfold bodyS at hx
 rcases List.mem_cons.1 hx with hx|hx
 ·rw [hx]
  exact sm_sg _ _ (by unfold docP;split <;> simp)
 ·rcases List.mem_append.1 hx with hx|hx
  ·obtain ⟨y,_,rfl⟩:=List.mem_map.1 hx
   exact sm_sg _ _ (by simp)
  ·obtain ⟨y,_,rfl⟩:=List.mem_map.1 hx
   exact sm_sg _ _ (by have:=lnS_len p.kind y;omega))
theorem body_both (p:PP) (hp:ppOk p):∃ l,Evt (fun k=>impl_PaperBody.f k p.kind p.ref p.oth p.day p.notes p.lines) l∧Evt (fun k=>spec_PaperBody.f k p.kind p.ref p.oth p.day p.notes p.lines) l∧smG l∧fewB l:=by
 obtain ⟨b,hI,hS,hb⟩:=right_body p hp
 unfold impl_PaperBody.f spec_PaperBody.f
 cases b
 ·exact ⟨[],Evt.bind hI (Evt.neg (by simp) (Evt.pure _)),Evt.bind hS (Evt.neg (by simp) (Evt.pure _)),⟨by simp,fun j hj=>by simp at hj⟩,⟨by simp,fun x hx=>by cases hx⟩⟩
 ·obtain ⟨hk,hn,hl,e⟩:=hb rfl
  have h1:=bodyI_ev p hk hp (by omega) hl
  rw [e] at h1
  exact ⟨bodyS p,Evt.bind hI (Evt.pos rfl (Evt.bind h1 (Evt.pure _))),Evt.bind hS (Evt.pos rfl (Evt.bind (bodyS_ev p hp (by omega) hl) (Evt.pure _))),sm_body p (by omega) hl,few_G p hp (by omega) hl (lnS p.kind) (fun l h=>⟨lnS_len _ l,lnS_size h⟩)⟩
theorem markPap_ev (kind:Int) (ref oth:ByteArray) (day:Int) (notes:List ByteArray) (lines:List S63) (hn:notes.length≤1048576) (hl:lines.length≤1048576):∃ (t:Int) (a:List ByteArray) (b:List S63),0≤t∧Evt (fun k=>laws_markPaper.f k kind ref oth day notes lines 1) (t,a,b):=by
 refine ⟨1+1 * (notes.length:Int)+5 * (lines.length:Int),marksT notes.length 1,marksJ lines.length (1+1 * (notes.length:Int)),by omega,?_⟩
 unfold laws_markPaper.f
 exact Evt.bind (markT_ev notes 1 (by decide) (by omega)) (Evt.bind (markJ_ev lines (1+1 * (notes.length:Int)) (by omega) (by omega)) (Evt.pure _))
end Go.Proofs.YtaememmnhmebcaaGreatDoor.QB
namespace Go.Proofs.YtaememmnhmebcaaGreatDoor.Pure
open Go.RowKit Go.Proofs.YtaememmnhmebcaaGreatDoor.QB Go.Proofs.YtaememmnhmebcaaGreatDoorW.PrintWords Go.Proofs.YtaememmnhmebcaaGreatDoor.Ev0
theorem FnExactPaperBody:laws_FnExactPaperBody.Pure:=by
 intro kind ref oth day notes lines w0 w1 w2 w3 w4 w5
 apply Evt.ex
 unfold laws_FnExactPaperBody.f
 obtain ⟨t,ht,h⟩:=pap_of kind ref oth day notes lines w0 w1 w2 w3 w4 w5
 refine Evt.bind ht (Evt.ite (fun _=>Evt.pure true) (fun t0=>?_))
 obtain ⟨_,hn,hl,hp⟩:=h.resolve_left t0
 have hto:=toPap_ev kind ref oth day notes lines hn hl
 obtain ⟨l,hI,hS,hg,hf⟩:=body_both _ hp
 have hq:=eqB_refl l hf
 have hpq:=eqPap_refl kind ref oth day notes (lines.map cvLn) (by omega) (by simp;omega)
 obtain ⟨m,r4,r5,m0,hm⟩:=markPap_ev kind ref oth day notes (lines.map cvLn) hn (by simp;omega)
 have hM:=markG_ev l 1 hg (by decide) (by decide)
 have hH:=heldG_ev l 1 hg (by decide) (by decide)
 have hc:=cG_le l 1 hg l.length (Nat.le_refl _)
 exact Evt.bind hto (Evt.bind hS (Evt.bind hto (Evt.bind hI (Evt.bind hq (Evt.pos rfl (Evt.bind hto (Evt.bind hpq (Evt.pos rfl (Evt.bind hm (Evt.neg (by dsimp only;omega) (Evt.bind hq (Evt.pos rfl (Evt.bind hM (Evt.bind hH (Evt.neg (by omega) (Evt.pos rfl (Evt.bind hto (Evt.bind hI (Evt.bind hq (Evt.pos rfl (Evt.bind hH (Evt.neg (by omega) (Evt.pos rfl (Evt.pure true))))))))))))))))))))))))
end Go.Proofs.YtaememmnhmebcaaGreatDoor.Pure
